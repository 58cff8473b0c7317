import PyProof.Rows.All
import Wide.All
import OpenK.AllK
import Wide.FinOn
import Open.SpecLaws
import KE.OsGo
import HandS.ForSpec
import HandS.Comp
import HandS.Iter
import HandS.Zip
import HandS.Rev
import HandS.Deep
import HandS.Style
import HandS.NoneIn
import HandS.Walk
import HandS.Evl
import PySem.Challenge.RW_truthfulpay_s01_answers
set_option Elab.async false
set_option linter.all false
set_option maxRecDepth 100000
set_option maxHeartbeats 4000000
/-! Plain mathematics, 1: what a good instance is, profiles and their numbers. -/
namespace Tp
open Su196

def cnt (ts : List (List (List Int))) : Nat := ts.foldl (fun z l => z * l.length) 1
def idx (t : List Nat) (ts : List (List (List Int))) : Nat := (t.zip ts).foldl (fun z p => z * p.2.length + p.1) 0

structure Ok (a : Instance) : Prop where
  ac1 : 1 ≤ a.agentCount
  ac3 : a.agentCount ≤ 3
  al2 : 2 ≤ a.alternativeCount
  al4 : a.alternativeCount ≤ 4
  tl : a.types.length = a.agentCount
  t4 : ∀ l ∈ a.types, l.length ≤ 4
  vl : ∀ l ∈ a.types, ∀ v ∈ l, v.length = a.alternativeCount
  vb : ∀ l ∈ a.types, ∀ v ∈ l, ∀ z ∈ v, -50 ≤ z ∧ z ≤ 50
  al : a.allocation.length = cnt a.types
  ab : ∀ x ∈ a.allocation, x < a.alternativeCount

/-- a profile -/
def Pf (a : Instance) (t : List Nat) : Prop := t.length = a.agentCount ∧ ∀ i, i < a.agentCount → t.getD i 0 < a.typeCount i
theorem pf_iff {a : Instance} {t : List Nat} : a.isProfile t = true ↔ Pf a t := by
  unfold Instance.isProfile Pf Instance.agents
  simp [List.all_eq_true, Bool.and_eq_true]

section
variable {a : Instance} (o : Ok a) {i k x : Nat} {t : List Nat}
include o
theorem typesOf_get (hi : i < a.agentCount) : a.types[i]? = some (a.typesOf i) := by
  unfold Instance.typesOf
  have h : i < a.types.length := by rw [o.tl]; exact hi
  simp [List.getD_eq_getElem?_getD, h]
theorem typesOf_mem (hi : i < a.agentCount) : a.typesOf i ∈ a.types := List.mem_of_getElem? (typesOf_get o hi)
theorem typeCount_le (hi : i < a.agentCount) : a.typeCount i ≤ 4 := o.t4 _ (typesOf_mem o hi)
theorem kind_get (hk : k < a.typeCount i) : (a.typesOf i)[k]? = some ((a.typesOf i).getD k []) := by
  have h : k < (a.typesOf i).length := hk
  simp [List.getD_eq_getElem?_getD, h]
theorem kind_mem (hk : k < a.typeCount i) : (a.typesOf i).getD k [] ∈ a.typesOf i := List.mem_of_getElem? (kind_get o hk)
theorem kind_len (hi : i < a.agentCount) (hk : k < a.typeCount i) : ((a.typesOf i).getD k []).length = a.alternativeCount :=
  o.vl _ (typesOf_mem o hi) _ (kind_mem o hk)
theorem value_get (hi : i < a.agentCount) (hk : k < a.typeCount i) (hx : x < a.alternativeCount) : ((a.typesOf i).getD k [])[x]? = some (a.value i k x) := by
  have h := kind_len o hi hk
  rw [← h] at hx
  unfold Instance.value
  simp [List.getD_eq_getElem?_getD] at hx ⊢
  simp [hx]
theorem value_bd (hi : i < a.agentCount) (hk : k < a.typeCount i) (hx : x < a.alternativeCount) : -50 ≤ a.value i k x ∧ a.value i k x ≤ 50 :=
  o.vb _ (typesOf_mem o hi) _ (kind_mem o hk) _ (List.mem_of_getElem? (value_get o hi hk hx))
end

theorem foldl_idx (g : Nat → Nat → Nat → Nat) (ts : List (List (List Int))) : ∀ (t : List Nat) (n z : Nat), t.length + n = ts.length →
    ((t.zip (ts.drop n)).foldl (fun z p => g z p.2.length p.1) z) = (List.range t.length).foldl (fun z i => g z ((ts.getD (n + i) []).length) (t.getD i 0)) z := by
  intro t
  induction t with
  | nil => intro n z h; simp
  | cons x t ih =>
    intro n z h
    have hn : n < ts.length := by simp at h; omega
    rw [List.drop_eq_getElem_cons hn, List.zip_cons_cons, List.foldl_cons, ih (n + 1) _ (by simp at h; omega)]
    simp only [List.length_cons]
    rw [List.range_succ_eq_map, List.foldl_cons, List.foldl_map]
    simp only [List.getD_cons_zero, List.getD_cons_succ, Nat.add_zero]
    rw [show (ts.getD n []).length = ts[n].length by rw [List.getD_eq_getElem?_getD, List.getElem?_eq_getElem hn]; rfl]
    congr 1
    funext z i
    rw [show n + 1 + i = n + i.succ by omega]
theorem profileIndex_eq {a : Instance} (o : Ok a) {t : List Nat} (h : t.length = a.agentCount) : a.profileIndex t = idx t a.types := by
  unfold idx Instance.profileIndex Instance.agents Instance.typeCount Instance.typesOf
  have q := foldl_idx (fun z l k => z * l + k) a.types t 0 0 (by rw [o.tl, h]; rfl)
  simp only [List.drop_zero, Nat.zero_add] at q
  rw [q, h]

theorem cnt_foldl (ts : List (List (List Int))) (z : Nat) : ts.foldl (fun z l => z * l.length) z = z * cnt ts := by
  unfold cnt
  induction ts generalizing z with
  | nil => simp
  | cons l ts ih => simp only [List.foldl_cons]; rw [ih, ih (1 * l.length)]; simp [Nat.mul_assoc]
theorem cnt_cons (l : List (List Int)) (ts : List (List (List Int))) : cnt (l :: ts) = l.length * cnt ts := by
  unfold cnt; rw [List.foldl_cons, cnt_foldl]; unfold cnt; simp
theorem idx_foldl : ∀ (t : List Nat) (ts : List (List (List Int))) (z : Nat), t.length = ts.length → (∀ i, i < t.length → t.getD i 0 < (ts.getD i []).length) →
    (t.zip ts).foldl (fun z p => z * p.2.length + p.1) z < (z + 1) * cnt ts
  | [], [], z, _, _ => by simp [cnt]
  | x :: t, l :: ts, z, h, hl => by
    rw [List.zip_cons_cons, List.foldl_cons, cnt_cons]
    have h0 : x < l.length := by have := hl 0 (by simp); simpa using this
    have q := idx_foldl t ts (z * l.length + x) (by simpa using h) fun i hi => by
      have := hl (i + 1) (by simp; omega)
      simpa using this
    refine Nat.lt_of_lt_of_le q ?_
    rw [← Nat.mul_assoc]
    refine Nat.mul_le_mul_right _ ?_
    have : z * l.length + x + 1 ≤ z * l.length + l.length := by omega
    rw [Nat.add_mul]; omega
theorem idx_lt {a : Instance} (o : Ok a) {t : List Nat} (p : Pf a t) : idx t a.types < cnt a.types := by
  have := idx_foldl t a.types 0 (by rw [p.1, o.tl]) (fun i hi => by
    have := p.2 i (by rw [← p.1]; exact hi)
    exact this)
  simpa [idx] using this
theorem allocated_get {a : Instance} (o : Ok a) {t : List Nat} (p : Pf a t) : a.allocation[idx t a.types]? = some (a.allocated t) := by
  unfold Instance.allocated
  rw [profileIndex_eq o p.1]
  have h : idx t a.types < a.allocation.length := by rw [o.al]; exact idx_lt o p
  simp [List.getD_eq_getElem?_getD, h]
theorem allocated_lt {a : Instance} (o : Ok a) {t : List Nat} (p : Pf a t) : a.allocated t < a.alternativeCount := o.ab _ (List.mem_of_getElem? (allocated_get o p))
theorem pf_set {a : Instance} {t : List Nat} (p : Pf a t) {i k : Nat} (hk : k < a.typeCount i) : Pf a (t.set i k) := by
  refine ⟨by simp [p.1], fun j hj => ?_⟩
  have := p.2 j hj
  rw [List.getD_eq_getElem?_getD] at this ⊢
  by_cases e : i = j
  · subst e
    rw [List.getElem?_set_self (by rw [p.1]; exact hj)]
    exact hk
  · rw [List.getElem?_set_ne e]
    exact this
theorem set_eq {α : Type} (t : List α) (i : Nat) (k : α) (h : i < t.length) : t.take i ++ [k] ++ t.drop (i + 1) = t.set i k := by
  rw [List.set_eq_take_append_cons_drop, if_pos h]
  simp

/-! ### the numbering of profiles -/
/-- the digits of a number, the last place first -/
def digs : List Nat → Nat → List Nat
  | [], _ => []
  | k :: r, n => (n % k) :: digs r (n / k)
def prod (ks : List Nat) : Nat := ks.foldr (fun k z => k * z) 1
theorem prod_append (l r : List Nat) : prod (l ++ r) = prod l * prod r := by
  unfold prod
  induction l with
  | nil => simp
  | cons k l ih => simp only [List.cons_append, List.foldr_cons, ih]; rw [Nat.mul_assoc]
theorem prod_reverse (l : List Nat) : prod l.reverse = prod l := by
  induction l with
  | nil => rfl
  | cons k l ih => rw [List.reverse_cons, prod_append, ih]; simp [prod, Nat.mul_comm]
theorem digs_append : ∀ (l r : List Nat) (n : Nat), digs (l ++ r) n = digs l n ++ digs r (n / prod l)
  | [], r, n => by simp [digs, prod]
  | k :: l, r, n => by
    simp only [List.cons_append, digs]
    rw [digs_append l r, Nat.div_div_eq_div_mul]
    rfl
theorem digs_add : ∀ (l : List Nat) (c m : Nat), digs l (c * prod l + m) = digs l m
  | [], c, m => rfl
  | k :: l, c, m => by
    have e : prod (k :: l) = k * prod l := rfl
    simp only [digs]
    have h1 : c * (k * prod l) + m = k * (c * prod l) + m := by rw [← Nat.mul_assoc, Nat.mul_comm c k, Nat.mul_assoc]
    rw [e, h1, Nat.mul_add_mod]
    by_cases hk : k = 0
    · subst hk; simp
    · rw [Nat.mul_add_div (by omega), digs_add l c]
theorem range_mul {α : Type} (P : Nat) (f : Nat → α) : ∀ k : Nat, (List.range (k * P)).map f = (List.range k).flatMap fun t => (List.range P).map fun m => f (t * P + m)
  | 0 => by simp
  | k + 1 => by
    rw [Nat.succ_mul, List.range_add, List.map_append, range_mul P f k, List.range_succ, List.flatMap_append]
    simp
theorem enum_eq : ∀ ks : List Nat, enumerateProfiles ks = (List.range (prod ks)).map fun n => (digs ks.reverse n).reverse
  | [] => rfl
  | k :: l => by
    show ((List.range k).flatMap fun t => (enumerateProfiles l).map fun r => t :: r) = _
    rw [show prod (k :: l) = k * prod l from rfl, range_mul, enum_eq l]
    rw [List.flatMap_def, List.flatMap_def]
    congr 1
    refine List.map_congr_left fun t ht => ?_
    rw [List.map_map]
    refine List.map_congr_left fun m hm => ?_
    rw [List.mem_range] at ht hm
    simp only [Function.comp, List.reverse_cons]
    rw [digs_append, prod_reverse]
    have e1 : digs l.reverse (t * prod l + m) = digs l.reverse m := by
      have := digs_add l.reverse t m
      rwa [prod_reverse] at this
    have e2 : (t * prod l + m) / prod l = t := by
      rw [Nat.mul_comm, Nat.mul_add_div (by omega), Nat.div_eq_of_lt hm]; rfl
    rw [e1, e2]
    simp [digs, Nat.mod_eq_of_lt ht]
theorem cnt_prod (ts : List (List (List Int))) : cnt ts = prod (ts.map List.length) := by
  induction ts with
  | nil => rfl
  | cons l ts ih => rw [cnt_cons, ih]; rfl
/-- the profile with a number, as the program makes it -/
def profAt (ts : List (List (List Int))) (n : Nat) : List Nat := (digs (ts.map List.length).reverse n).reverse
theorem profiles_eq (a : Instance) : a.profiles = (List.range (cnt a.types)).map (profAt a.types) := by
  unfold Instance.profiles
  rw [enum_eq, cnt_prod]
  rfl
theorem profiles_length (a : Instance) : a.profiles.length = cnt a.types := by rw [profiles_eq]; simp
theorem enum_mem : ∀ {ks : List Nat} {t : List Nat}, t ∈ enumerateProfiles ks → t.length = ks.length ∧ ∀ i, i < ks.length → t.getD i 0 < ks.getD i 0
  | [], t, h => by simp [enumerateProfiles] at h; subst h; simp
  | k :: l, t, h => by
    simp only [enumerateProfiles, List.mem_flatMap, List.mem_map, List.mem_range] at h
    obtain ⟨x, hx, r, hr, rfl⟩ := h
    obtain ⟨h1, h2⟩ := enum_mem hr
    refine ⟨by simp [h1], fun i hi => ?_⟩
    cases i with
    | zero => simpa using hx
    | succ i => simpa using h2 i (by simpa using hi)
theorem pf_of_mem {a : Instance} (o : Ok a) {t : List Nat} (h : t ∈ a.profiles) : Pf a t := by
  obtain ⟨h1, h2⟩ := enum_mem h
  refine ⟨by rw [h1]; simp [o.tl], fun i hi => ?_⟩
  have := h2 i (by simp [o.tl, hi])
  have e : (a.types.map List.length).getD i 0 = a.typeCount i := by
    unfold Instance.typeCount
    rw [List.getD_eq_getElem?_getD, List.getElem?_map, typesOf_get o hi]
    rfl
  rwa [e] at this
theorem profAt_get {a : Instance} {n : Nat} (h : n < cnt a.types) : a.profiles[n]? = some (profAt a.types n) := by
  rw [profiles_eq]; simp [h]
theorem profAt_pf {a : Instance} (o : Ok a) {n : Nat} (h : n < cnt a.types) : Pf a (profAt a.types n) := pf_of_mem o (List.mem_of_getElem? (profAt_get h))

theorem cnt_le : ∀ (ts : List (List (List Int))), (∀ l ∈ ts, l.length ≤ 4) → cnt ts ≤ 4 ^ ts.length
  | [], _ => by simp [cnt]
  | l :: ts, h => by
    rw [cnt_cons, List.length_cons, Nat.pow_succ, Nat.mul_comm]
    exact Nat.mul_le_mul (cnt_le ts fun l hl => h l (List.mem_cons_of_mem _ hl)) (h l List.mem_cons_self)
theorem cnt_le64 {a : Instance} (o : Ok a) : cnt a.types ≤ 64 := by
  refine Nat.le_trans (cnt_le a.types o.t4) ?_
  rw [o.tl]
  exact Nat.le_trans (Nat.pow_le_pow_right (by decide) o.ac3) (by decide)
theorem ready_iff {a : Instance} : a.isReady = true ↔ ∀ l ∈ a.types, l ≠ [] := by
  unfold Instance.isReady
  simp [List.all_eq_true]
theorem cnt_pos : ∀ {ts : List (List (List Int))}, (∀ l ∈ ts, l ≠ []) → 0 < cnt ts
  | [], _ => by simp [cnt]
  | l :: ts, h => by
    rw [cnt_cons]
    exact Nat.mul_pos (List.length_pos_iff.mpr (h l List.mem_cons_self)) (cnt_pos fun l hl => h l (List.mem_cons_of_mem _ hl))
theorem cnt_zero : ∀ {ts : List (List (List Int))}, [] ∈ ts → cnt ts = 0
  | l :: ts, h => by
    rw [cnt_cons]
    rcases List.mem_cons.mp h with e | h
    · rw [← e]; simp
    · rw [cnt_zero h]; simp
end Tp
/-! Plain mathematics, 2: the greatest, the cycles. -/
namespace Tp
open Su196

/-! ### first_greatest -/
def fgs (ns : List Int) (i : Nat) : Nat := (List.range i).foldl (fun b j => if ns.getD b 0 < ns.getD (1 + j) 0 then 1 + j else b) 0
def fg (ns : List Int) : Nat := fgs ns (ns.length - 1)
theorem fgs_succ (ns : List Int) (i : Nat) : fgs ns (i + 1) = if ns.getD (fgs ns i) 0 < ns.getD (1 + i) 0 then 1 + i else fgs ns i := by
  unfold fgs
  rw [List.range_succ, List.foldl_append]
  rfl
theorem fgs_le (ns : List Int) : ∀ i, fgs ns i ≤ i
  | 0 => Nat.le_refl _
  | i + 1 => by
    rw [fgs_succ]
    have := fgs_le ns i
    split <;> omega
theorem fgs_max (ns : List Int) : ∀ i j, j ≤ i → ns.getD j 0 ≤ ns.getD (fgs ns i) 0
  | 0, j, h => by
    have : j = 0 := by omega
    subst this
    exact Int.le_refl _
  | i + 1, j, h => by
    rw [fgs_succ]
    by_cases e : j = i + 1
    · subst e
      rw [Nat.add_comm 1 i]
      split <;> omega
    · have := fgs_max ns i j (by omega)
      split <;> omega
theorem argmax_succ (f : Nat → Int) (n : Nat) : argmax (List.range (n + 1)) f = if f (argmax (List.range n) f) < f n then n else argmax (List.range n) f := by
  unfold argmax
  rw [List.range_succ, List.foldl_append]
  rfl
theorem getD_map_range (f : Nat → Int) {n j : Nat} (h : j < n) : ((List.range n).map f).getD j 0 = f j := by
  rw [List.getD_eq_getElem?_getD, List.getElem?_map, List.getElem?_range h]
  rfl
theorem argmax_fgs (f : Nat → Int) (n : Nat) : ∀ i, i < n → argmax (List.range (i + 1)) f = fgs ((List.range n).map f) i
  | 0, h => by
    show (if f 0 < f 0 then 0 else 0) = 0
    split <;> rfl
  | i + 1, h => by
    rw [argmax_succ, argmax_fgs f n i (by omega), fgs_succ, getD_map_range f (by have := fgs_le ((List.range n).map f) i; omega), getD_map_range f (by omega), Nat.add_comm 1 i]
theorem argmax_fg (f : Nat → Int) {n : Nat} (h : 0 < n) : argmax (List.range n) f = fg ((List.range n).map f) := by
  obtain ⟨m, rfl⟩ : ∃ m, n = m + 1 := ⟨n - 1, by omega⟩
  rw [argmax_fgs f (m + 1) m (by omega)]
  unfold fg
  simp
theorem argmax_lt (f : Nat → Int) {n : Nat} (h : 0 < n) : argmax (List.range n) f < n := by
  rw [argmax_fg f h]
  have := fgs_le ((List.range n).map f) (((List.range n).map f).length - 1)
  unfold fg
  simp at this ⊢
  omega
theorem argmax_ge (f : Nat → Int) {n : Nat} {j : Nat} (h : j < n) : f j ≤ f (argmax (List.range n) f) := by
  have h0 : 0 < n := by omega
  have q := fgs_max ((List.range n).map f) (n - 1) j (by omega)
  rw [getD_map_range f h] at q
  have e := argmax_lt f h0
  rw [argmax_fg f h0] at e ⊢
  unfold fg at e ⊢
  simp only [List.length_map, List.length_range] at e ⊢
  rwa [getD_map_range f e] at q
/-- the greatest of a list is the function at argmax -/
theorem max_is (f : Nat → Int) {n : Nat} (h : 0 < n) {m : Int} (hm : m ∈ (List.range n).map f) (hg : ∀ y, y ∈ (List.range n).map f → y ≤ m) : m = f (argmax (List.range n) f) := by
  obtain ⟨j, hj, rfl⟩ := List.mem_map.mp hm
  have h1 := argmax_ge f (List.mem_range.mp hj)
  have h2 := hg _ (List.mem_map_of_mem (f := f) (List.mem_range.mpr (argmax_lt f h)))
  omega

/-! ### cycles -/
def onward (many : Nat) (c : List Nat) : List (List Nat) := (((List.range (many - (c.headD 0 + 1))).map fun i => c.headD 0 + 1 + i).filter fun k => !c.contains k).map fun k => c ++ [k]
def longer (many : Nat) (cs : List (List Nat)) : List (List Nat) := cs.flatMap (onward many)
def cysz (many : Nat) : Nat → List (List Nat)
  | 0 => (List.range many).map fun k => [k]
  | n + 1 => longer many (cysz many n)
def cyup (many size : Nat) : List (List Nat) := (List.range (size - 1)).flatMap fun j => cysz many (j + 1)
def specCyc (n : Nat) : List (List Nat) := (List.range (n - 1)).flatMap fun k => (arrangements (k + 2) (List.range n)).filter fun r => r.all fun x => decide (r.headD 0 ≤ x)
theorem cycles_eq (a : Instance) (i : Nat) : a.cycles i = specCyc (a.typeCount i) := rfl
theorem cyup_four {n : Nat} (h : n ≤ 4) : cyup n 4 = specCyc n := by
  match n, h with
  | 0, _ => rfl
  | 1, _ => decide +kernel
  | 2, _ => decide +kernel
  | 3, _ => decide +kernel
  | 4, _ => decide +kernel
theorem cyup_two {n : Nat} (h : n ≤ 4) : cyup n 2 = (specCyc n).filter fun r => r.length == 2 := by
  match n, h with
  | 0, _ => rfl
  | 1, _ => decide +kernel
  | 2, _ => decide +kernel
  | 3, _ => decide +kernel
  | 4, _ => decide +kernel
theorem onward_len (many : Nat) (c : List Nat) : (onward many c).length ≤ many := by
  unfold onward
  rw [List.length_map]
  refine Nat.le_trans (List.length_filter_le _ _) ?_
  simp
theorem longer_len (many : Nat) : ∀ cs : List (List Nat), (longer many cs).length ≤ cs.length * many
  | [] => by simp [longer]
  | c :: cs => by
    have e : longer many (c :: cs) = onward many c ++ longer many cs := by simp [longer]
    rw [e, List.length_append, List.length_cons, Nat.succ_mul]
    have := onward_len many c
    have := longer_len many cs
    omega
theorem cysz_len {n : Nat} (h : n ≤ 4) : ∀ k, (cysz n k).length ≤ n * 4 ^ k
  | 0 => by simp [cysz]
  | k + 1 => by
    have h1 : (longer n (cysz n k)).length ≤ (cysz n k).length * n := longer_len n (cysz n k)
    have h2 := cysz_len h k
    have h3 : (cysz n k).length * n ≤ (n * 4 ^ k) * 4 := Nat.mul_le_mul h2 h
    have e : n * 4 ^ (k + 1) = (n * 4 ^ k) * 4 := by rw [Nat.pow_succ, Nat.mul_assoc]
    show (longer n (cysz n k)).length ≤ _
    omega
theorem cysz_good {n : Nat} : ∀ k, ∀ c ∈ cysz n k, c.length = k + 1 ∧ (∀ x ∈ c, x < n)
  | 0, c, hc => by
    simp only [cysz, List.mem_map, List.mem_range] at hc
    obtain ⟨k, hk, rfl⟩ := hc
    simpa using hk
  | k + 1, c, hc => by
    have hc : c ∈ longer n (cysz n k) := hc
    simp only [longer, onward, List.mem_flatMap, List.mem_map, List.mem_filter, List.mem_range] at hc
    obtain ⟨d, hd, x, ⟨⟨i, hi, rfl⟩, _⟩, rfl⟩ := hc
    obtain ⟨h1, h2⟩ := cysz_good k d hd
    refine ⟨by simp [h1], fun y hy => ?_⟩
    rcases List.mem_append.mp hy with hy | hy
    · exact h2 y hy
    · simp only [List.mem_singleton] at hy; omega
theorem cyup_good {n s : Nat} {c : List Nat} (h : c ∈ cyup n s) : 2 ≤ c.length ∧ c.length ≤ s ∧ ∀ x ∈ c, x < n := by
  simp only [cyup, List.mem_flatMap, List.mem_range] at h
  obtain ⟨j, hj, hc⟩ := h
  obtain ⟨h1, h2⟩ := cysz_good _ c hc
  exact ⟨by omega, by omega, h2⟩
theorem cyup_len {n s : Nat} (h : n ≤ 4) (hs : s ≤ 4) : (cyup n s).length ≤ 2000 := by
  have h0 := cysz_len h 1
  have h1 := cysz_len h 2
  have h2 := cysz_len h 3
  unfold cyup
  match s, hs with
  | 0, _ => simp
  | 1, _ => simp
  | 2, _ =>
    show ((List.range 1).flatMap fun j => cysz n (j + 1)).length ≤ 2000
    simp [List.range_succ] at h0 ⊢; omega
  | 3, _ =>
    show ((List.range 2).flatMap fun j => cysz n (j + 1)).length ≤ 2000
    simp [List.range_succ] at h0 h1 ⊢; omega
  | 4, _ =>
    show ((List.range 3).flatMap fun j => cysz n (j + 1)).length ≤ 2000
    simp [List.range_succ] at h0 h1 h2 ⊢; omega

/-! ### negative cycles -/
def negCyc (a : Instance) (i : Nat) (t : List Nat) (size : Nat) : Option (List Nat) := (cyup (a.typeCount i) size).find? fun r => decide (a.cycleLength i t r < 0)
theorem neg_four {a : Instance} {i : Nat} (h : a.typeCount i ≤ 4) (t : List Nat) : negCyc a i t 4 = a.negativeCycle i t := by
  unfold negCyc Instance.negativeCycle
  rw [cyup_four h, cycles_eq]
theorem neg_two {a : Instance} {i : Nat} (h : a.typeCount i ≤ 4) (t : List Nat) : negCyc a i t 2 = ((a.cycles i).filter fun r => r.length == 2).find? fun r => decide (a.cycleLength i t r < 0) := by
  unfold negCyc
  rw [cyup_two h, cycles_eq]
def firstNeg (a : Instance) (size : Nat) : Option (Nat × List Nat × List Nat) := a.agents.findSome? fun i => (a.baseProfiles i).findSome? fun t => (negCyc a i t size).map fun r => (i, t, r)
theorem findSome_congr {α β : Type} {f g : α → Option β} : ∀ {l : List α}, (∀ x ∈ l, f x = g x) → l.findSome? f = l.findSome? g
  | [], _ => rfl
  | x :: l, h => by
    rw [List.findSome?_cons, List.findSome?_cons, h x List.mem_cons_self, findSome_congr fun y hy => h y (List.mem_cons_of_mem _ hy)]
theorem first_four {a : Instance} (o : Ok a) : firstNeg a 4 = a.cyclicViolation := by
  unfold firstNeg Instance.cyclicViolation
  refine findSome_congr fun i hi => findSome_congr fun t _ => ?_
  rw [neg_four (typeCount_le o (by simpa [Instance.agents] using hi))]
theorem first_two {a : Instance} (o : Ok a) : firstNeg a 2 = a.weakViolation := by
  unfold firstNeg Instance.weakViolation
  refine findSome_congr fun i hi => findSome_congr fun t _ => ?_
  rw [neg_two (typeCount_le o (by simpa [Instance.agents] using hi))]
theorem baseProfiles_pf {a : Instance} (o : Ok a) {i : Nat} {t : List Nat} (h : t ∈ a.baseProfiles i) : Pf a t := pf_of_mem o ((List.mem_filter.mp h).1)
end Tp
/-! Plain mathematics, 3: distances. -/
namespace Tp
open Su196

/-- one more edge, or none -/
def near (n : Nat) (L : Nat → Nat → Int) (d : Nat → Int) (l : Nat) : Int := (List.range n).foldl (fun b x => minInt b (d x + L l x)) (d l)
/-- the walks of at most s + 1 edges -/
def dis (n : Nat) (L : Nat → Nat → Int) (k : Nat) : Nat → Nat → Int
  | 0 => fun l => L l k
  | s + 1 => near n L (dis n L k s)

theorem minInt_le (x y : Int) : minInt x y ≤ x ∧ minInt x y ≤ y := by unfold minInt; split <;> omega
theorem minInt_or (x y : Int) : minInt x y = x ∨ minInt x y = y := by unfold minInt; split <;> simp
theorem foldl_min_le (f : Nat → Int) : ∀ (l : List Nat) (b : Int), l.foldl (fun b x => minInt b (f x)) b ≤ b ∧ ∀ x ∈ l, l.foldl (fun b x => minInt b (f x)) b ≤ f x
  | [], b => by simp
  | y :: l, b => by
    rw [List.foldl_cons]
    obtain ⟨h1, h2⟩ := foldl_min_le f l (minInt b (f y))
    have h3 := minInt_le b (f y)
    refine ⟨by omega, fun x hx => ?_⟩
    rcases List.mem_cons.mp hx with e | hx
    · subst e; omega
    · exact h2 x hx
theorem foldl_min_or (f : Nat → Int) : ∀ (l : List Nat) (b : Int), l.foldl (fun b x => minInt b (f x)) b = b ∨ ∃ x ∈ l, l.foldl (fun b x => minInt b (f x)) b = f x
  | [], b => by simp
  | y :: l, b => by
    rw [List.foldl_cons]
    rcases foldl_min_or f l (minInt b (f y)) with h | ⟨x, hx, h⟩
    · rcases minInt_or b (f y) with e | e
      · exact .inl (h.trans e)
      · exact .inr ⟨y, List.mem_cons_self, h.trans e⟩
    · exact .inr ⟨x, List.mem_cons_of_mem _ hx, h⟩

section
variable {n : Nat} {L : Nat → Nat → Int}
theorem near_le (d : Nat → Int) (l x : Nat) (hx : x < n) : near n L d l ≤ d x + L l x := (foldl_min_le (fun x => d x + L l x) (List.range n) (d l)).2 x (List.mem_range.mpr hx)
theorem near_le0 (d : Nat → Int) (l : Nat) : near n L d l ≤ d l := (foldl_min_le (fun x => d x + L l x) (List.range n) (d l)).1
theorem near_at (h0 : ∀ x, L x x = 0) (d : Nat → Int) (l : Nat) (hl : l < n) : ∃ x, x < n ∧ near n L d l = d x + L l x := by
  rcases foldl_min_or (fun x => d x + L l x) (List.range n) (d l) with h | ⟨x, hx, h⟩
  · refine ⟨l, hl, ?_⟩
    show (List.range n).foldl (fun b x => minInt b (d x + L l x)) (d l) = d l + L l l
    rw [h, h0]
    omega
  · exact ⟨x, List.mem_range.mp hx, h⟩
theorem near_congr {d e : Nat → Int} (h : ∀ x, x < n → d x = e x) {l : Nat} (hl : l < n) : near n L d l = near n L e l := by
  unfold near
  rw [h l hl]
  have q : ∀ (xs : List Nat) (b : Int), (∀ x ∈ xs, x < n) → xs.foldl (fun b x => minInt b (d x + L l x)) b = xs.foldl (fun b x => minInt b (e x + L l x)) b := by
    intro xs
    induction xs with
    | nil => intros; rfl
    | cons y xs ih =>
      intro b hb
      rw [List.foldl_cons, List.foldl_cons, h y (hb y List.mem_cons_self), ih _ fun x hx => hb x (List.mem_cons_of_mem _ hx)]
  exact q _ _ fun x hx => List.mem_range.mp hx

/-- no cycle of two, three, four is negative -/
structure NoNeg (n : Nat) (L : Nat → Nat → Int) : Prop where
  z : ∀ x, L x x = 0
  c2 : ∀ x y, x < n → y < n → x < y → 0 ≤ L y x + L x y
  c3 : ∀ x y z, x < n → y < n → z < n → x < y → x < z → y ≠ z → 0 ≤ L y x + L z y + L x z
  c4 : ∀ x y z w, x < n → y < n → z < n → w < n → x < y → x < z → x < w → y ≠ z → y ≠ w → z ≠ w → 0 ≤ L y x + L z y + L w z + L x w
theorem NoNeg.two (N : NoNeg n L) {x y : Nat} (hx : x < n) (hy : y < n) : 0 ≤ L y x + L x y := by
  rcases Nat.lt_trichotomy x y with h | h | h
  · exact N.c2 x y hx hy h
  · subst h; rw [N.z]; decide
  · have := N.c2 y x hy hx h; omega
theorem NoNeg.three (N : NoNeg n L) {x y z : Nat} (hx : x < n) (hy : y < n) (hz : z < n) : 0 ≤ L y x + L z y + L x z := by
  by_cases e1 : x = y
  · subst e1
    have := N.two hx hz
    rw [N.z]; omega
  by_cases e2 : y = z
  · subst e2
    have := N.two hx hy
    rw [N.z y]; omega
  by_cases e3 : x = z
  · subst e3
    have := N.two hx hy
    rw [N.z x]; omega
  by_cases h1 : x < y ∧ x < z
  · exact N.c3 x y z hx hy hz h1.1 h1.2 e2
  by_cases h2 : y < x ∧ y < z
  · have := N.c3 y z x hy hz hx h2.2 h2.1 (Ne.symm e3); omega
  · have := N.c3 z x y hz hx hy (by omega) (by omega) e1; omega
theorem NoNeg.four (N : NoNeg n L) {x y z w : Nat} (hx : x < n) (hy : y < n) (hz : z < n) (hw : w < n) : 0 ≤ L y x + L z y + L w z + L x w := by
  by_cases e1 : x = y
  · subst e1
    have := N.three hx hz hw
    rw [N.z]; omega
  by_cases e2 : y = z
  · subst e2
    have := N.three hx hy hw
    rw [N.z y]; omega
  by_cases e3 : z = w
  · subst e3
    have := N.three hx hy hz
    rw [N.z z]; omega
  by_cases e4 : x = w
  · subst e4
    have := N.three hx hy hz
    rw [N.z x]; omega
  by_cases e5 : x = z
  · subst e5
    have := N.two hx hy
    have := N.two hx hw
    omega
  by_cases e6 : y = w
  · subst e6
    have := N.two hx hy
    have := N.two hz hy
    omega
  by_cases h1 : x < y ∧ x < z ∧ x < w
  · exact N.c4 x y z w hx hy hz hw h1.1 h1.2.1 h1.2.2 e2 e6 e3
  by_cases h2 : y < x ∧ y < z ∧ y < w
  · have := N.c4 y z w x hy hz hw hx h2.2.1 h2.2.2 h2.1 e3 (Ne.symm e5) (Ne.symm e4); omega
  by_cases h3 : z < x ∧ z < y ∧ z < w
  · have := N.c4 z w x y hz hw hx hy h3.2.2 h3.1 h3.2.1 (Ne.symm e4) (Ne.symm e6) e1; omega
  · have := N.c4 w x y z hw hx hy hz (by omega) (by omega) (by omega) e1 e5 e2; omega

theorem pigeon4F : ∀ k a b c l : Fin 4, k.1 = a.1 ∨ a.1 = b.1 ∨ b.1 = c.1 ∨ c.1 = l.1 ∨ k.1 = b.1 ∨ a.1 = c.1 ∨ b.1 = l.1 ∨ k.1 = c.1 ∨ a.1 = l.1 ∨ k.1 = l.1 := by decide +kernel
theorem pigeon4 (k : Nat) (hk : k < 4) (a : Nat) (ha : a < 4) (b : Nat) (hb : b < 4) (c : Nat) (hc : c < 4) (l : Nat) (hl : l < 4) : k = a ∨ a = b ∨ b = c ∨ c = l ∨ k = b ∨ a = c ∨ b = l ∨ k = c ∨ a = l ∨ k = l := pigeon4F ⟨k, hk⟩ ⟨a, ha⟩ ⟨b, hb⟩ ⟨c, hc⟩ ⟨l, hl⟩
theorem pigeon3F : ∀ k a b l : Fin 3, k.1 = a.1 ∨ a.1 = b.1 ∨ b.1 = l.1 ∨ k.1 = b.1 ∨ a.1 = l.1 ∨ k.1 = l.1 := by decide +kernel
theorem pigeon3 (k : Nat) (hk : k < 3) (a : Nat) (ha : a < 3) (b : Nat) (hb : b < 3) (l : Nat) (hl : l < 3) : k = a ∨ a = b ∨ b = l ∨ k = b ∨ a = l ∨ k = l := pigeon3F ⟨k, hk⟩ ⟨a, ha⟩ ⟨b, hb⟩ ⟨l, hl⟩
theorem pigeon2 (k : Nat) (hk : k < 2) (a : Nat) (ha : a < 2) (l : Nat) (hl : l < 2) : k = a ∨ a = l ∨ k = l := by omega

theorem dis_le (k : Nat) (s l x : Nat) (hx : x < n) : dis n L k (s + 1) l ≤ dis n L k s x + L l x := near_le _ _ _ hx
theorem stable2 {L : Nat → Nat → Int} (N : NoNeg 2 L) {k l : Nat} (hk : k < 2) (hl : l < 2) : dis 2 L k 0 l ≤ dis 2 L k 1 l := by
  obtain ⟨a, ha, e⟩ := near_at (L := L) N.z (dis 2 L k 0) l hl
  have e : dis 2 L k 1 l = L a k + L l a := e
  rw [e]
  show L l k ≤ _
  rcases pigeon2 k hk a ha l hl with q | q | q
  · subst q; rw [N.z]; omega
  · subst q; rw [N.z a]; omega
  · subst q; rw [N.z k]; have := N.two hk ha; omega
theorem stable3 {L : Nat → Nat → Int} (N : NoNeg 3 L) {k l : Nat} (hk : k < 3) (hl : l < 3) : dis 3 L k 1 l ≤ dis 3 L k 2 l := by
  obtain ⟨b, hb, e1⟩ := near_at (L := L) N.z (dis 3 L k 1) l hl
  obtain ⟨a, ha, e2⟩ := near_at (L := L) N.z (dis 3 L k 0) b hb
  have e1 : dis 3 L k 2 l = dis 3 L k 1 b + L l b := e1
  have e2 : dis 3 L k 1 b = L a k + L b a := e2
  have up : ∀ x, x < 3 → dis 3 L k 1 l ≤ L x k + L l x := fun x hx => dis_le k 0 l x hx
  rw [e1, e2]
  rcases pigeon3 k hk a ha b hb l hl with q | q | q | q | q | q
  · subst q; have := up b hb; have := N.z k; omega
  · subst q; have := up a ha; have := N.z a; omega
  · subst q; have := up a ha; have := N.z b; omega
  · subst q; have := up k hk; have := N.z k; have := N.two hk ha; omega
  · subst q; have := up a ha; have := N.z a; have := N.two ha hb; omega
  · subst q; have := up k hk; have := N.z k; have := N.three hk ha hb; omega
theorem stable4 {L : Nat → Nat → Int} (N : NoNeg 4 L) {k l : Nat} (hk : k < 4) (hl : l < 4) : dis 4 L k 2 l ≤ dis 4 L k 3 l := by
  obtain ⟨c, hc, e1⟩ := near_at (L := L) N.z (dis 4 L k 2) l hl
  obtain ⟨b, hb, e2⟩ := near_at (L := L) N.z (dis 4 L k 1) c hc
  obtain ⟨a, ha, e3⟩ := near_at (L := L) N.z (dis 4 L k 0) b hb
  have e1 : dis 4 L k 3 l = dis 4 L k 2 c + L l c := e1
  have e2 : dis 4 L k 2 c = dis 4 L k 1 b + L c b := e2
  have e3 : dis 4 L k 1 b = L a k + L b a := e3
  have up : ∀ x y, x < 4 → y < 4 → dis 4 L k 2 l ≤ L x k + L y x + L l y := fun x y hx hy => by
    have h1 : dis 4 L k 2 l ≤ dis 4 L k 1 y + L l y := dis_le k 1 l y hy
    have h2 : dis 4 L k 1 y ≤ L x k + L y x := dis_le k 0 y x hx
    omega
  rw [e1, e2, e3]
  rcases pigeon4 k hk a ha b hb c hc l hl with q | q | q | q | q | q | q | q | q | q
  · subst q; have := up b c hb hc; have := N.z k; omega
  · subst q; have := up a c ha hc; have := N.z a; omega
  · subst q; have := up a b ha hb; have := N.z b; omega
  · subst q; have := up a b ha hb; have := N.z c; omega
  · subst q; have := up k c hk hc; have := N.z k; have := N.two hk ha; omega
  · subst q; have := up k a hk ha; have := N.z k; have := N.two ha hb; omega
  · subst q; have := up k a hk ha; have := N.z k; have := N.two hb hc; omega
  · subst q; have := up k k hk hk; have := N.z k; have := N.three hk ha hb; omega
  · subst q; have := up k k hk hk; have := N.z k; have := N.three ha hb hc; omega
  · subst q; have := up k k hk hk; have := N.z k; have := N.four hk ha hb hc; omega
theorem dis_more {k s : Nat} (h : ∀ l, l < n → dis n L k s l ≤ dis n L k (s + 1) l) : ∀ l, l < n → dis n L k (s + 2) l = dis n L k s l := by
  have e : ∀ l, l < n → dis n L k (s + 1) l = dis n L k s l := fun l hl => Int.le_antisymm (near_le0 _ _) (h l hl)
  intro l hl
  show near n L (dis n L k (s + 1)) l = _
  rw [near_congr e hl]
  exact e l hl
end

/-! ### the specification's walks -/
section
variable {a : Instance} {i : Nat} {t : List Nat}
def los (a : Instance) (i : Nat) (t : List Nat) : Nat → Nat → Int := fun k l => a.loss i t k l
theorem los_self (x : Nat) : los a i t x x = 0 := by
  unfold los Instance.loss
  omega
def stepW (a : Instance) (i : Nat) (t : List Nat) (s k l : Nat) : Option Int → Nat → Option Int := fun b x => match Instance.shortestWalk a i t s k x, b with
    | some v, some w => some (minInt w (v + a.loss i t l x))
    | some v, none => some (v + a.loss i t l x)
    | none, b => b
theorem sw_succ (s k l : Nat) : Instance.shortestWalk a i t (s + 1) k l = (List.range (a.typeCount i)).foldl (stepW a i t s k l) (Instance.shortestWalk a i t s k l) := rfl
theorem sw_zero (k l : Nat) : Instance.shortestWalk a i t 0 k l = if k = l then some 0 else none := rfl
theorem sw_one_fold (k l : Nat) : ∀ m, (List.range m).foldl (stepW a i t 0 k l) (Instance.shortestWalk a i t 0 k l) = if m ≤ k then (if k = l then some 0 else none) else some (los a i t l k)
  | 0 => by simp [sw_zero]
  | m + 1 => by
    rw [List.range_succ, List.foldl_append, sw_one_fold k l m]
    show stepW a i t 0 k l _ m = _
    by_cases h : k = m
    · subst h
      have e1 : Instance.shortestWalk a i t 0 k k = some 0 := by rw [sw_zero, if_pos rfl]
      rw [if_pos (Nat.le_refl _), if_neg (show ¬ k + 1 ≤ k by omega)]
      by_cases e : k = l
      · subst e
        have h0 := los_self (a := a) (i := i) (t := t) k
        unfold los at h0 ⊢
        rw [if_pos rfl]
        unfold stepW
        rw [e1]
        simp [minInt, h0]
      · rw [if_neg e]
        unfold stepW
        rw [e1]
        simp [los]
    · have e1 : Instance.shortestWalk a i t 0 k m = none := by rw [sw_zero, if_neg h]
      have e2 : ∀ b, stepW a i t 0 k l b m = b := fun b => by unfold stepW; rw [e1]
      rw [e2]
      by_cases q : m ≤ k
      · rw [if_pos q, if_pos (show m + 1 ≤ k by omega)]
      · rw [if_neg q, if_neg (by omega)]
theorem sw_dis {k : Nat} (hk : k < a.typeCount i) : ∀ s l, Instance.shortestWalk a i t (s + 1) k l = some (dis (a.typeCount i) (los a i t) k s l)
  | 0, l => by
    rw [sw_succ, sw_one_fold, if_neg (by omega)]
    rfl
  | s + 1, l => by
    rw [sw_succ, sw_dis hk s l]
    have q : ∀ (xs : List Nat) (b : Int), xs.foldl (stepW a i t (s + 1) k l) (some b) = some (xs.foldl (fun b x => minInt b (dis (a.typeCount i) (los a i t) k s x + los a i t l x)) b) := by
      intro xs
      induction xs with
      | nil => intro b; rfl
      | cons x xs ih =>
        intro b
        rw [List.foldl_cons, List.foldl_cons]
        have e : stepW a i t (s + 1) k l (some b) x = some (minInt b (dis (a.typeCount i) (los a i t) k s x + los a i t l x)) := by
          unfold stepW
          rw [sw_dis hk s x]
          rfl
        rw [e, ih]
    rw [q]
    rfl

theorem cl2 (x y : Nat) : a.cycleLength i t [x, y] = los a i t y x + los a i t x y := by
  unfold Instance.cycleLength
  simp [List.range_succ, los]
theorem cl3 (x y z : Nat) : a.cycleLength i t [x, y, z] = los a i t y x + los a i t z y + los a i t x z := by
  unfold Instance.cycleLength
  simp [List.range_succ, los, Int.add_assoc]
theorem cl4 (x y z w : Nat) : a.cycleLength i t [x, y, z, w] = los a i t y x + los a i t z y + los a i t w z + los a i t x w := by
  unfold Instance.cycleLength
  simp [List.range_succ, los, Int.add_assoc]
def M2 (n : Nat) : Prop := ∀ x y : Fin n, x.1 < y.1 → [x.1, y.1] ∈ specCyc n
def M3 (n : Nat) : Prop := ∀ x y z : Fin n, x.1 < y.1 → x.1 < z.1 → y.1 ≠ z.1 → [x.1, y.1, z.1] ∈ specCyc n
def M4 (n : Nat) : Prop := ∀ x y z w : Fin n, x.1 < y.1 → x.1 < z.1 → x.1 < w.1 → y.1 ≠ z.1 → y.1 ≠ w.1 → z.1 ≠ w.1 → [x.1, y.1, z.1, w.1] ∈ specCyc n
instance (n : Nat) : Decidable (M2 n) := by unfold M2; infer_instance
instance (n : Nat) : Decidable (M3 n) := by unfold M3; infer_instance
instance (n : Nat) : Decidable (M4 n) := by unfold M4; infer_instance
theorem all_of {p : Nat → Prop} (h0 : p 0) (h1 : p 1) (h2 : p 2) (h3 : p 3) (h4 : p 4) {n : Nat} (h : n ≤ 4) : p n := by
  match n, h with
  | 0, _ => exact h0
  | 1, _ => exact h1
  | 2, _ => exact h2
  | 3, _ => exact h3
  | 4, _ => exact h4
theorem mem2 (n : Nat) (h : n ≤ 4) (x : Nat) (hx : x < n) (y : Nat) (hy : y < n) (h1 : x < y) : [x, y] ∈ specCyc n :=
  all_of (p := M2) (by decide +kernel) (by decide +kernel) (by decide +kernel) (by decide +kernel) (by decide +kernel) h ⟨x, hx⟩ ⟨y, hy⟩ h1
theorem mem3 (n : Nat) (h : n ≤ 4) (x : Nat) (hx : x < n) (y : Nat) (hy : y < n) (z : Nat) (hz : z < n) (h1 : x < y) (h2 : x < z) (h3 : y ≠ z) : [x, y, z] ∈ specCyc n :=
  all_of (p := M3) (by decide +kernel) (by decide +kernel) (by decide +kernel) (by decide +kernel) (by decide +kernel) h ⟨x, hx⟩ ⟨y, hy⟩ ⟨z, hz⟩ h1 h2 h3
theorem mem4 (n : Nat) (h : n ≤ 4) (x : Nat) (hx : x < n) (y : Nat) (hy : y < n) (z : Nat) (hz : z < n) (w : Nat) (hw : w < n) (h1 : x < y) (h2 : x < z) (h3 : x < w) (h5 : y ≠ z) (h6 : y ≠ w) (h7 : z ≠ w) : [x, y, z, w] ∈ specCyc n :=
  all_of (p := M4) (by decide +kernel) (by decide +kernel) (by decide +kernel) (by decide +kernel) (by decide +kernel) h ⟨x, hx⟩ ⟨y, hy⟩ ⟨z, hz⟩ ⟨w, hw⟩ h1 h2 h3 h5 h6 h7
theorem noNeg_of (h4 : a.typeCount i ≤ 4) (h : a.negativeCycle i t = none) : NoNeg (a.typeCount i) (los a i t) := by
  have q : ∀ c ∈ specCyc (a.typeCount i), 0 ≤ a.cycleLength i t c := fun c hc => by
    have := List.find?_eq_none.mp h c hc
    simpa using this
  refine ⟨los_self, fun x y hx hy h1 => ?_, fun x y z hx hy hz h1 h2 h3 => ?_, fun x y z w hx hy hz hw h1 h2 h3 h5 h6 h7 => ?_⟩
  · rw [← cl2]; exact q _ (mem2 _ h4 x hx y hy h1)
  · rw [← cl3]; exact q _ (mem3 _ h4 x hx y hy z hz h1 h2 h3)
  · rw [← cl4]; exact q _ (mem4 _ h4 x hx y hy z hz w hw h1 h2 h3 h5 h6 h7)
/-- what the program's rounds come to -/
theorem distance_is (h4 : a.typeCount i ≤ 4) (h : a.negativeCycle i t = none) {k l : Nat} (hk : k < a.typeCount i) (hl : l < a.typeCount i) : a.distance i t k l = dis (a.typeCount i) (los a i t) k (a.typeCount i) l := by
  have N := noNeg_of h4 h
  have e : a.distance i t k l = (Instance.shortestWalk a i t (a.typeCount i - 1) k l).getD 0 := rfl
  rw [e]
  have sw := fun s l => sw_dis (t := t) hk s l
  clear e h
  generalize a.typeCount i = n at *
  match n, h4 with
  | 0, _ => omega
  | 1, _ =>
    have ek : k = 0 := by omega
    have el : l = 0 := by omega
    subst ek el
    rw [show 1 - 1 = 0 from rfl, sw_zero, if_pos rfl]
    simp [dis, near, minInt, los_self]
  | 2, _ =>
    rw [show 2 - 1 = 0 + 1 from rfl, sw, dis_more (fun l hl => stable2 N hk hl) l hl, Option.getD_some]
  | 3, _ =>
    rw [show 3 - 1 = 1 + 1 from rfl, sw, dis_more (fun l hl => stable3 N hk hl) l hl, Option.getD_some]
  | 4, _ =>
    rw [show 4 - 1 = 2 + 1 from rfl, sw, dis_more (fun l hl => stable4 N hk hl) l hl, Option.getD_some]
end
end Tp
/-! Plain mathematics, 4: the calls, read by places. -/
namespace Tp
open Su196

abbrev szs : List Nat := [2, 1, 1, 0, 0, 0, 1, 2, 0, 0, 1, 1, 0, 0, 0]
abbrev lss : List Nat := [0, 1, 1, 1, 0, 1, 0, 1, 0, 0, 1, 2, 1, 1, 0]
/-- the place behind j rows from h on -/
def hr (l : List Int) (h : Nat) : Nat → Nat
  | 0 => h
  | j + 1 => hr l h j + 1 + (l.getD (hr l h j) 0).toNat
/-- the j-th row from h on -/
def rw1 (l : List Int) (h j : Nat) : List Int := (l.drop (hr l h j + 1)).take (l.getD (hr l h j) 0).toNat
theorem hr_shift (l : List Int) (h : Nat) : ∀ j, hr l h (j + 1) = hr l (h + 1 + (l.getD h 0).toNat) j
  | 0 => rfl
  | j + 1 => by
    show hr l h (j + 1) + 1 + (l.getD (hr l h (j + 1)) 0).toNat = _
    rw [hr_shift l h j]
    rfl
theorem rw1_shift (l : List Int) (h j : Nat) : rw1 l h (j + 1) = rw1 l (h + 1 + (l.getD h 0).toNat) j := by
  unfold rw1
  rw [hr_shift]
theorem drop_cons {l : List Int} {h : Nat} {m : Int} {r : List Int} (e : l.drop h = m :: r) : l[h]? = some m ∧ r = l.drop (h + 1) ∧ h < l.length := by
  have hh : h < l.length := by
    have := congrArg List.length e
    simp at this
    omega
  rw [List.drop_eq_getElem_cons hh] at e
  injection e with e1 e2
  exact ⟨by rw [List.getElem?_eq_getElem hh, e1], e2.symm, hh⟩
theorem getD_some {l : List Int} {h : Nat} {m : Int} (e : l[h]? = some m) : l.getD h 0 = m := by rw [List.getD_eq_getElem?_getD, e]; rfl
theorem rows_spec {l : List Int} : ∀ (k h : Nat) {rs : List (List Int)} {t : List Int}, h ≤ l.length → PyFlat.rows k (l.drop h) = some (rs, t) →
    (∀ j, j < k → ∃ m : Nat, l[hr l h j]? = some (m : Int)) ∧ rs = (List.range k).map (rw1 l h) ∧ t = l.drop (hr l h k) ∧ hr l h k ≤ l.length ∧ h ≤ hr l h k
  | 0, h, rs, t, hh, e => by
    simp only [PyFlat.rows, Option.some.injEq, Prod.mk.injEq] at e
    obtain ⟨rfl, rfl⟩ := e
    exact ⟨fun j hj => by omega, rfl, rfl, hh, Nat.le_refl _⟩
  | k + 1, h, rs, t, hh, e => by
    simp only [PyFlat.rows] at e
    split at e
    · cases e
    rename_i x s hrow
    split at e
    · cases e
    rename_i xs t' hrows
    simp only [Option.some.injEq, Prod.mk.injEq] at e
    obtain ⟨rfl, rfl⟩ := e
    unfold PyFlat.row at hrow
    split at hrow
    · cases hrow
    rename_i n r heq
    split at hrow
    · rename_i hc
      simp only [Option.some.injEq, Prod.mk.injEq] at hrow
      obtain ⟨rfl, rfl⟩ := hrow
      obtain ⟨h1, h2, h3⟩ := drop_cons heq
      have hg := getD_some h1
      subst h2
      have hlen : n.toNat ≤ l.length - (h + 1) := by simpa using hc.2
      rw [List.drop_drop] at hrows
      have hn : h + 1 + n.toNat = h + 1 + (l.getD h 0).toNat := by rw [hg]
      rw [hn] at hrows
      obtain ⟨q1, q2, q3, q4, q5⟩ := rows_spec k (h + 1 + (l.getD h 0).toNat) (by rw [hg]; omega) hrows
      refine ⟨fun j hj => ?_, ?_, ?_, ?_, ?_⟩
      · cases j with
        | zero => exact ⟨n.toNat, by rw [Int.toNat_of_nonneg hc.1]; exact h1⟩
        | succ j =>
          rw [hr_shift]
          exact q1 j (by omega)
      · rw [q2, List.range_succ_eq_map, List.map_cons, List.map_map]
        congr 1
        · unfold rw1
          show _ = (l.drop (h + 1)).take (l.getD h 0).toNat
          rw [hg]
        · exact List.map_congr_left fun j _ => (rw1_shift l h j).symm
      · rw [hr_shift]; exact q3
      · rw [hr_shift]; exact q4
      · rw [hr_shift]
        omega
    · cases hrow
theorem shape_spec {p : Int} {n k : Nat} (h : PySu196.shape p = some (n, k)) : ∃ q : Nat, q < 15 ∧ p = (q : Int) ∧ n = szs.getD q 0 ∧ k = lss.getD q 0 := by
  have hp : 0 ≤ p ∧ p < 15 := by
    by_cases hp : 0 ≤ p ∧ p < 15
    · exact hp
    · unfold PySu196.shape at h
      rw [if_neg (by omega), if_neg (by omega), if_neg (by omega), if_neg (by omega), if_neg (by omega), if_neg (by omega), if_neg (by omega), if_neg (by omega), if_neg (by omega), if_neg (by omega), if_neg (by omega), if_neg (by omega), if_neg (by omega), if_neg (by omega), if_neg (by omega)] at h
      cases h
  obtain ⟨q, rfl⟩ : ∃ q : Nat, p = (q : Int) := ⟨p.toNat, by omega⟩
  have hq : q < 15 := by omega
  refine ⟨q, hq, rfl, ?_⟩
  have d : ∀ q : Fin 15, PySu196.shape (q.1 : Int) = some (szs.getD q.1 0, lss.getD q.1 0) := by decide +kernel
  have := d ⟨q, hq⟩
  rw [this] at h
  simp only [Option.some.injEq, Prod.mk.injEq] at h
  exact ⟨h.1.symm, h.2.symm⟩
/-- one call at i -/
theorem call_spec {l : List Int} {i : Nat} {c : List (List Int)} {t : List Int} (h : PyFlat.call PySu196.shape (l.drop i) = some (c, t)) : ∃ q : Nat, q < 15 ∧ l[i]? = some (q : Int) ∧ i + 1 + szs.getD q 0 ≤ l.length ∧
    (∀ j, j < lss.getD q 0 → ∃ m : Nat, l[hr l (i + 1 + szs.getD q 0) j]? = some (m : Int)) ∧ c = ((q : Int) :: (l.drop (i + 1)).take (szs.getD q 0)) :: (List.range (lss.getD q 0)).map (rw1 l (i + 1 + szs.getD q 0)) ∧
    t = l.drop (hr l (i + 1 + szs.getD q 0) (lss.getD q 0)) ∧ hr l (i + 1 + szs.getD q 0) (lss.getD q 0) ≤ l.length ∧ i + 1 + szs.getD q 0 ≤ hr l (i + 1 + szs.getD q 0) (lss.getD q 0) := by
  unfold PyFlat.call at h
  split at h
  · cases h
  rename_i p r heq
  obtain ⟨h1, h2, h3⟩ := drop_cons heq
  split at h
  · cases h
  rename_i n k hs
  obtain ⟨q, hq, rfl, rfl, rfl⟩ := shape_spec hs
  split at h
  · cases h
  rename_i hlen
  split at h
  · cases h
  rename_i xs t' hrows
  simp only [Option.some.injEq, Prod.mk.injEq] at h
  obtain ⟨rfl, rfl⟩ := h
  subst h2
  have hl : i + 1 + szs.getD q 0 ≤ l.length := by
    simp only [List.length_drop, Nat.not_lt] at hlen
    omega
  rw [List.drop_drop] at hrows
  obtain ⟨q1, q2, q3, q4, q5⟩ := rows_spec _ _ hl hrows
  exact ⟨q, hq, h1, hl, q1, by rw [q2], q3, q4, q5⟩
/-- the calls from i on -/
theorem calls_spec {l : List Int} {i f : Nat} {cs : List (List (List Int))} (h : PyFlat.calls PySu196.shape f (l.drop i) = some cs) : (cs = [] ∧ l.length ≤ i) ∨
    ∃ c cs' t f', i < l.length ∧ cs = c :: cs' ∧ PyFlat.call PySu196.shape (l.drop i) = some (c, t) ∧ PyFlat.calls PySu196.shape f' t = some cs' := by
  by_cases hi : l.length ≤ i
  · rw [List.drop_eq_nil_of_le hi] at h
    cases f <;> (simp only [PyFlat.calls, Option.some.injEq] at h; exact .inl ⟨h.symm, hi⟩)
  · refine .inr ?_
    have hi : i < l.length := by omega
    rw [List.drop_eq_getElem_cons hi] at h ⊢
    cases f with
    | zero => simp [PyFlat.calls] at h
    | succ f =>
      simp only [PyFlat.calls] at h
      split at h
      · cases h
      rename_i c t hc
      split at h
      · cases h
      rename_i cs' hcs
      simp only [Option.some.injEq] at h
      exact ⟨c, cs', t, f, hi, h.symm, hc, hcs⟩
end Tp
/-! ### the heap: how an instance lies in it -/
namespace Tp
open PySem PySem.Spec PyProof.Rows L2 Evl

abbrev nl (t : List Nat) : List V := t.map fun x => V.int (x : Nat)
abbrev il (t : List Int) : List V := t.map V.int
def iF (n : Nat) (pk pa : Addr) : List (Str × V) := [("alternative_count", .int (n : Nat)), ("kinds", .ref pk), ("allocation", .ref pa)]
theorem lk_here {k : Str} {v : V} {r : List (Str × V)} : List.lookup k ((k, v) :: r) = some v := by
  have e : (k == k) = true := beq_self_eq_true k
  simp only [List.lookup, e]
theorem lk_past {k g : Str} {v : V} {r : List (Str × V)} (h : (k == g) = false) : List.lookup k ((g, v) :: r) = List.lookup k r := by
  simp only [List.lookup, h]
theorem put_here {f : Str} {v x : V} {r : List (Str × V)} : putF f v ((f, x) :: r) = (f, v) :: r := if_pos rfl
theorem put_past {f g : Str} {v x : V} {r : List (Str × V)} (h : ¬ g = f) : putF f v ((g, x) :: r) = (g, x) :: putF f v r := if_neg h
theorem iF_ac (n : Nat) (pk pa : Addr) : (iF n pk pa).lookup ("alternative_count" : Str) = some (.int (n : Nat)) := lk_here
theorem iF_kinds (n : Nat) (pk pa : Addr) : (iF n pk pa).lookup ("kinds" : Str) = some (.ref pk) := (lk_past (by decide +kernel)).trans lk_here
theorem iF_all (n : Nat) (pk pa : Addr) : (iF n pk pa).lookup ("allocation" : Str) = some (.ref pa) := (lk_past (by decide +kernel)).trans ((lk_past (by decide +kernel)).trans lk_here)
theorem iF_put (n : Nat) (pk pa y : Addr) : putF "allocation" (.ref y) (iF n pk pa) = iF n pk y := (put_past (by decide +kernel)).trans (congrArg _ ((put_past (by decide +kernel)).trans (congrArg _ put_here)))

/-- the lists that the addresses hold -/
structure Rws (H : Hp) (rs : List Addr) (xss : List (List V)) : Prop where
  len : rs.length = xss.length
  at_ : ∀ (i : Nat) (r : Addr) (xs : List V), rs[i]? = some r → xss[i]? = some xs → H r = some (.lst xs)
theorem Rws.mono {H H' : Hp} {rs : List Addr} {xss : List (List V)} (R : Rws H rs xss) (e : Ex H H') : Rws H' rs xss := ⟨R.len, fun i r xs h1 h2 => e _ _ (R.at_ i r xs h1 h2)⟩
theorem Rws.nil {H : Hp} : Rws H [] [] := ⟨rfl, fun i r xs h => by simp at h⟩
theorem Rws.snoc {H : Hp} {rs : List Addr} {xss : List (List V)} (R : Rws H rs xss) {r : Addr} {xs : List V} (h : H r = some (.lst xs)) : Rws H (rs ++ [r]) (xss ++ [xs]) := by
  refine ⟨by simp [R.len], fun i p ys h1 h2 => ?_⟩
  by_cases hi : i < rs.length
  · rw [List.getElem?_append_left hi] at h1
    rw [List.getElem?_append_left (by rw [← R.len]; exact hi)] at h2
    exact R.at_ i p ys h1 h2
  · have e : i = rs.length := by
      have := (List.getElem?_eq_some_iff.mp h1).1
      simp at this
      omega
    subst e
    rw [List.getElem?_append_right (by omega)] at h1
    rw [List.getElem?_append_right (by rw [R.len]; exact Nat.le_refl _)] at h2
    simp at h1
    simp [R.len] at h2
    rw [← h1, ← h2]
    exact h
theorem Rws.append {H : Hp} {rs qs : List Addr} {xss yss : List (List V)} (R : Rws H rs xss) (S : Rws H qs yss) : Rws H (rs ++ qs) (xss ++ yss) := by
  refine ⟨by simp [R.len, S.len], fun i p ys h1 h2 => ?_⟩
  by_cases hi : i < rs.length
  · rw [List.getElem?_append_left hi] at h1
    rw [List.getElem?_append_left (by rw [← R.len]; exact hi)] at h2
    exact R.at_ i p ys h1 h2
  · rw [List.getElem?_append_right (by omega)] at h1
    rw [List.getElem?_append_right (by rw [← R.len]; omega), ← R.len] at h2
    exact S.at_ _ p ys h1 h2
theorem Rws.get {H : Hp} {rs : List Addr} {xss : List (List V)} (R : Rws H rs xss) {i : Nat} {xs : List V} (h : xss[i]? = some xs) : ∃ r, rs[i]? = some r ∧ H r = some (.lst xs) := by
  have hi : i < rs.length := by rw [R.len]; exact (List.getElem?_eq_some_iff.mp h).1
  exact ⟨rs[i], by simp [hi], R.at_ i _ xs (by simp [hi]) h⟩
/-- a list that is none of the rows may change -/
theorem Rws.upd {H : Hp} {rs : List Addr} {xss : List (List V)} (R : Rws H rs xss) {p : Addr} {o : HO} (h : p ∉ rs) : Rws (upd H p o) rs xss :=
  ⟨R.len, fun i r xs h1 h2 => by
    have ne : r ≠ p := fun e => h (e ▸ List.mem_of_getElem? h1)
    rw [upd_ne ne]
    exact R.at_ i r xs h1 h2⟩

structure In (C : Addr) (H : Hp) (p pk pa : Addr) (qs : List Addr) (rss : List (List Addr)) (a : Su196.Instance) : Prop where
  ins : ∃ dx, H p = some (.ins C dx (iF a.alternativeCount pk pa))
  kinds : H pk = some (.lst (qs.map V.ref))
  all : H pa = some (.lst (nl a.allocation))
  agl : qs.length = a.types.length
  kdl : rss.length = a.types.length
  ag : ∀ (i : Nat) (q : Addr) (rs : List Addr), qs[i]? = some q → rss[i]? = some rs → H q = some (.lst (rs.map V.ref))
  kd : ∀ (i : Nat) (rs : List Addr) (l : List (List Int)), rss[i]? = some rs → a.types[i]? = some l → Rws H rs (l.map il)
theorem In.mono {C p pk pa : Addr} {H H' : Hp} {qs : List Addr} {rss : List (List Addr)} {a : Su196.Instance} (I : In C H p pk pa qs rss a) (e : Ex H H') : In C H' p pk pa qs rss a := by
  obtain ⟨⟨dx, h1⟩, h2, h3, h4, h5, h6, h7⟩ := I
  exact ⟨⟨dx, e _ _ h1⟩, e _ _ h2, e _ _ h3, h4, h5, fun i q rs a b => e _ _ (h6 i q rs a b), fun i rs l a b => (h7 i rs l a b).mono e⟩
/-- somewhere an instance that is a -/
def IA (C : Addr) (H : Hp) (p : Addr) (a : Su196.Instance) : Prop := Ok a ∧ ∃ pk pa qs rss, In C H p pk pa qs rss a
theorem IA.mono {C p : Addr} {H H' : Hp} {a : Su196.Instance} (I : IA C H p a) (e : Ex H H') : IA C H' p a := by
  obtain ⟨o, pk, pa, qs, rss, I⟩ := I
  exact ⟨o, pk, pa, qs, rss, I.mono e⟩
/-- the same, its allocation whatever it is -/
def IA0 (C : Addr) (H : Hp) (p : Addr) (a : Su196.Instance) : Prop := (a.types.length = a.agentCount ∧ ∀ l ∈ a.types, l.length ≤ 4) ∧ ∃ pk pa qs rss, In C H p pk pa qs rss a
theorem IA0.mono {C p : Addr} {H H' : Hp} {a : Su196.Instance} (I : IA0 C H p a) (e : Ex H H') : IA0 C H' p a := by
  obtain ⟨o, pk, pa, qs, rss, I⟩ := I
  exact ⟨o, pk, pa, qs, rss, I.mono e⟩
theorem IA.to0 {C p : Addr} {H : Hp} {a : Su196.Instance} (I : IA C H p a) : IA0 C H p a := ⟨⟨I.1.tl, I.1.t4⟩, I.2⟩

/-! ### what the top has written -/
abbrev sizesV : List Int := [2, 1, 1, 0, 0, 0, 1, 2, 0, 0, 1, 1, 0, 0, 0]
abbrev listsV : List Int := [0, 1, 1, 1, 0, 1, 0, 1, 0, 0, 1, 2, 1, 1, 0]
structure Txt (K : PySem.W.Frag) (mg : Str → Option Value) (C D : Addr) : Prop where
  cl : Cls K C
  nA : NoAttr K C "alternative_count"
  nK : NoAttr K C "kinds"
  nL : NoAttr K C "allocation"
  clD : Cls K D
  nI : NoAttr K D "instance"
  gC : mg "Instance" = some (.ref C)
  gD : mg "Desk" = some (.ref D)
  len : mg "len" = none
  range : mg "range" = none
  zip : mg "zip" = none
  reversed : mg "reversed" = none
  enumerate : mg "enumerate" = none
  max : mg "max" = none
  min : mg "min" = none
  all : mg "all" = none
  list : mg "list" = none
  int : mg "int" = none
  cMAX_AGENTS : ∃ t, mg "MAX_AGENTS" = some (.int 3 t)
  cLEAST_ALTERNATIVES : ∃ t, mg "LEAST_ALTERNATIVES" = some (.int 2 t)
  cMAX_ALTERNATIVES : ∃ t, mg "MAX_ALTERNATIVES" = some (.int 4 t)
  cMAX_TYPES : ∃ t, mg "MAX_TYPES" = some (.int 4 t)
  cMAX_VALUE : ∃ t, mg "MAX_VALUE" = some (.int 50 t)
  cNO_SUCH : ∃ t, mg "NO_SUCH" = some (.int (-2) t)
  cBAD_ARGUMENT : ∃ t, mg "BAD_ARGUMENT" = some (.int (-22) t)
  cFULL : ∃ t, mg "FULL" = some (.int (-28) t)
  cMAX_WEIGHT : ∃ t, mg "MAX_WEIGHT" = some (.int 99 t)
  cMAX_PAYMENT : ∃ t, mg "MAX_PAYMENT" = some (.int 1000 t)
  cIMPOSSIBLE : ∃ t, mg "IMPOSSIBLE" = some (.int (-33) t)
  cNO_INSTANCE : ∃ t, mg "NO_INSTANCE" = some (.int (-11) t)
  cNOT_READY : ∃ t, mg "NOT_READY" = some (.int (-16) t)
  cCREATE : ∃ t, mg "CREATE" = some (.int 0 t)
  cADD_KIND : ∃ t, mg "ADD_KIND" = some (.int 1 t)
  cDESCRIBE : ∃ t, mg "DESCRIBE" = some (.int 14 t)
  tSIZES : ∃ z, mg "SIZES" = some (.ref z) ∧ ∀ H, SqT K H z (il sizesV)
  tLISTS : ∃ z, mg "LISTS" = some (.ref z) ∧ ∀ H, SqT K H z (il listsV)

/-! ### the text by places -/
def top (i : Nat) : Stmt := PySem.Challenge.pw_truthfulpay_s01_answers.main.body.getD i (.Pass ⟨0, 0, 0, 0⟩)

/-! ### an own def, called by its name -/
def Own (P : Program) (w : World) (K : PySem.W.Frag) (mg : Str → Option Value) (base : Heap) (x : Str) (k : Nat) (ps : List Str) (sp : Sp) : Prop :=
  ∃ (f : Addr) (fd : FuncData), mg x = some (.ref f) ∧ PySem.W.keepIn K (.ref f) = true ∧ FnOk P w K mg base CX0 k f fd ps sp ∧ Binds K fd ps []
section
variable {X : Cx} {k : Nat} {ps : List Str} {sp : Sp} {x : Str} {p pos : Pos} {e : Expr} {es : List Expr} {t : TA}
theorem pe_own (O : Own X.prog X.w X.K X.mg X.base x k ps sp) (hr : Room k X.A) (ha : PA X (e :: es) t) (hg : Gl X x := by rfl) (hdb : (x == ("__debug__" : Str)) = false := by decide)
    (he : starEach (e :: es) X.env = (false, eval e X.env) :: starEach es X.env := by rfl) (hpl : (backTo pos (starEach es X.env)).any (·.1) = false := by rfl) :
    PE X (.Call (.Name x p) (e :: es) [] pos) (tCall sp [] E0 t) := by
  obtain ⟨f, fd, hm, hk, F, hb⟩ := O
  exact pe_call F hr hg hm hk hb .nil pass0 ha hdb he hpl
/-- within a block of its own the written part is named -/
theorem ix_listB {K : PySem.W.Frag} (h : X.K = K) : IxR X (rIxL K) := h ▸ ix_list
theorem call_lenB {K : PySem.W.Frag} (h : X.K = K) : CallR X (.builtin "len") (rLenS K) := h ▸ call_len_seq
theorem pe_fldB {K : PySem.W.Frag} {f : Str} {ta : TE} (h : X.K = K) (he : PE X e ta) (hb : attributeBase e f X.env (eval e X.env) = eval e X.env) : PE X (.Attribute e f pos) (tFld K ta f) := h ▸ pe_fld he hb
theorem pe_cst {v : Int} {x : Str} {pos : Pos} (hm : ∃ t, X.mg x = some (.int v t)) (hg : Gl X x := by rfl) (hd : (x == ("__debug__" : Str)) = false := by decide) : PE X (.Name x pos) (tC (.int v)) := by
  obtain ⟨t, hm⟩ := hm
  exact pe_glob hg hm ⟨t, rfl⟩ hd
end

theorem _root_.L2.Room.units65 {k : Nat} {A : Around} (r : Room k A) : A.units + 65 < cLine := by have := r.un; omega

/-! ### promises -/
def RetLL (xss : List (List V)) (H : Hp) (Q : VK) : Prop := ∀ p rs H2, H p = none → (∀ r ∈ rs, H r = none) → p ∉ rs → Ex H H2 → H2 p = some (.lst (rs.map V.ref)) → Rws H2 rs xss → Q (.ref p) H2
def pV (R : List V → Hp → V → Prop) : Sp := fun vs H Q _ => ∃ z, R vs H z ∧ RetV z H Q
def pL (R : List V → Hp → List V → Prop) : Sp := fun vs H Q _ => ∃ xs, R vs H xs ∧ RetL xs H Q
def pLL (R : List V → Hp → List (List V) → Prop) : Sp := fun vs H Q _ => ∃ xss, R vs H xss ∧ RetLL xss H Q
def Mo {α : Type} (R : List V → Hp → α → Prop) : Prop := ∀ vs H H' z, Ex H H' → R vs H z → R vs H' z
def EvLL (te : TE) (σ : L2.St) (H : Hp) (xss : List (List V)) : Prop := ∀ H1, Ex H H1 → ∀ Q : VK, (∀ p rs H2, H1 p = none → (∀ r ∈ rs, H1 r = none) → p ∉ rs → Ex H1 H2 → H2 p = some (.lst (rs.map V.ref)) → Rws H2 rs xss → Q (.ref p) H2) → te σ H1 Q
section
variable {K : PySem.W.Frag} {σ : L2.St} {H H' : Hp} {ta tb te tx : TE} {t u : TT} {x y z v : V} {E : XK} {vs : List V} {tA : TA}
theorem ev_own {R : List V → Hp → V → Prop} (m : Mo R) (ha : EvA tA σ H vs) (h : R vs H z) : Ev (tCall (pV R) [] E tA) σ H z :=
  ev_call ha fun H1 e Q q E => ⟨z, by rw [List.append_nil]; exact m _ _ _ _ e h, q⟩
theorem el_own {R : List V → Hp → List V → Prop} {xs : List V} (m : Mo R) (ha : EvA tA σ H vs) (h : R vs H xs) : EvL (tCall (pL R) [] E tA) σ H xs :=
  el_call ha fun H1 e Q q E => ⟨xs, by rw [List.append_nil]; exact m _ _ _ _ e h, q⟩
theorem ell_own {R : List V → Hp → List (List V) → Prop} {xss : List (List V)} (m : Mo R) (ha : EvA tA σ H vs) (h : R vs H xss) : EvLL (tCall (pLL R) [] E tA) σ H xss := fun H1 e Q q =>
  ha H1 e _ fun H2 e2 => ⟨xss, by rw [List.append_nil]; exact m _ _ _ _ (e.trans e2) h, fun p rs H3 hp hr hn e3 h1 h2 => q p rs H3 (fresh_back e2 hp) (fun r hr' => fresh_back e2 (hr r hr')) hn (e2.trans e3) h1 h2⟩
theorem ev_fld {a C dx : Addr} {fs : List (Str × V)} {f : Str} (h : Ev ta σ H (.ref a)) (ho : H a = some (.ins C dx fs)) (hc : Cls K C) (hn : NoAttr K C f) (hl : fs.lookup f = some v) : Ev (tFld K ta f) σ H v :=
  fun H1 e Q q => h H1 e _ fun H2 e2 => ⟨a, C, dx, fs, v, rfl, (e.trans e2) _ _ ho, hc, hn, hl, q H2 e2⟩
theorem ev_at {p : Addr} {xs : List V} {i : Nat} (ha : Ev ta σ H (.ref p)) (hb : Ev tb σ H (.int (i : Nat))) (h : H p = some (.lst xs)) (hi : xs[i]? = some v) : Ev (tOp (rIxL K) ta tb) σ H v :=
  ev_op ha hb (rv_ixL (sq_of h) (atI_nat hi))
theorem ev_atL {xs : List V} {i : Nat} (ha : EvL ta σ H xs) (hb : Ev tb σ H (.int (i : Nat))) (hi : xs[i]? = some v) : Ev (tOp (rIxL K) ta tb) σ H v :=
  ev_opL1 ha (fun H1 e => hb.mono e) fun p H1 h e => rv_ixL (sq_of h) (atI_nat hi)
/-- reading an instance -/
theorem ev_ac {mg : Str → Option Value} {C D p : Addr} {a : Su196.Instance} (T : Txt K mg C D) (I : IA C H p a) (h : Ev ta σ H (.ref p)) : Ev (tFld K ta "alternative_count") σ H (.int (a.alternativeCount : Nat)) := by
  obtain ⟨_, pk, pa, qs, rss, ⟨⟨dx, h1⟩, _⟩⟩ := I
  exact ev_fld h h1 T.cl T.nA (iF_ac _ _ _)
theorem ev_kd {mg : Str → Option Value} {C D p pk pa : Addr} {qs : List Addr} {rss : List (List Addr)} {a : Su196.Instance} (T : Txt K mg C D) (I : In C H p pk pa qs rss a) (h : Ev ta σ H (.ref p)) : Ev (tFld K ta "kinds") σ H (.ref pk) := by
  obtain ⟨⟨dx, h1⟩, _⟩ := I
  exact ev_fld h h1 T.cl T.nK (iF_kinds _ _ _)
theorem ev_al {mg : Str → Option Value} {C D p pk pa : Addr} {qs : List Addr} {rss : List (List Addr)} {a : Su196.Instance} (T : Txt K mg C D) (I : In C H p pk pa qs rss a) (h : Ev ta σ H (.ref p)) : Ev (tFld K ta "allocation") σ H (.ref pa) := by
  obtain ⟨⟨dx, h1⟩, _⟩ := I
  exact ev_fld h h1 T.cl T.nL (iF_all _ _ _)
theorem In.agent {C p pk pa : Addr} {qs : List Addr} {rss : List (List Addr)} {a : Su196.Instance} (I : In C H p pk pa qs rss a) {i : Nat} {l : List (List Int)} (h : a.types[i]? = some l) :
    ∃ q rs, qs[i]? = some q ∧ rss[i]? = some rs ∧ H q = some (.lst (rs.map V.ref)) ∧ Rws H rs (l.map il) := by
  have hi := (List.getElem?_eq_some_iff.mp h).1
  have h1 : qs[i]? = some (qs[i]'(by rw [I.agl]; exact hi)) := by simp [I.agl, hi]
  have h2 : rss[i]? = some (rss[i]'(by rw [I.kdl]; exact hi)) := by simp [I.kdl, hi]
  exact ⟨_, _, h1, h2, I.ag _ _ _ h1 h2, I.kd _ _ _ h2 h⟩
end

section
variable {K : PySem.W.Frag} {σ : L2.St} {H H' : Hp} {ta tb te tx : TE} {t u : TT} {x y z v : V} {D : Ends} {tu tw tz : TS}
theorem map_get {α : Type} {f : α → V} {l : List α} {i : Nat} {x : V} (h : (l.map f)[i]? = some x) : ∃ a, l[i]? = some a ∧ x = f a := by
  rw [List.getElem?_map] at h
  cases e : l[i]? with
  | none => rw [e] at h; cases h
  | some a => rw [e] at h; exact ⟨a, rfl, (Option.some.inj h).symm⟩
theorem get_map {α : Type} {f : α → V} {l : List α} {i : Nat} {a : α} (h : l[i]? = some a) : (l.map f)[i]? = some (f a) := by
  rw [List.getElem?_map, h]; rfl
theorem take_more {α : Type} {l : List α} {i : Nat} {x : α} (h : l[i]? = some x) : l.take (i + 1) = l.take i ++ [x] := by
  rw [List.take_add_one, h]; rfl
/-- a loop over zip of two lists of one length -/
theorem s_forZ {ta : TA} {a b : Addr} {xs ys : List V} {j l : Nat} (h : EvA ta σ H [.ref a, .ref b]) (hx : SqL K H a xs) (hy : SqL K H b ys) (hl : xs.length = ys.length) (Pv : Nat → L2.St → Hp → Prop) (h0 : ∀ H1, Ex H H1 → Pv 0 σ H1)
    (hq : ∀ i σ' H', Pv i σ' H' → SqL K H' a xs ∧ SqL K H' b ys)
    (hs : ∀ i x y σ' H' H2, xs[i]? = some x → ys[i]? = some y → Pv i σ' H' → Ex H' H2 → tu { D with nx := Pv (i + 1), ct := Pv (i + 1), bk := D.nx } ((σ'.set j (some x)).set l (some y)) H2) (hd : ∀ σ' H', Pv xs.length σ' H' → D.nx σ' H') :
    tFor (iZip K ta) (gTup K 2 (gCons (gName j) (gCons (gName l) gNil))) tu D σ H :=
  h H (Ex.refl H) _ fun H1 e1 => ⟨a, b, xs, ys, rfl, ex_l e1 hx, ex_l e1 hy, RZ.for_zipL hl Pv (h0 H1 e1) hq (fun i x y T σ' H' h1 h2 p hT =>
    ⟨T, [x, y], rfl, st_of upd_same, rfl, x, [y], rfl, y, [], rfl, rfl, hs i x y σ' H' _ h1 h2 p (Ex.new hT)⟩) hd⟩
theorem q_forZ {ta : TA} {a b : Addr} {xs ys : List V} {j l : Nat} (h : EvA ta σ H [.ref a, .ref b]) (hx : SqL K H a xs) (hy : SqL K H b ys) (hl : xs.length = ys.length) (Pv : Nat → L2.St → Hp → Prop) (h0 : ∀ H1, Ex H H1 → Pv 0 σ H1)
    (hq : ∀ i σ' H', Pv i σ' H' → SqL K H' a xs ∧ SqL K H' b ys)
    (hs : ∀ i x y σ' H' H2, xs[i]? = some x → ys[i]? = some y → Pv i σ' H' → Ex H' H2 → tu { D with nx := Pv (i + 1), ct := Pv (i + 1), bk := tz D } ((σ'.set j (some x)).set l (some y)) H2) (hd : ∀ σ' H', Pv xs.length σ' H' → tz D σ' H') :
    tSeq (tFor (iZip K ta) (gTup K 2 (gCons (gName j) (gCons (gName l) gNil))) tu) tz D σ H := s_forZ (D := { D with nx := tz D }) h hx hy hl Pv h0 hq hs hd
/-- a loop over enumerate of a list -/
theorem s_forE {ta : TA} {a : Addr} {xs : List V} {j l : Nat} (h : EvA ta σ H [.ref a]) (hx : SqL K H a xs) (Pv : Nat → L2.St → Hp → Prop) (h0 : ∀ H1, Ex H H1 → Pv 0 σ H1)
    (hq : ∀ i σ' H', i ≤ xs.length → Pv i σ' H' → SqL K H' a xs)
    (hs : ∀ (i : Nat) x σ' H' H2, xs[i]? = some x → Pv i σ' H' → Ex H' H2 → tu { D with nx := Pv (i + 1), ct := Pv (i + 1), bk := D.nx } ((σ'.set j (some (.int (i : Nat)))).set l (some x)) H2) (hd : ∀ σ' H', Pv xs.length σ' H' → D.nx σ' H') :
    tFor (iEnum K ta) (gTup K 2 (gCons (gName j) (gCons (gName l) gNil))) tu D σ H :=
  h H (Ex.refl H) _ fun H1 e1 => ⟨a, xs, rfl, ex_l e1 hx, for_it walk_enum Pv (h0 H1 e1) hq (fun i v σ' H' H2 hi p y => by
    obtain ⟨T, x, y, rfl, hT, rfl, h1, h2⟩ := y
    cases h1
    exact ⟨T, [_, y], rfl, st_of upd_same, rfl, _, [y], rfl, y, [], rfl, rfl, hs i y σ' H' _ h2 p (Ex.new hT)⟩) hd⟩
theorem q_forE {ta : TA} {a : Addr} {xs : List V} {j l : Nat} (h : EvA ta σ H [.ref a]) (hx : SqL K H a xs) (Pv : Nat → L2.St → Hp → Prop) (h0 : ∀ H1, Ex H H1 → Pv 0 σ H1)
    (hq : ∀ i σ' H', i ≤ xs.length → Pv i σ' H' → SqL K H' a xs)
    (hs : ∀ (i : Nat) x σ' H' H2, xs[i]? = some x → Pv i σ' H' → Ex H' H2 → tu { D with nx := Pv (i + 1), ct := Pv (i + 1), bk := tz D } ((σ'.set j (some (.int (i : Nat)))).set l (some x)) H2) (hd : ∀ σ' H', Pv xs.length σ' H' → tz D σ' H') :
    tSeq (tFor (iEnum K ta) (gTup K 2 (gCons (gName j) (gCons (gName l) gNil))) tu) tz D σ H := s_forE (D := { D with nx := tz D }) h hx Pv h0 hq hs hd
/-- a loop over reversed of a list -/
theorem q_forR {ta : TA} {a : Addr} {xs : List V} {j : Nat} (h : EvA ta σ H [.ref a]) (hx : SqL K H a xs) (Pv : Nat → L2.St → Hp → Prop) (h0 : ∀ H1, Ex H H1 → Pv 0 σ H1)
    (hq : ∀ i σ' H', Pv i σ' H' → SqL K H' a xs)
    (hs : ∀ (i : Nat) x σ' H', i < xs.length → xs[xs.length - 1 - i]? = some x → Pv i σ' H' → tu { D with nx := Pv (i + 1), ct := Pv (i + 1), bk := tz D } (σ'.set j (some x)) H') (hd : ∀ σ' H', Pv xs.length σ' H' → tz D σ' H') :
    tSeq (tFor (iRev K ta) (gName j) tu) tz D σ H :=
  h H (Ex.refl H) _ fun H1 e1 => ⟨a, xs, rfl, ex_l e1 hx, RT.for_Itv (D := { D with nx := tz D }) Pv (h0 H1 e1) hq (fun i x σ' H' hi hx' p => hs i x σ' H' hi hx' p) hd⟩
/-- all of a new list of truth values -/
theorem ev_allL {bs : List Bool} {xs : List V} (h : EvL te σ H xs) (e : xs = bs.map V.bl) : Ev (tCB (rAll K) (tCons te tNil)) σ H (.bl (bs.all id)) := fun H1 e1 Q q =>
  h H1 e1 _ fun p H2 _ e2 hp => ⟨p, bs, rfl, by rw [e] at hp; exact sq_of hp, q H2 e2⟩
/-- xs[::-1] -/
theorem el_rev {p : Addr} {xs : List V} (h : Ev te σ H (.ref p)) (hp : H p = some (.lst xs)) : EvL (tRevL K te) σ H xs.reverse := fun H1 e Q q =>
  h H1 e _ fun H2 e2 => ⟨p, xs, rfl, sq_of ((e.trans e2) _ _ hp), fun r hr => q r _ (fresh_back e2 hr) (e2.trans (Ex.new hr)) upd_same⟩
/-- lists joined -/
theorem el_catLL {xs ys : List V} (ha : EvL ta σ H xs) (hb : EvL tb σ H ys) (hz : xs.length + ys.length ≤ 100000) : EvL (tOp rCat ta tb) σ H (xs ++ ys) := fun H1 e Q q =>
  ha H1 e _ fun p H2 hp e2 h2 => hb H2 (e.trans e2) _ fun r H3 hr e3 h3 => ⟨p, r, xs, ys, rfl, rfl, e3 _ _ h2, h3, sz_of hz, fun l hl => q l _ (fresh_back (e2.trans e3) hl) ((e2.trans e3).trans (Ex.new hl)) upd_same⟩
theorem el_catVL {xs ys : List V} {p : Addr} (ha : Ev ta σ H (.ref p)) (hp : H p = some (.lst xs)) (hb : EvL tb σ H ys) (hz : xs.length + ys.length ≤ 100000) : EvL (tOp rCat ta tb) σ H (xs ++ ys) := fun H1 e Q q =>
  ha H1 e _ fun H2 e2 => hb H2 (e.trans e2) _ fun r H3 hr e3 h3 => ⟨p, r, xs, ys, rfl, rfl, ((e.trans e2).trans e3) _ _ hp, h3, sz_of hz, fun l hl => q l _ (fresh_back (e2.trans e3) hl) ((e2.trans e3).trans (Ex.new hl)) upd_same⟩
theorem el_catLV {xs ys : List V} {p : Addr} (ha : EvL ta σ H xs) (hb : Ev tb σ H (.ref p)) (hp : H p = some (.lst ys)) (hz : xs.length + ys.length ≤ 100000) : EvL (tOp rCat ta tb) σ H (xs ++ ys) := fun H1 e Q q =>
  ha H1 e _ fun l H2 _ e2 h2 => hb H2 (e.trans e2) _ fun H3 e3 => ⟨l, p, xs, ys, rfl, rfl, e3 _ _ h2, ((e.trans e2).trans e3) _ _ hp, sz_of hz, fun r hr => q r _ (fresh_back (e2.trans e3) hr) ((e2.trans e3).trans (Ex.new hr)) upd_same⟩
theorem rc_max {a : Addr} {ns : List Int} {m : Int} (h : H a = some (.lst (il ns))) (h0 : 0 < ns.length) (hm : ∀ k, k ∈ ns → (∀ y, y ∈ ns → y ≤ k) → k = m) : RC (rMax K) [.ref a] H (.int m) := fun H1 e Q q =>
  ⟨a, ns, rfl, sq_of (e _ _ h), h0, fun k h1 h2 => by rw [hm k h1 h2]; exact q H1 (Ex.refl H1)⟩
theorem el_is {xs ys : List V} (h : EvL te σ H xs) (e : xs = ys) : EvL te σ H ys := e ▸ h
theorem given_all (n : Nat) (v : Nat → V) : given n (fun _ => true) v = (List.range n).map v := by
  unfold given
  rw [List.filter_eq_self.mpr fun _ _ => rfl]
theorem et_yes : EvT tYes σ H true := fun H1 _ _ q => q H1 (Ex.refl H1)
theorem cutV_nat (xs : List V) (i j : Nat) : cutV xs (some (i : Nat)) (some (j : Nat)) = (xs.drop i).take (j - i) := by
  unfold cutV
  rw [HT.sIx_nat, HT.sIx_nat]
  by_cases h : xs.length ≤ i
  · rw [Nat.min_eq_right h, List.drop_eq_nil_of_le (Nat.le_refl _), List.drop_eq_nil_of_le h]
    simp
  · have e1 : min i xs.length = i := Nat.min_eq_left (by omega)
    rw [e1]
    by_cases h2 : xs.length ≤ j
    · rw [Nat.min_eq_right h2, List.take_of_length_le (by simp), List.take_of_length_le (by simp; omega)]
    · have e2 : min j xs.length = j := Nat.min_eq_left (by omega)
      rw [e2]
theorem cutV_to (xs : List V) (j : Nat) : cutV xs none (some (j : Nat)) = xs.take j := by
  unfold cutV
  rw [HT.sIx_nat, HT.sIx_none]
  simp [List.take_eq_take_iff]
theorem cutV_from (xs : List V) (i : Nat) : cutV xs (some (i : Nat)) none = xs.drop i := by
  unfold cutV
  rw [HT.sIx_nat, HT.sIx_none]
  by_cases h : xs.length ≤ i
  · rw [Nat.min_eq_right h, List.drop_eq_nil_of_le (Nat.le_refl _), List.drop_eq_nil_of_le h]; simp
  · rw [Nat.min_eq_left (by omega), List.take_of_length_le (by simp)]
end
end Tp
namespace Tp
open PySem PySem.Spec PyProof.Rows L2 Evl
section
variable {P : Program} {w : World} {K : PySem.W.Frag} {mg : Str → Option Value} {base : Heap} {C D : Addr} {f : Addr} {fd : FuncData}
abbrev s_agent_count : Stmt := top 7
/-- 0 instance -/
theorem sc_agent_count : FnScope ["instance"] ["instance"] (defScope s_agent_count) := ⟨rfl, rfl, rfl, by decide +kernel, rfl, by decide +kernel, by decide +kernel⟩
def rAC (C : Addr) (vs : List V) (H : Hp) (z : V) : Prop := ∃ p a, vs = [.ref p] ∧ IA C H p a ∧ z = .int (a.agentCount : Nat)
theorem mo_AC : Mo (rAC C) := fun vs H H' z e ⟨p, a, h, I, q⟩ => ⟨p, a, h, I.mono e, q⟩
theorem ok_agent_count (T : Txt K mg C D) (F : Fun K "agent_count" "agent_count" s_agent_count f fd) : FnOk P w K mg base CX0 1 f fd ["instance"] (pV (rAC C)) := by
  refine F.ok sc_agent_count (fun vs H Q E h => ?_) (fun cdv A outer s H vs Q E hr h => ?_)
  · obtain ⟨z, ⟨p, a, rfl, _⟩, _⟩ := h
    rfl
  · obtain ⟨z, ⟨p, a, rfl, ⟨o, pk, pa, qs, rss, I⟩, rfl⟩, k⟩ := h
    refine ⟨_, (pss_one (ps_ret (pe_callB call_len_seq (by rfl) T.len PySem.boot_len (pa_cons (pe_fld (pv 0) rfl) pa_nil)))), ?_⟩
    exact s_ret (ev_is (ev_len (ev_kd T I (ev_var rfl)) (sq_of I.kinds)) (by simp [I.agl, o.tl])) k

abbrev s_has_agent : Stmt := top 8
/-- 0 instance; 1 agent -/
theorem sc_has_agent : FnScope ["instance", "agent"] ["instance", "agent"] (defScope s_has_agent) := ⟨rfl, rfl, rfl, by decide +kernel, rfl, by decide +kernel, by decide +kernel⟩
def rHA (C : Addr) (vs : List V) (H : Hp) (z : V) : Prop := ∃ p a i, vs = [.ref p, .int (i : Nat)] ∧ IA C H p a ∧ z = .bl (decide (i < a.agentCount))
theorem mo_HA : Mo (rHA C) := fun vs H H' z e ⟨p, a, i, h, I, q⟩ => ⟨p, a, i, h, I.mono e, q⟩
theorem ok_has_agent (T : Txt K mg C D) (F : Fun K "has_agent" "has_agent" s_has_agent f fd) : FnOk P w K mg base CX0 1 f fd ["instance", "agent"] (pV (rHA C)) := by
  refine F.ok sc_has_agent (fun vs H Q E h => ?_) (fun cdv A outer s H vs Q E hr h => ?_)
  · obtain ⟨z, ⟨p, a, i, rfl, _⟩, _⟩ := h
    rfl
  · obtain ⟨z, ⟨p, a, i, rfl, ⟨o, pk, pa, qs, rss, I⟩, rfl⟩, k⟩ := h
    refine ⟨_, (pss_one (ps_ret (pe_cmpR op_lt (pv 1) (pe_callB call_len_seq (by rfl) T.len PySem.boot_len (pa_cons (pe_fld (pv 0) rfl) pa_nil)) (nomark _)))), ?_⟩
    exact s_ret (ev_is (ev_op (ev_var rfl) (ev_len (ev_kd T I (ev_var rfl)) (sq_of I.kinds)) rv_I0) (by simp [I.agl, o.tl])) k

abbrev s_kind_count : Stmt := top 9
/-- 0 instance; 1 agent -/
theorem sc_kind_count : FnScope ["instance", "agent"] ["instance", "agent"] (defScope s_kind_count) := ⟨rfl, rfl, rfl, by decide +kernel, rfl, by decide +kernel, by decide +kernel⟩
def rKC (C : Addr) (vs : List V) (H : Hp) (z : V) : Prop := ∃ p a i, vs = [.ref p, .int (i : Nat)] ∧ IA C H p a ∧ i < a.agentCount ∧ z = .int (a.typeCount i : Nat)
theorem mo_KC : Mo (rKC C) := fun vs H H' z e ⟨p, a, i, h, I, q⟩ => ⟨p, a, i, h, I.mono e, q⟩
theorem ok_kind_count (T : Txt K mg C D) (F : Fun K "kind_count" "kind_count" s_kind_count f fd) : FnOk P w K mg base CX0 1 f fd ["instance", "agent"] (pV (rKC C)) := by
  refine F.ok sc_kind_count (fun vs H Q E h => ?_) (fun cdv A outer s H vs Q E hr h => ?_)
  · obtain ⟨z, ⟨p, a, i, rfl, _⟩, _⟩ := h
    rfl
  · obtain ⟨z, ⟨p, a, i, rfl, ⟨o, pk, pa, qs, rss, I⟩, hi, rfl⟩, k⟩ := h
    obtain ⟨q, rs, h1, h2, h3, R⟩ := I.agent (typesOf_get o hi)
    refine ⟨_, (pss_one (ps_ret (pe_callB call_len_seq (by rfl) T.len PySem.boot_len (pa_cons (pe_ix ix_list (pe_fld (pv 0) rfl) (pv 1) (fun _ _ => rfl)) pa_nil)))), ?_⟩
    refine s_ret (ev_is (ev_len (ev_at (ev_kd T I (ev_var rfl)) (ev_var rfl) I.kinds (get_map h1)) (sq_of h3)) ?_) k
    have := R.len
    simp at this
    simp [this, Su196.Instance.typeCount]

abbrev s_value_of : Stmt := top 11
/-- 0 instance; 1 agent; 2 kind; 3 alternative -/
theorem sc_value_of : FnScope ["instance", "agent", "kind", "alternative"] ["instance", "agent", "kind", "alternative"] (defScope s_value_of) := ⟨rfl, rfl, rfl, by decide +kernel, rfl, by decide +kernel, by decide +kernel⟩
def rVO (C : Addr) (vs : List V) (H : Hp) (z : V) : Prop := ∃ p a i k x, vs = [.ref p, .int (i : Nat), .int (k : Nat), .int (x : Nat)] ∧ IA C H p a ∧ (i < a.agentCount ∧ k < a.typeCount i ∧ x < a.alternativeCount) ∧ z = .int (a.value i k x)
theorem mo_VO : Mo (rVO C) := fun vs H H' z e ⟨p, a, i, k, x, h, I, q⟩ => ⟨p, a, i, k, x, h, I.mono e, q⟩
theorem ok_value_of (T : Txt K mg C D) (F : Fun K "value_of" "value_of" s_value_of f fd) : FnOk P w K mg base CX0 1 f fd ["instance", "agent", "kind", "alternative"] (pV (rVO C)) := by
  refine F.ok sc_value_of (fun vs H Q E h => ?_) (fun cdv A outer s H vs Q E hr h => ?_)
  · obtain ⟨z, ⟨p, a, i, k, x, rfl, _⟩, _⟩ := h
    rfl
  · obtain ⟨z, ⟨p, a, i, kk, x, rfl, ⟨o, pk, pa, qs, rss, I⟩, ⟨hi, hk, hx⟩, rfl⟩, k⟩ := h
    obtain ⟨q, rs, h1, h2, h3, R⟩ := I.agent (typesOf_get o hi)
    obtain ⟨r, h4, h5⟩ := R.get (i := kk) (xs := il ((a.typesOf i).getD kk [])) (by rw [List.getElem?_map, kind_get o hk]; rfl)
    refine ⟨_, (pss_one (ps_ret (pe_ix ix_list (pe_ix ix_list (pe_ix ix_list (pe_fld (pv 0) rfl) (pv 1) (fun _ _ => rfl)) (pv 2) (fun _ _ => rfl)) (pv 3) (fun _ _ => rfl)))), ?_⟩
    exact s_ret (ev_at (ev_at (ev_at (ev_kd T I (ev_var rfl)) (ev_var rfl) I.kinds (get_map h1)) (ev_var rfl) h3 (get_map h4)) (ev_var rfl) h5 (get_map (value_get o hi hk hx))) k

abbrev s_profile_count : Stmt := top 12
/-- 0 instance; 1 found; 2 kinds -/
theorem sc_profile_count : FnScope ["instance", "found", "kinds"] ["instance"] (defScope s_profile_count) := ⟨rfl, rfl, rfl, by decide +kernel, rfl, by decide +kernel, by decide +kernel⟩
def rPC (C : Addr) (vs : List V) (H : Hp) (z : V) : Prop := ∃ p a, vs = [.ref p] ∧ IA0 C H p a ∧ z = .int (cnt a.types : Nat)
theorem mo_PC : Mo (rPC C) := fun vs H H' z e ⟨p, a, h, I, q⟩ => ⟨p, a, h, I.mono e, q⟩
theorem cnt_snoc (ts : List (List (List Int))) (l : List (List Int)) : cnt (ts ++ [l]) = cnt ts * l.length := by
  unfold cnt
  rw [List.foldl_append]
  rfl
theorem ok_profile_count (T : Txt K mg C D) (F : Fun K "profile_count" "profile_count" s_profile_count f fd) : FnOk P w K mg base CX0 1 f fd ["instance"] (pV (rPC C)) := by
  refine F.ok sc_profile_count (fun vs H Q E h => ?_) (fun cdv A outer s H vs Q E hr h => ?_)
  · obtain ⟨z, ⟨p, a, rfl, _⟩, _⟩ := h
    rfl
  · obtain ⟨z, ⟨p, a, rfl, ⟨o, pk, pa, qs, rss, I⟩, rfl⟩, k⟩ := h
    refine ⟨_, (pss_cons (ps_set (i := 1) sc_profile_count.nd rfl (Or.inl rfl) pe_int) (pss_cons (ps_for PassesOwn.never rfl (pi_list (pe_fld (pv 0) rfl)) (pg_name (i := 2) sc_profile_count.nd rfl (Or.inl rfl)) (pss_one (ps_set (i := 1) sc_profile_count.nd rfl (Or.inl rfl) (pe_op op_mul (pv 1) (pe_callB call_len_seq (by rfl) T.len PySem.boot_len (pa_cons (pv 2) pa_nil)))))) (pss_one (ps_ret (pv 1))))), ?_⟩
    refine q_asg ev_c fun H1 e1 => q_forLn (ev_kd T (I.mono e1) (ev_var rfl)) (sq_of (I.mono e1).kinds)
      (fun i σ H' => Ex H H' ∧ ∃ v, σ = [some (.ref p), some (.int (cnt (a.types.take i) : Nat)), v]) (fun H2 e2 => ⟨e1.trans e2, none, rfl⟩) (fun i σ H' _ q => sq_of (I.mono q.1).kinds) ?_ ?_
    · rintro i x σ H' hx ⟨e2, v, rfl⟩
      obtain ⟨q, hq, rfl⟩ := map_get hx
      have hi : i < a.types.length := by rw [← I.agl]; exact (List.getElem?_eq_some_iff.mp hq).1
      have hl : a.types[i]? = some a.types[i] := List.getElem?_eq_getElem hi
      obtain ⟨q', rs, h1, h2, h3, R⟩ := (I.mono e2).agent hl
      cases hq.symm.trans h1
      have hlen : rs.length = a.types[i].length := by have := R.len; simpa using this
      have h4 := o.2 _ (List.mem_of_getElem? hl)
      refine s_asg (ev_op (ev_var rfl) (ev_len (ev_var rfl) (sq_of h3)) (rv_I (.inr ⟨by simp; omega, by simp [hlen]; omega⟩))) fun H3 e3 => ⟨e2.trans e3, some (.ref q), ?_⟩
      rw [take_more hl, cnt_snoc]
      simp [hlen]
    · rintro σ H' ⟨e2, v, rfl⟩
      refine s_ret (ev_var rfl) fun H3 e3 => ?_
      have := k H3 (e2.trans e3)
      rwa [List.take_of_length_le (by simp [I.agl])]
end
end Tp
namespace Tp
open PySem PySem.Spec PyProof.Rows L2 Evl
section
variable {P : Program} {w : World} {K : PySem.W.Frag} {mg : Str → Option Value} {base : Heap} {C D : Addr} {f : Addr} {fd : FuncData}
abbrev s_number_of : Stmt := top 14
/-- 0 instance; 1 profile; 2 found; 3 kind; 4 kinds -/
theorem sc_number_of : FnScope ["instance", "profile", "found", "kind", "kinds"] ["instance", "profile"] (defScope s_number_of) := ⟨rfl, rfl, rfl, by decide +kernel, rfl, by decide +kernel, by decide +kernel⟩
def rNO (C : Addr) (vs : List V) (H : Hp) (z : V) : Prop := ∃ p a pr t, vs = [.ref p, .ref pr] ∧ (IA C H p a ∧ H pr = some (.lst (nl t))) ∧ t.length = a.agentCount ∧ z = .int (idx t a.types : Nat)
theorem mo_NO : Mo (rNO C) := fun vs H H' z e ⟨p, a, i, t, h, ⟨I, J⟩, q⟩ => ⟨p, a, i, t, h, ⟨I.mono e, e _ _ J⟩, q⟩
theorem idx_take {t : List Nat} {ts : List (List (List Int))} {i x : Nat} {l : List (List Int)} (h1 : t[i]? = some x) (h2 : ts[i]? = some l) : idx (t.take (i + 1)) (ts.take (i + 1)) = idx (t.take i) (ts.take i) * l.length + x := by
  unfold idx
  have a1 := (List.getElem?_eq_some_iff.mp h1).1
  have a2 := (List.getElem?_eq_some_iff.mp h2).1
  rw [take_more h1, take_more h2, List.zip_append (by simp; omega), List.foldl_append]
  rfl
theorem ok_number_of (T : Txt K mg C D) (F : Fun K "number_of" "number_of" s_number_of f fd) : FnOk P w K mg base CX0 1 f fd ["instance", "profile"] (pV (rNO C)) := by
  refine F.ok sc_number_of (fun vs H Q E h => ?_) (fun cdv A outer s H vs Q E hr h => ?_)
  · obtain ⟨z, ⟨p, a, pr, t, rfl, _⟩, _⟩ := h
    rfl
  · obtain ⟨z, ⟨p, a, pr, t, rfl, ⟨⟨o, pk, pa, qs, rss, I⟩, J⟩, ht, rfl⟩, k⟩ := h
    refine ⟨_, (pss_cons (ps_set (i := 2) sc_number_of.nd rfl (Or.inl rfl) pe_int) (pss_cons (ps_for PassesOwn.never rfl (pi_zip (by rfl) T.zip (pa_cons (pv 1) (pa_cons (pe_fld (pv 0) rfl) pa_nil))) (pg_tup rfl (pgs_cons (pg_name (i := 3) sc_number_of.nd rfl (Or.inl rfl)) (pgs_cons (pg_name (i := 4) sc_number_of.nd rfl (Or.inl rfl)) pgs_nil))) (pss_one (ps_set (i := 2) sc_number_of.nd rfl (Or.inl rfl) (pe_op op_add (pe_op op_mul (pv 2) (pe_callB call_len_seq (by rfl) T.len PySem.boot_len (pa_cons (pv 4) pa_nil))) (pv 3))))) (pss_one (ps_ret (pv 2))))), ?_⟩
    refine q_asg ev_c fun H1 e1 => q_forZ (ea_cons (ev_var rfl) (ea_cons (ev_kd T (I.mono e1) (ev_var rfl)) ea_nil)) (sq_of (e1 _ _ J)) (sq_of (I.mono e1).kinds) (by simp [I.agl, o.tl, ht])
      (fun i σ H' => Ex H H' ∧ ∃ u v, σ = [some (.ref p), some (.ref pr), some (.int (idx (t.take i) (a.types.take i) : Nat)), u, v]) (fun H2 e2 => ⟨e1.trans e2, none, none, rfl⟩) (fun i σ H' q => ⟨sq_of (q.1 _ _ J), sq_of (I.mono q.1).kinds⟩) ?_ ?_
    · rintro i x y σ H' H2 hx hy ⟨e2, u, v, rfl⟩ e3
      obtain ⟨m, hm, rfl⟩ := map_get hx
      obtain ⟨q, hq, rfl⟩ := map_get hy
      have hi : i < a.types.length := by rw [← I.agl]; exact (List.getElem?_eq_some_iff.mp hq).1
      have hl : a.types[i]? = some a.types[i] := List.getElem?_eq_getElem hi
      obtain ⟨q', rs, h1, h2, h3, R⟩ := (I.mono (e2.trans e3)).agent hl
      cases hq.symm.trans h1
      have hlen : rs.length = a.types[i].length := by have := R.len; simpa using this
      have h4 := o.t4 _ (List.mem_of_getElem? hl)
      refine s_asg (ev_op (ev_op (ev_var rfl) (ev_len (ev_var rfl) (sq_of h3)) (rv_I (.inr ⟨by simp; omega, by simp [hlen]; omega⟩))) (ev_var rfl) rv_I0) fun H3 e4 => ⟨(e2.trans e3).trans e4, some (.int (m : Nat)), some (.ref q), ?_⟩
      rw [idx_take hm hl]
      simp [hlen]
    · rintro σ H' ⟨e2, u, v, rfl⟩
      refine s_ret (ev_var rfl) fun H3 e3 => ?_
      have := k H3 (e2.trans e3)
      rwa [List.take_of_length_le (l := t) (by simp), List.take_of_length_le (by simp [ht, o.tl])]

abbrev s_is_profile : Stmt := top 13
/-- 0 instance; 1 profile; 2 kind; 3 kinds -/
theorem sc_is_profile : FnScope ["instance", "profile", "kind", "kinds"] ["instance", "profile"] (defScope s_is_profile) := ⟨rfl, rfl, rfl, by decide +kernel, rfl, by decide +kernel, by decide +kernel⟩
def rIP (C : Addr) (vs : List V) (H : Hp) (z : V) : Prop := ∃ p a pr t, vs = [.ref p, .ref pr] ∧ (IA C H p a ∧ H pr = some (.lst (nl t))) ∧ z = .bl (a.isProfile t)
theorem mo_IP : Mo (rIP C) := fun vs H H' z e ⟨p, a, i, t, h, ⟨I, J⟩, q⟩ => ⟨p, a, i, t, h, ⟨I.mono e, e _ _ J⟩, q⟩
theorem ok_is_profile (T : Txt K mg C D) (F : Fun K "is_profile" "is_profile" s_is_profile f fd) : FnOk P w K mg base CX0 1 f fd ["instance", "profile"] (pV (rIP C)) := by
  refine F.ok sc_is_profile (fun vs H Q E h => ?_) (fun cdv A outer s H vs Q E hr h => ?_)
  · obtain ⟨z, ⟨p, a, pr, t, rfl, _⟩, _⟩ := h
    rfl
  · obtain ⟨z, ⟨p, a, pr, t, rfl, ⟨⟨o, pk, pa, qs, rss, I⟩, J⟩, rfl⟩, k⟩ := h
    refine ⟨_, (pss_cons (ps_if (pt_cmpR op_ne (pe_callB call_len_seq (by rfl) T.len PySem.boot_len (pa_cons (pv 1) pa_nil)) (pe_callB call_len_seq (by rfl) T.len PySem.boot_len (pa_cons (pe_fld (pv 0) rfl) pa_nil)) (nomark _)) (pss_one (ps_ret pe_bl)) pss_nil) (pss_cons (ps_for PassesOwn.never rfl (pi_zip (by rfl) T.zip (pa_cons (pv 1) (pa_cons (pe_fld (pv 0) rfl) pa_nil))) (pg_tup rfl (pgs_cons (pg_name (i := 2) sc_is_profile.nd rfl (Or.inl rfl)) (pgs_cons (pg_name (i := 3) sc_is_profile.nd rfl (Or.inl rfl)) pgs_nil))) (pss_one (ps_if (pt_cmpR op_ge (pv 2) (pe_callB call_len_seq (by rfl) T.len PySem.boot_len (pa_cons (pv 3) pa_nil)) (nomark _)) (pss_one (ps_ret pe_bl)) pss_nil))) (pss_one (ps_ret pe_bl)))), ?_⟩
    refine q_when (et_test (ev_op (ev_len (ev_var rfl) (sq_of J)) (ev_len (ev_kd T I (ev_var rfl)) (sq_of I.kinds)) (rv_ne rfl))) (fun hb H1 e1 => ?_) (fun hb H1 e1 => ?_)
    · refine s_ret ev_c fun H2 e2 => ?_
      have := k H2 (e1.trans e2)
      have ne : t.length ≠ a.agentCount := by
        simp [I.agl, o.tl] at hb
        omega
      have e : a.isProfile t = false := by
        cases q : a.isProfile t with
        | false => rfl
        | true => exact absurd (pf_iff.mp q).1 ne
      rwa [e] at this
    · have ht : t.length = a.agentCount := by
        simp [I.agl, o.tl] at hb
        omega
      refine q_forZ (ea_cons (ev_var rfl) (ea_cons (ev_kd T (I.mono e1) (ev_var rfl)) ea_nil)) (sq_of (e1 _ _ J)) (sq_of (I.mono e1).kinds) (by simp [I.agl, o.tl, ht])
        (fun i σ H' => (Ex H H' ∧ ∀ j, j < i → j < a.agentCount → t.getD j 0 < a.typeCount j) ∧ ∃ u v, σ = [some (.ref p), some (.ref pr), u, v]) (fun H2 e2 => ⟨⟨e1.trans e2, fun j hj => by omega⟩, none, none, rfl⟩) (fun i σ H' q => ⟨sq_of (q.1.1 _ _ J), sq_of (I.mono q.1.1).kinds⟩) ?_ ?_
      · rintro i x y σ H' H2 hx hy ⟨⟨e2, w2⟩, u, v, rfl⟩ e3
        obtain ⟨m, hm, rfl⟩ := map_get hx
        obtain ⟨q, hq, rfl⟩ := map_get hy
        have hi : i < a.types.length := by rw [← I.agl]; exact (List.getElem?_eq_some_iff.mp hq).1
        have hl : a.types[i]? = some (a.typesOf i) := typesOf_get o (by rw [← o.tl]; exact hi)
        obtain ⟨q', rs, h1, h2, h3, R⟩ := (I.mono (e2.trans e3)).agent hl
        cases hq.symm.trans h1
        have hlen : rs.length = a.typeCount i := by have := R.len; simpa [Su196.Instance.typeCount] using this
        have hg : t.getD i 0 = m := by rw [List.getD_eq_getElem?_getD, hm]; rfl
        refine s_when (et_test (ev_op (ev_var rfl) (ev_len (ev_var rfl) (sq_of h3)) rv_I0)) (fun hb H4 e4 => ?_) (fun hb H4 e4 => ?_)
        · refine s_ret ev_c fun H5 e5 => ?_
          have := k H5 (((e2.trans e3).trans e4).trans e5)
          have e : a.isProfile t = false := by
            cases q : a.isProfile t with
            | false => rfl
            | true =>
              have z := (pf_iff.mp q).2 i (by rw [← o.tl]; exact hi)
              simp [hlen] at hb
              omega
          rwa [e] at this
        · refine ⟨⟨(e2.trans e3).trans e4, fun j hj hja => ?_⟩, _, _, rfl⟩
          by_cases e : j = i
          · subst e
            simp [hlen] at hb
            omega
          · exact w2 j (by omega) hja
      · rintro σ H' ⟨⟨e2, w2⟩, u, v, rfl⟩
        refine s_ret ev_c fun H3 e3 => ?_
        have := k H3 (e2.trans e3)
        have e : a.isProfile t = true := pf_iff.mpr ⟨ht, fun j hj => w2 j (by simp [ht]; exact hj) hj⟩
        rwa [e] at this

abbrev s_with_report : Stmt := top 17
/-- 0 profile; 1 agent; 2 kind -/
theorem sc_with_report : FnScope ["profile", "agent", "kind"] ["profile", "agent", "kind"] (defScope s_with_report) := ⟨rfl, rfl, rfl, by decide +kernel, rfl, by decide +kernel, by decide +kernel⟩
def rWR (vs : List V) (H : Hp) (z : List V) : Prop := ∃ pr t i k, vs = [.ref pr, .int (i : Nat), .int (k : Nat)] ∧ H pr = some (.lst (nl t)) ∧ i < t.length ∧ t.length ≤ 100 ∧ z = nl (t.set i k)
theorem mo_WR : Mo rWR := fun vs H H' z e ⟨p, a, i, t, h, J, q⟩ => ⟨p, a, i, t, h, e _ _ J, q⟩
theorem ok_with_report (T : Txt K mg C D) (F : Fun K "with_report" "with_report" s_with_report f fd) : FnOk P w K mg base CX0 1 f fd ["profile", "agent", "kind"] (pL rWR) := by
  refine F.ok sc_with_report (fun vs H Q E h => ?_) (fun cdv A outer s H vs Q E hr h => ?_)
  · obtain ⟨z, ⟨pr, t, i, k, rfl, _⟩, _⟩ := h
    rfl
  · obtain ⟨z, ⟨pr, t, i, kk, rfl, J, hi, hl, rfl⟩, k⟩ := h
    refine ⟨_, (pss_one (ps_ret (pe_op op_cat (pe_op op_cat (pe_slice sl_list (pv 0) po_none (po_some (pv 1))) (pe_lst (pa_cons (pv 2) pa_nil))) (pe_slice sl_list (pv 0) (po_some (pe_op op_add (pv 1) pe_int)) po_none)))), ?_⟩
    refine s_retL (el_is (el_catLL (el_catLL (el_sl (ev_var rfl) eo_none (eo_some (ev_var rfl)) (sq_of J)) (el_lst (ea_cons (ev_var rfl) ea_nil) (by simp)) ?_) (el_sl (ev_var rfl) (eo_some (i := ((i + 1 : Nat) : Int)) (ev_op (ev_var rfl) ev_c rv_I0)) eo_none (sq_of J)) ?_) ?_) k
    · have := cutV_length (nl t) none (some (i : Nat))
      simp at this ⊢
      omega
    · have := cutV_length (nl t) none (some (i : Nat))
      have := cutV_length (nl t) (some ((i + 1 : Nat) : Int)) none
      simp at *
      omega
    · rw [cutV_to, cutV_from, ← set_eq t i kk hi]
      simp [List.map_take, List.map_drop]

abbrev s_alternative_at : Stmt := top 18
/-- 0 instance; 1 profile -/
theorem sc_alternative_at : FnScope ["instance", "profile"] ["instance", "profile"] (defScope s_alternative_at) := ⟨rfl, rfl, rfl, by decide +kernel, rfl, by decide +kernel, by decide +kernel⟩
def rAA (C : Addr) (vs : List V) (H : Hp) (z : V) : Prop := ∃ p a pr t, vs = [.ref p, .ref pr] ∧ (IA C H p a ∧ H pr = some (.lst (nl t))) ∧ Pf a t ∧ z = .int (a.allocated t : Nat)
theorem mo_AA : Mo (rAA C) := fun vs H H' z e ⟨p, a, i, t, h, ⟨I, J⟩, q⟩ => ⟨p, a, i, t, h, ⟨I.mono e, e _ _ J⟩, q⟩
theorem ok_alternative_at (T : Txt K mg C D) (O_number_of : Own P w K mg base "number_of" 1 ["instance", "profile"] (pV (rNO C))) (F : Fun K "alternative_at" "alternative_at" s_alternative_at f fd) : FnOk P w K mg base CX0 2 f fd ["instance", "profile"] (pV (rAA C)) := by
  refine F.ok sc_alternative_at (fun vs H Q E h => ?_) (fun cdv A outer s H vs Q E hr h => ?_)
  · obtain ⟨z, ⟨p, a, pr, t, rfl, _⟩, _⟩ := h
    rfl
  · obtain ⟨z, ⟨p, a, pr, t, rfl, ⟨⟨o, pk, pa, qs, rss, I⟩, J⟩, hp, rfl⟩, k⟩ := h
    refine ⟨_, (pss_one (ps_ret (pe_ix ix_list (pe_fld (pv 0) rfl) (pe_own O_number_of (hr.mono (by decide)) (pa_cons (pv 0) (pa_cons (pv 1) pa_nil))) (fun _ _ => rfl)))), ?_⟩
    exact s_ret (ev_at (ev_al T I (ev_var rfl)) (ev_own mo_NO (ea_cons (ev_var rfl) (ea_cons (ev_var rfl) ea_nil)) ⟨p, a, pr, t, rfl, ⟨⟨o, pk, pa, qs, rss, I⟩, J⟩, hp.1, rfl⟩) I.all (get_map (allocated_get o hp))) k
end
end Tp
namespace Tp
open PySem PySem.Spec PyProof.Rows L2 Evl
section
variable {P : Program} {w : World} {K : PySem.W.Frag} {mg : Str → Option Value} {base : Heap} {C D : Addr} {f : Addr} {fd : FuncData}
/-! reading digits -/
theorem digs_snoc (ks : List Nat) (k n : Nat) : digs (ks ++ [k]) n = digs ks n ++ [n / prod ks % k] := by
  rw [digs_append]; rfl
theorem prod_snoc (ks : List Nat) (k : Nat) : prod (ks ++ [k]) = prod ks * k := by
  rw [prod_append]; simp [prod]
theorem rev_get {α : Type} {l : List α} {i : Nat} (h : i < l.length) : l.reverse[i]? = l[l.length - 1 - i]? := by
  rw [List.getElem?_reverse h]

abbrev s_profile_at : Stmt := top 15
/-- 0 instance; 1 number; 2 found; 3 rest; 4 kinds -/
theorem sc_profile_at : FnScope ["instance", "number", "found", "rest", "kinds"] ["instance", "number"] (defScope s_profile_at) := ⟨rfl, rfl, rfl, by decide +kernel, rfl, by decide +kernel, by decide +kernel⟩
def rPA (C : Addr) (vs : List V) (H : Hp) (z : List V) : Prop := ∃ p a n, vs = [.ref p, .int (n : Nat)] ∧ IA C H p a ∧ (∀ l ∈ a.types, l ≠ []) ∧ z = nl (profAt a.types n)
theorem mo_PA : Mo (rPA C) := fun vs H H' z e ⟨p, a, n, h, I, q⟩ => ⟨p, a, n, h, I.mono e, q⟩
theorem ok_profile_at (T : Txt K mg C D) (F : Fun K "profile_at" "profile_at" s_profile_at f fd) : FnOk P w K mg base CX0 1 f fd ["instance", "number"] (pL (rPA C)) := by
  refine F.ok sc_profile_at (fun vs H Q E h => ?_) (fun cdv A outer s H vs Q E hr h => ?_)
  · obtain ⟨z, ⟨p, a, n, rfl, _⟩, _⟩ := h
    rfl
  · obtain ⟨z, ⟨p, a, n, rfl, ⟨o, pk, pa, qs, rss, I⟩, hne, rfl⟩, k⟩ := h
    refine ⟨_, (pss_cons (ps_par (i := 2) (j := 3) rfl sc_profile_at.nd rfl rfl (by decide) rfl rfl (pa_cons (pe_lst pa_nil) (pa_cons (pv 1) pa_nil)) (by rfl)) (pss_cons (ps_for PassesOwn.never rfl (pi_reversed (by rfl) T.reversed (pa_cons (pe_fld (pv 0) rfl) pa_nil)) (pg_name (i := 4) sc_profile_at.nd rfl (Or.inl rfl)) (pss_cons (ps_expr (pe_bm PySem.F.plainAttrs_list PySem.F.slot_list_append PySem.F.type_list_append mt_append (pv 2) (pa_cons (pe_op op_mod (pv 3) (pe_callB call_len_seq (by rfl) T.len PySem.boot_len (pa_cons (pv 4) pa_nil))) pa_nil))) (pss_one (ps_set (i := 3) sc_profile_at.nd rfl (Or.inl rfl) (pe_op op_fdiv (pv 3) (pe_callB call_len_seq (by rfl) T.len PySem.boot_len (pa_cons (pv 4) pa_nil))))))) (pss_one (ps_ret (pe_revL (pv 2)))))), ?_⟩
    refine ⟨Nat.zero_le _, fun l hl => ⟨.int (n : Nat), rfl, .ref l, .int (n : Nat), rfl, ?_⟩⟩
    have e0 : Ex H (upd H l (.lst [])) := Ex.new hl
    generalize hks : (a.types.map List.length).reverse = ks
    have kl : ks.length = a.types.length := by rw [← hks]; simp
    refine q_forR (ea_cons (ev_kd T (I.mono e0) (ev_var rfl)) ea_nil) (sq_of (I.mono e0).kinds)
      (fun i σ H' => (Ex H H' ∧ H' l = some (.lst (nl (digs (ks.take i) n)))) ∧ ∃ v, σ = [some (.ref p), some (.int (n : Nat)), some (.ref l), some (.int (n / prod (ks.take i) : Nat)), v])
      (fun H2 e2 => ⟨⟨e0.trans e2, e2 _ _ upd_same⟩, none, ?_⟩) (fun i σ H' q => sq_of (I.mono q.1.1).kinds) ?_ ?_
    · simp [prod]
      rfl
    · rintro i x σ H' hi hx ⟨⟨e2, hL⟩, v, rfl⟩
      rw [List.length_map, I.agl] at hi
      obtain ⟨q, hq, rfl⟩ := map_get hx
      rw [List.length_map, I.agl] at hq
      have hi' : a.types.length - 1 - i < a.types.length := by omega
      have hl' : a.types[a.types.length - 1 - i]? = some a.types[a.types.length - 1 - i] := List.getElem?_eq_getElem hi'
      generalize a.types[a.types.length - 1 - i] = ll at hl'
      obtain ⟨q', rs, h1, h2, h3, R⟩ := (I.mono e2).agent hl'
      cases hq.symm.trans h1
      have hlen : rs.length = ll.length := by have := R.len; simpa using this
      have h4 := o.t4 _ (List.mem_of_getElem? hl')
      have h5 : 0 < ll.length := List.length_pos_iff.mpr (hne _ (List.mem_of_getElem? hl'))
      have hk : ks[i]? = some ll.length := by
        rw [← hks, rev_get (by simpa using hi), List.length_map, List.getElem?_map, hl']
        rfl
      have hlt : (digs (ks.take i) n).length < 100000 := by
        have : ∀ (r : List Nat) (m : Nat), (digs r m).length = r.length := by
          intro r
          induction r with
          | nil => intro m; rfl
          | cons y r ih => intro m; simp [digs, ih]
        rw [this, List.length_take]
        have := o.ac3
        have := o.tl
        omega
      refine q_app hL (ev_var rfl) (ev_op (ev_var rfl) (ev_len (ev_var rfl) (sq_of h3)) (rv_I (by simp; omega))) (by simpa using hlt) fun H3 e3 => ?_
      have hql : q ≠ l := fun e => by
        subst e
        rw [I.ag _ _ _ h1 h2] at hl
        cases hl
      refine s_asg (ev_op (ev_var rfl) (ev_len (ev_var rfl) (sq_of ((upd_ne hql).trans (e3 _ _ h3)))) (rv_I (show CDiv _ _ from ⟨by simp; omega, by simp [hlen]; omega⟩))) fun H4 e4 => ⟨⟨((e2.trans e3).mut hl).trans e4, ?_⟩, some (.ref q), ?_⟩
      · refine e4 _ _ (upd_same.trans ?_)
        rw [take_more hk, digs_snoc]
        simp [hlen]
      · rw [take_more hk, prod_snoc, ← Nat.div_div_eq_div_mul]
        simp [hlen]
    · rintro σ H' ⟨⟨e2, hL⟩, v, rfl⟩
      refine s_retL (el_rev (ev_var rfl) hL) fun r H3 hr e3 h3 => ?_
      refine k r H3 (fresh_back e2 hr) (e2.trans e3) (h3.trans ?_)
      rw [List.take_of_length_le (by simp [kl, I.agl]), ← hks, ← List.map_reverse]
      rfl

abbrev s_are_values : Stmt := top 19
/-- 0 instance; 1 numbers; 2 number -/
theorem sc_are_values : FnScope ["instance", "numbers", "number"] ["instance", "numbers"] (defScope s_are_values) := ⟨rfl, rfl, rfl, by decide +kernel, rfl, by decide +kernel, by decide +kernel⟩
def rAV (C : Addr) (vs : List V) (H : Hp) (z : V) : Prop := ∃ p a pr ns, vs = [.ref p, .ref pr] ∧ (IA C H p a ∧ H pr = some (.lst (il ns))) ∧ ns.length ≤ 1000 ∧ z = .bl (decide (ns.length = a.alternativeCount) && ns.all fun v => decide (-50 ≤ v) && decide (v ≤ 50))
theorem mo_AV : Mo (rAV C) := fun vs H H' z e ⟨p, a, i, t, h, ⟨I, J⟩, q⟩ => ⟨p, a, i, t, h, ⟨I.mono e, e _ _ J⟩, q⟩
/-- lo ≤ x ≤ hi as a value -/
theorem ev_chain {σ : L2.St} {H : Hp} {ta tb tc : TE} {i j l : Int} (h1 : Ev ta σ H (.int i)) (h2 : Ev tb σ H (.int j)) (h3 : Ev tc σ H (.int l)) :
    Ev (tChain (rI0 fun i j => .bl (decide (i ≤ j))) (rI0 fun i j => .bl (decide (i ≤ j))) ta tb tc) σ H (.bl (decide (i ≤ j) && decide (j ≤ l))) := fun H1 e Q q =>
  h1 H1 e _ fun H2 e2 => h2 H2 (e.trans e2) _ fun H3 e3 => ⟨i, j, rfl, rfl, decide (i ≤ j), rfl, by
    cases hc : decide (i ≤ j) with
    | true => exact iteT (h3 H3 ((e.trans e2).trans e3) _ fun H4 e4 => ⟨j, l, rfl, rfl, q_is q hc H4 ((e2.trans e3).trans e4)⟩)
    | false => exact iteF (by have := q H3 (e2.trans e3); rwa [hc] at this)⟩
where
  q_is {Q : VK} {H1 : Hp} {i j l : Int} (q : ∀ H2, Ex H1 H2 → Q (.bl (decide (i ≤ j) && decide (j ≤ l))) H2) (hc : decide (i ≤ j) = true) (H4 : Hp) (e : Ex H1 H4) : Q (.bl (decide (j ≤ l))) H4 := by
    have := q H4 e
    rwa [hc, Bool.true_and] at this
theorem ok_are_values (T : Txt K mg C D) (F : Fun K "are_values" "are_values" s_are_values f fd) : FnOk P w K mg base CX0 1 f fd ["instance", "numbers"] (pV (rAV C)) := by
  refine F.ok sc_are_values (fun vs H Q E h => ?_) (fun cdv A outer s H vs Q E hr h => ?_)
  · obtain ⟨z, ⟨p, a, pr, t, rfl, _⟩, _⟩ := h
    rfl
  · obtain ⟨z, ⟨p, a, pr, t, rfl, ⟨I, J⟩, hz, rfl⟩, k⟩ := h
    refine ⟨_, (pss_cons (ps_if (pt_cmpR op_ne (pe_callB call_len_seq (by rfl) T.len PySem.boot_len (pa_cons (pv 1) pa_nil)) (pe_fld (pv 0) rfl) (nomark _)) (pss_one (ps_ret pe_bl)) pss_nil) (pss_one (ps_ret (pe_callB (cr_all rfl) (by rfl) T.all PyProof.Rows.boot_all (pa_cons (pe_lc (own := [("number", 2)]) (g := gName 2) (tt := tYes) rfl sc_are_values.nd (pi_list (pv 1)) (blkOk_by (N := ["instance", "numbers", "number"]) (sc := defScope s_are_values) (by decide +kernel)) (fun _ _ _ _ _ => pg_name (i := 2) sc_are_values.nd rfl (Or.inl rfl)) (fun _ _ _ _ _ => pts_nil) (fun _ _ _ _ _ => (pe_chain op_le op_le (pe_op op_sub pe_int (pe_cst T.cMAX_VALUE)) (pv 2) (pe_cst T.cMAX_VALUE)))) pa_nil))))), ?_⟩
    refine q_when (et_test (ev_op (ev_len (ev_var rfl) (sq_of J)) (ev_ac T I (ev_var rfl)) (rv_ne rfl))) (fun hb H1 e1 => ?_) (fun hb H1 e1 => ?_)
    · refine s_ret ev_c fun H2 e2 => ?_
      have := k H2 (e1.trans e2)
      have e : decide (t.length = a.alternativeCount) = false := by
        simp at hb
        simp
        omega
      rwa [e, Bool.false_and] at this
    · have e : decide (t.length = a.alternativeCount) = true := by
        simp at hb
        simp
        omega
      refine s_ret (ev_allL (bs := t.map fun v => decide (-50 ≤ v) && decide (v ≤ 50)) (el_lcL (fun _ => true) (fun i => .bl (decide (-50 ≤ t.getD i 0) && decide (t.getD i 0 ≤ 50))) (ev_var rfl) (sq_of (e1 _ _ J)) (by simp; omega) (fun x => rfl) (fun i x H2 e2 hx => et_yes) (fun i x H2 e2 hx _ => ?_)) ?_) fun H2 e2 => ?_
      · obtain ⟨v, hv, rfl⟩ := map_get hx
        have hg : t.getD i 0 = v := by rw [List.getD_eq_getElem?_getD, hv]; rfl
        rw [hg]
        exact ev_chain (ev_op ev_c ev_c rv_I0) (ev_var rfl) ev_c
      · rw [given_all]
        refine List.ext_getElem (by simp) fun i h1 h2 => ?_
        simp at h1
        simp [List.getD_eq_getElem?_getD, h1]
      · have := k H2 (e1.trans e2)
        rw [e, Bool.true_and] at this
        rw [List.all_map]
        exact this
end
end Tp
namespace Tp
open PySem PySem.Spec PyProof.Rows L2 Evl
section
variable {P : Program} {w : World} {K : PySem.W.Frag} {mg : Str → Option Value} {base : Heap} {C D : Addr} {f : Addr} {fd : FuncData}
/-! the kinds as data -/
def dI (v : List Int) : PyData := .list (v.map PyData.int)
def dL (l : List (List Int)) : PyData := .list (l.map dI)
theorem lay_ints : ∀ v : List Int, PyData.canLayAll0 (v.map PyData.int) = true ∧ PyData.depthAll (v.map PyData.int) = 0
  | [] => by simp [PyData.canLayAll0, PyData.depthAll]
  | x :: v => by
    obtain ⟨h1, h2⟩ := lay_ints v
    simp [PyData.canLayAll0, PyData.depthAll, PyData.canLay0, PyData.depth, h1, h2]
theorem lay_dI (v : List Int) : (dI v).canLay0 = true ∧ (dI v).depth ≤ 1 := by
  obtain ⟨h1, h2⟩ := lay_ints v
  simp [dI, PyData.canLay0, PyData.depth, h1, h2]
theorem lay_all {α : Type} {g : α → PyData} {n : Nat} (h : ∀ x, (g x).canLay0 = true ∧ (g x).depth ≤ n) : ∀ l : List α, PyData.canLayAll0 (l.map g) = true ∧ PyData.depthAll (l.map g) ≤ n
  | [] => by simp [PyData.canLayAll0, PyData.depthAll]
  | x :: l => by
    obtain ⟨h1, h2⟩ := lay_all h l
    obtain ⟨h3, h4⟩ := h x
    simp [PyData.canLayAll0, PyData.depthAll, h1, h3]
    omega
theorem lay_dL (l : List (List Int)) : (dL l).canLay0 = true ∧ (dL l).depth ≤ 2 := by
  obtain ⟨h1, h2⟩ := lay_all (g := dI) (n := 1) lay_dI l
  simp [dL, PyData.canLay0, PyData.depth, h1]
  omega
theorem lay_kinds (ts : List (List (List Int))) : SeqAt.shaped (.list (ts.map dL)) = true := by
  obtain ⟨h1, h2⟩ := lay_all (g := dL) (n := 2) lay_dL ts
  simp [SeqAt.shaped, PyData.canLay0, PyData.depth, h1]
  omega
theorem dpAll_of {H : Hp} : ∀ {xs : List V} {ds : List PyData}, xs.length = ds.length → (∀ (i : Nat) (x : V) (d : PyData), xs[i]? = some x → ds[i]? = some d → Dp K H x d) → DpAll K H xs ds
  | [], [], _, _ => .nil
  | x :: xs, d :: ds, hl, h => .cons (h 0 x d rfl rfl) (dpAll_of (by simpa using hl) fun i x d h1 h2 => h (i + 1) x d h1 h2)
theorem eqv_empty (l : List (List Int)) : PyData.eqv (dL l) (.list []) = l.isEmpty := by
  cases l <;> simp [dL, PyData.eqv, PyData.eqvAll]
theorem In.data {H : Hp} {p pk pa : Addr} {qs : List Addr} {rss : List (List Addr)} {a : Su196.Instance} (I : In C H p pk pa qs rss a) : Dp K H (.ref pk) (.list (a.types.map dL)) := by
  refine .lst (sq_of I.kinds) (dpAll_of (by simp [I.agl]) fun i x d h1 h2 => ?_)
  obtain ⟨q, hq, rfl⟩ := map_get h1
  rw [List.getElem?_map] at h2
  obtain ⟨l, hl, rfl⟩ := Option.map_eq_some_iff.mp h2
  obtain ⟨q', rs, h1, h2, h3, R⟩ := I.agent hl
  cases hq.symm.trans h1
  refine .lst (sq_of h3) (dpAll_of (by have := R.len; simpa using this) fun j y e h4 h5 => ?_)
  obtain ⟨r, hr, rfl⟩ := map_get h4
  rw [List.getElem?_map] at h5
  obtain ⟨v, hv, rfl⟩ := Option.map_eq_some_iff.mp h5
  have h6 := R.at_ j r (il v) hr (get_map' hv)
  exact .lst (sq_of h6) (dpAll_of (by simp) fun m z g h7 h8 => by
    obtain ⟨c, hc, rfl⟩ := map_get h7
    rw [List.getElem?_map, hc] at h8
    cases h8
    exact .int c)
where
  get_map' {l : List (List Int)} {j : Nat} {v : List Int} (h : l[j]? = some v) : (l.map il)[j]? = some (il v) := by
    rw [List.getElem?_map, h]; rfl

abbrev s_is_ready : Stmt := top 10
/-- 0 instance -/
theorem sc_is_ready : FnScope ["instance"] ["instance"] (defScope s_is_ready) := ⟨rfl, rfl, rfl, by decide +kernel, rfl, by decide +kernel, by decide +kernel⟩
def rIR (C : Addr) (vs : List V) (H : Hp) (z : V) : Prop := ∃ p a, vs = [.ref p] ∧ IA0 C H p a ∧ z = .bl a.isReady
theorem mo_IR : Mo (rIR C) := fun vs H H' z e ⟨p, a, h, I, q⟩ => ⟨p, a, h, I.mono e, q⟩
theorem ok_is_ready (T : Txt K mg C D) (F : Fun K "is_ready" "is_ready" s_is_ready f fd) : FnOk P w K mg base CX0 1 f fd ["instance"] (pV (rIR C)) := by
  refine F.ok sc_is_ready (fun vs H Q E h => ?_) (fun cdv A outer s H vs Q E hr h => ?_)
  · obtain ⟨z, ⟨p, a, rfl, _⟩, _⟩ := h
    rfl
  · obtain ⟨z, ⟨p, a, rfl, ⟨o, pk, pa, qs, rss, I⟩, rfl⟩, k⟩ := h
    have hu65 : _ + 65 < cLine := hr.units65
    refine ⟨_, (pss_one (ps_ret (pe_cmpR (op_notInD hu65) (pe_lst pa_nil) (pe_fld (pv 0) rfl) (by rfl)))), ?_⟩
    refine s_ret (v := .bl a.isReady) (fun H1 e1 Q1 q1 => el_lst ea_nil (by simp) H1 (Ex.refl _) _ fun l H2 hl e2 h2 => ev_kd T (I.mono (e1.trans e2)) (ev_var rfl) H2 (Ex.refl _) _ fun H3 e3 =>
      ⟨.list [], a.types.map dL, .lst (sq_of (e3 _ _ h2)) .nil, (I.mono ((e1.trans e2).trans e3)).data, by decide +kernel, lay_kinds _, ?_⟩) k
    have e : (!(a.types.map dL).any fun z => PyData.eqv z (.list [])) = a.isReady := by
      unfold Su196.Instance.isReady
      rw [List.any_map]
      have e1 : ((fun z => PyData.eqv z (.list [])) ∘ dL) = fun l => l.isEmpty := by funext l; exact eqv_empty l
      rw [e1]
      induction a.types with
      | nil => rfl
      | cons l ts ih => rw [List.any_cons, List.all_cons, ← ih, Bool.not_or]
    have q2 := q1 H3 (e2.trans e3)
    rwa [← e] at q2

/-- a comprehension's new list of lists, so far xss -/
def CL (H1 : Hp) (xss : List (List V)) (Dl : Addr) (H' : Hp) : Prop := ∃ rs : List Addr, (Ex H1 H' ∧ H' Dl = some (.lst (rs.map V.ref)) ∧ Rws H' rs xss) ∧ Dl ∉ rs ∧ ∀ r ∈ rs, H1 r = none
theorem CL.zero {H1 : Hp} {Dl : Addr} (hD : H1 Dl = none) : CL H1 [] Dl (upd H1 Dl (.lst [])) := ⟨[], ⟨Ex.new hD, upd_same, Rws.nil⟩, by simp, by simp⟩
theorem CL.snoc {H1 H' H3 H4 : Hp} {Dl r : Addr} {xss : List (List V)} {xs : List V} (hD : H1 Dl = none) (hz : xss.length < 50000) (p : CL H1 xss Dl H') (e3 : Ex H' H3) (hr : H3 r = none) (e4 : Ex H3 H4) (h4 : H4 r = some (.lst xs)) :
    ∃ acc, H4 Dl = some (.lst acc) ∧ acc.length < sizeLine ∧ CL H1 (xss ++ [xs]) Dl (upd H4 Dl (.lst (acc ++ [.ref r]))) := by
  obtain ⟨rs, ⟨p1, p2, p3⟩, p4, p5⟩ := p
  have hne : r ≠ Dl := fun z => by subst z; rw [e3 _ _ p2] at hr; cases hr
  refine ⟨rs.map V.ref, e4 _ _ (e3 _ _ p2), ?_, rs ++ [r], ⟨((p1.trans e3).trans e4).mut hD, ?_, ?_⟩, ?_, ?_⟩
  · rw [List.length_map, p3.len]
    exact Nat.lt_of_lt_of_le hz (by decide)
  · rw [List.map_append]
    exact upd_same
  · exact ((p3.mono (e3.trans e4)).upd p4).snoc ((upd_ne hne).trans h4)
  · simp [p4]
    exact fun z => hne z.symm
  · intro y hy
    rcases List.mem_append.mp hy with hy | hy
    · exact p5 y hy
    · simp at hy
      subst hy
      exact fresh_back (p1.trans e3) hr
/-- a comprehension over range(n) whose items are new lists -/
theorem ell_lcR1 {σ : L2.St} {H : Hp} {te : TE} {ta : TA} {j : Nat} {vs : List Nat} {n : Int} (v : Nat → List V) (h : EvA ta σ H [.int n]) (hn : 0 ≤ n ∧ n ≤ 40000) (hw : ∀ x, wipe ((wipe σ vs).set j (some x)) vs = wipe σ vs)
    (he : ∀ (i : Nat) H1, Ex H H1 → (i : Int) < n → EvL te ((wipe σ vs).set j (some (.int (i : Int)))) H1 (v i)) :
    EvLL (tLc (iRng1 ta) (gName j) tYes te vs) σ H ((List.range n.toNat).map v) := fun H0 e Q q => h H0 e _ fun H1 e1 => ⟨n, rfl, by omega, by omega, fun Dl hD =>
  lc_range (lo := 0) (n := n.toNat) (fun i H' => CL H1 ((List.range i).map v) Dl H') (CL.zero hD) (fun i H' hi p => by
    have e0 : (0 : Int) + (i : Int) = (i : Int) := Int.zero_add _
    show wipe ((wipe σ vs).set j (some (.int ((0 : Int) + (i : Int))))) vs = wipe σ vs ∧ te ((wipe σ vs).set j (some (.int ((0 : Int) + (i : Int))))) H' fun y H4 => ∃ acc, H4 Dl = some (.lst acc) ∧ acc.length < sizeLine ∧ CL H1 ((List.range (i + 1)).map v) Dl (upd H4 Dl (.lst (acc ++ [y])))
    rw [e0]
    refine ⟨hw _, he i H' ((e.trans e1).trans p.choose_spec.1.1) (by omega) H' (Ex.refl _) _ fun r H3 hr e3 h3 => ?_⟩
    have q := p.snoc hD (by simp; omega) (Ex.refl _) hr e3 h3
    rw [List.range_succ, List.map_append]
    exact q) (fun H' ⟨rs, ⟨p1, p2, p3⟩, p4, p5⟩ => q Dl rs H' (fresh_back e1 hD) (fun r hr => fresh_back e1 (p5 r hr)) p4 (e1.trans p1) p2 p3)⟩

abbrev s_all_profiles : Stmt := top 16
/-- 0 instance; 1 number -/
theorem sc_all_profiles : FnScope ["instance", "number"] ["instance"] (defScope s_all_profiles) := ⟨rfl, rfl, rfl, by decide +kernel, rfl, by decide +kernel, by decide +kernel⟩
def rAP (C : Addr) (vs : List V) (H : Hp) (z : List (List V)) : Prop := ∃ p a, vs = [.ref p] ∧ IA C H p a ∧ (∀ l ∈ a.types, l ≠ []) ∧ z = a.profiles.map nl
theorem mo_AP : Mo (rAP C) := fun vs H H' z e ⟨p, a, h, I, q⟩ => ⟨p, a, h, I.mono e, q⟩
theorem s_retLL {σ : L2.St} {H : Hp} {te : TE} {Dd : Ends} {xss : List (List V)} (h : EvLL te σ H xss) (k : RetLL xss H Dd.rt) : tRet te Dd σ H := h H (Ex.refl H) _ k
theorem ok_all_profiles (T : Txt K mg C D) (O_profile_count : Own P w K mg base "profile_count" 1 ["instance"] (pV (rPC C))) (O_profile_at : Own P w K mg base "profile_at" 1 ["instance", "number"] (pL (rPA C))) (F : Fun K "all_profiles" "all_profiles" s_all_profiles f fd) : FnOk P w K mg base CX0 2 f fd ["instance"] (pLL (rAP C)) := by
  refine F.ok sc_all_profiles (fun vs H Q E h => ?_) (fun cdv A outer s H vs Q E hr h => ?_)
  · obtain ⟨z, ⟨p, a, rfl, _⟩, _⟩ := h
    rfl
  · obtain ⟨z, ⟨p, a, rfl, I, hne, rfl⟩, k⟩ := h
    refine ⟨_, (pss_one (ps_ret (pe_lc (own := [("number", 1)]) (g := gName 1) (tt := tYes) rfl sc_all_profiles.nd (pi_range1 rfl T.range (pa_cons (pe_own O_profile_count (hr.mono (by decide)) (pa_cons (pv 0) pa_nil)) pa_nil)) (blkOk_by (N := ["instance", "number"]) (sc := defScope s_all_profiles) (by decide +kernel)) (fun _ _ _ _ _ => pg_name (i := 1) sc_all_profiles.nd rfl (Or.inl rfl)) (fun _ _ _ _ _ => pts_nil) (fun _ _ _ _ _ => (pe_own O_profile_at (hr.mono (by decide)) (pa_cons (pv 0) (pa_cons (pv 1) pa_nil))))))), ?_⟩
    refine s_retLL ?_ k
    have e : a.profiles.map nl = (List.range ((cnt a.types : Nat) : Int).toNat).map fun n => nl (profAt a.types n) := by
      rw [profiles_eq, List.map_map, Int.toNat_natCast]
      rfl
    rw [e]
    have h64 := cnt_le64 I.1
    exact ell_lcR1 (fun n => nl (profAt a.types n)) (ea_cons (ev_own mo_PC (ea_cons (ev_var rfl) ea_nil) ⟨p, a, rfl, I.to0, rfl⟩) ea_nil) (by omega) (fun x => rfl) fun i H1 e1 hi =>
      el_own mo_PA (ea_cons (ev_var rfl) (ea_cons (ev_var rfl) ea_nil)) ⟨p, a, i, rfl, I.mono e1, hne, rfl⟩
end
end Tp
namespace Tp
open PySem PySem.Spec PyProof.Rows L2 Evl
section
variable {P : Program} {w : World} {K : PySem.W.Frag} {mg : Str → Option Value} {base : Heap} {C D : Addr} {f : Addr} {fd : FuncData}
/-! calls whose argument is a new list -/
theorem ev_ownL {σ : L2.St} {H : Hp} {tb : TE} {E : XK} {R : List V → Hp → V → Prop} {xs : List V} {z : V} (hb : EvL tb σ H xs) (h : ∀ p H1, Ex H H1 → H1 p = some (.lst xs) → R [.ref p] H1 z) : Ev (tCall (pV R) [] E (tCons tb tNil)) σ H z := fun H1 e Q q =>
  hb H1 e _ fun p H2 _ e2 h2 => ⟨z, h p H2 (e.trans e2) h2, fun H3 e3 => q H3 (e2.trans e3)⟩
theorem ev_ownVL {σ : L2.St} {H : Hp} {ta tb : TE} {E : XK} {R : List V → Hp → V → Prop} {x : V} {xs : List V} {z : V} (ha : Ev ta σ H x) (hb : EvL tb σ H xs) (h : ∀ p H1, Ex H H1 → H1 p = some (.lst xs) → R [x, .ref p] H1 z) :
    Ev (tCall (pV R) [] E (tCons ta (tCons tb tNil))) σ H z := fun H1 e Q q =>
  ha H1 e _ fun H2 e2 => hb H2 (e.trans e2) _ fun p H3 _ e3 h3 => ⟨z, h p H3 ((e.trans e2).trans e3) h3, fun H4 e4 => q H4 ((e2.trans e3).trans e4)⟩
theorem getD_of {t : List Nat} {i m : Nat} (h : t[i]? = some m) : t.getD i 0 = m := by rw [List.getD_eq_getElem?_getD, h]; rfl
theorem get_of {t : List Nat} {i : Nat} (h : i < t.length) : t[i]? = some (t.getD i 0) := by rw [List.getD_eq_getElem?_getD, List.getElem?_eq_getElem h]; rfl
theorem sum_snoc (l : List Int) (x : Int) : (l ++ [x]).sum = l.sum + x := by simp [List.sum_append]
theorem range_sum (f : Nat → Int) (i : Nat) : ((List.range (i + 1)).map f).sum = ((List.range i).map f).sum + f i := by
  rw [List.range_succ, List.map_append, List.map_singleton, sum_snoc]

abbrev s_first_greatest : Stmt := top 21
/-- 0 scores; 1 best; 2 index -/
theorem sc_first_greatest : FnScope ["scores", "best", "index"] ["scores"] (defScope s_first_greatest) := ⟨rfl, rfl, rfl, by decide +kernel, rfl, by decide +kernel, by decide +kernel⟩
def rFG (vs : List V) (H : Hp) (z : V) : Prop := ∃ pr ns, vs = [.ref pr] ∧ H pr = some (.lst (il ns)) ∧ (0 < ns.length ∧ ns.length ≤ 1000) ∧ z = .int (fg ns : Nat)
theorem mo_FG : Mo rFG := fun vs H H' z e ⟨p, ns, h, J, q⟩ => ⟨p, ns, h, e _ _ J, q⟩
theorem ok_first_greatest (T : Txt K mg C D) (F : Fun K "first_greatest" "first_greatest" s_first_greatest f fd) : FnOk P w K mg base CX0 1 f fd ["scores"] (pV rFG) := by
  refine F.ok sc_first_greatest (fun vs H Q E h => ?_) (fun cdv A outer s H vs Q E hr h => ?_)
  · obtain ⟨z, ⟨p, a, rfl, _⟩, _⟩ := h
    rfl
  · obtain ⟨z, ⟨pr, ns, rfl, J, hz, rfl⟩, k⟩ := h
    refine ⟨_, (pss_cons (ps_set (i := 1) sc_first_greatest.nd rfl (Or.inl rfl) pe_int) (pss_cons (ps_for PassesOwn.never rfl (pi_range2 rfl T.range (pa_cons pe_int (pa_cons (pe_callB call_len_seq (by rfl) T.len PySem.boot_len (pa_cons (pv 0) pa_nil)) pa_nil))) (pg_name (i := 2) sc_first_greatest.nd rfl (Or.inl rfl)) (pss_one (ps_if (pt_cmpR op_gt (pe_ix ix_list (pv 0) (pv 2) (fun _ _ => rfl)) (pe_ix ix_list (pv 0) (pv 1) (fun _ _ => rfl)) (nomark _)) (pss_one (ps_set (i := 1) sc_first_greatest.nd rfl (Or.inl rfl) (pv 2))) pss_nil))) (pss_one (ps_ret (pv 1))))), ?_⟩
    refine q_asg ev_c fun H1 e1 => q_forR2 (lo := 1) (n := (ns.length : Nat)) (ea_cons ev_c (ea_cons (ev_is (ev_len (ev_var rfl) (sq_of (e1 _ _ J))) (by simp)) ea_nil)) (by omega)
      (fun i σ H' => Ex H H' ∧ ∃ v, σ = [some (.ref pr), some (.int (fgs ns i : Nat)), v]) (fun H2 e2 => ⟨e1.trans e2, none, rfl⟩) ?_ ?_
    · rintro i σ H' hi ⟨e2, v, rfl⟩
      have hle := fgs_le ns i
      have g1 : ∀ {m : Nat}, m < ns.length → (il ns)[m]? = some (.int (ns.getD m 0)) := fun {m} hm => get_map (by rw [List.getD_eq_getElem?_getD, List.getElem?_eq_getElem hm]; rfl)
      have ej : (1 : Int) + (i : Nat) = ((1 + i : Nat) : Int) := by omega
      rw [ej]
      refine s_ifAsg (v := .int (fgs ns (i + 1) : Nat)) (et_test (ev_op (ev_at (ev_var rfl) (ev_var rfl) (e2 _ _ J) (g1 (m := 1 + i) (by omega))) (ev_at (ev_var rfl) (ev_var rfl) (e2 _ _ J) (g1 (m := fgs ns i) (by omega))) rv_I0)) (fun hb => ?_) (fun hb => ?_) (fun H3 e3 => ⟨e2.trans e3, _, rfl⟩)
      · have hb := of_decide_eq_true hb
        rw [fgs_succ, if_pos hb]
        exact ev_var rfl
      · have hb := of_decide_eq_false hb
        rw [fgs_succ, if_neg hb]
        rfl
    · rintro σ H' ⟨e2, v, rfl⟩
      refine s_ret (ev_var rfl) fun H3 e3 => ?_
      have := k H3 (e2.trans e3)
      have e : ((ns.length : Nat) - 1 : Int).toNat = ns.length - 1 := by omega
      rw [e]
      exact this

abbrev s_total_value : Stmt := top 22
/-- 0 instance; 1 profile; 2 alternative; 3 found; 4 agent; 5 kind -/
theorem sc_total_value : FnScope ["instance", "profile", "alternative", "found", "agent", "kind"] ["instance", "profile", "alternative"] (defScope s_total_value) := ⟨rfl, rfl, rfl, by decide +kernel, rfl, by decide +kernel, by decide +kernel⟩
def rTV (C : Addr) (vs : List V) (H : Hp) (z : V) : Prop := ∃ p a pr t x, vs = [.ref p, .ref pr, .int (x : Nat)] ∧ (IA C H p a ∧ H pr = some (.lst (nl t))) ∧ (Pf a t ∧ x < a.alternativeCount) ∧ z = .int (a.totalValue t x)
theorem mo_TV : Mo (rTV C) := fun vs H H' z e ⟨p, a, i, t, x, h, ⟨I, J⟩, q⟩ => ⟨p, a, i, t, x, h, ⟨I.mono e, e _ _ J⟩, q⟩
theorem ok_total_value (T : Txt K mg C D) (O_value_of : Own P w K mg base "value_of" 1 ["instance", "agent", "kind", "alternative"] (pV (rVO C))) (F : Fun K "total_value" "total_value" s_total_value f fd) : FnOk P w K mg base CX0 2 f fd ["instance", "profile", "alternative"] (pV (rTV C)) := by
  refine F.ok sc_total_value (fun vs H Q E h => ?_) (fun cdv A outer s H vs Q E hr h => ?_)
  · obtain ⟨z, ⟨p, a, pr, t, x, rfl, _⟩, _⟩ := h
    rfl
  · obtain ⟨z, ⟨p, a, pr, t, x, rfl, ⟨I, J⟩, ⟨hp, hx⟩, rfl⟩, k⟩ := h
    refine ⟨_, (pss_cons (ps_set (i := 3) sc_total_value.nd rfl (Or.inl rfl) pe_int) (pss_cons (ps_for PassesOwn.never rfl (pi_enum (by rfl) T.enumerate (pa_cons (pv 1) pa_nil)) (pg_tup rfl (pgs_cons (pg_name (i := 4) sc_total_value.nd rfl (Or.inl rfl)) (pgs_cons (pg_name (i := 5) sc_total_value.nd rfl (Or.inl rfl)) pgs_nil))) (pss_one (ps_set (i := 3) sc_total_value.nd rfl (Or.inl rfl) (pe_op op_add (pv 3) (pe_own O_value_of (hr.mono (by decide)) (pa_cons (pv 0) (pa_cons (pv 4) (pa_cons (pv 5) (pa_cons (pv 2) pa_nil))))))))) (pss_one (ps_ret (pv 3))))), ?_⟩
    refine q_asg ev_c fun H1 e1 => q_forE (ea_cons (ev_var rfl) ea_nil) (sq_of (e1 _ _ J))
      (fun i σ H' => Ex H H' ∧ ∃ u v, σ = [some (.ref p), some (.ref pr), some (.int (x : Nat)), some (.int ((List.range i).map fun j => a.reportedValue j x t).sum), u, v]) (fun H2 e2 => ⟨e1.trans e2, none, none, rfl⟩) (fun i σ H' _ q => sq_of (q.1 _ _ J)) ?_ ?_
    · rintro i y σ H' H2 hy ⟨e2, u, v, rfl⟩ e3
      obtain ⟨m, hm, rfl⟩ := map_get hy
      have hi : i < a.agentCount := by rw [← hp.1]; exact (List.getElem?_eq_some_iff.mp hm).1
      have hk := hp.2 i hi
      rw [getD_of hm] at hk
      refine s_asg (ev_op (ev_var rfl) (ev_own mo_VO (ea_cons (ev_var rfl) (ea_cons (ev_var rfl) (ea_cons (ev_var rfl) (ea_cons (ev_var rfl) ea_nil)))) ⟨p, a, i, m, x, rfl, I.mono (e2.trans e3), ⟨hi, hk, hx⟩, rfl⟩) rv_I0) fun H3 e4 => ⟨(e2.trans e3).trans e4, some (.int (i : Nat)), some (.int (m : Nat)), ?_⟩
      rw [range_sum]
      have e : a.reportedValue i x t = a.value i m x := by unfold Su196.Instance.reportedValue; rw [getD_of hm]
      rw [e]
      rfl
    · rintro σ H' ⟨e2, u, v, rfl⟩
      refine s_ret (ev_var rfl) fun H3 e3 => ?_
      have := k H3 (e2.trans e3)
      unfold Su196.Instance.totalValue Su196.Instance.agents at this
      rw [List.length_map, hp.1]
      exact this

abbrev s_others_value : Stmt := top 23
/-- 0 instance; 1 profile; 2 agent; 3 alternative -/
theorem sc_others_value : FnScope ["instance", "profile", "agent", "alternative"] ["instance", "profile", "agent", "alternative"] (defScope s_others_value) := ⟨rfl, rfl, rfl, by decide +kernel, rfl, by decide +kernel, by decide +kernel⟩
def rOV (C : Addr) (vs : List V) (H : Hp) (z : V) : Prop := ∃ p a pr t i x, vs = [.ref p, .ref pr, .int (i : Nat), .int (x : Nat)] ∧ (IA C H p a ∧ H pr = some (.lst (nl t))) ∧ (Pf a t ∧ i < a.agentCount ∧ x < a.alternativeCount) ∧ z = .int (a.othersValue i t x)
theorem mo_OV : Mo (rOV C) := fun vs H H' z e ⟨p, a, i, t, j, x, h, ⟨I, J⟩, q⟩ => ⟨p, a, i, t, j, x, h, ⟨I.mono e, e _ _ J⟩, q⟩
theorem ok_others_value (T : Txt K mg C D) (O_value_of : Own P w K mg base "value_of" 1 ["instance", "agent", "kind", "alternative"] (pV (rVO C))) (O_total_value : Own P w K mg base "total_value" 2 ["instance", "profile", "alternative"] (pV (rTV C))) (F : Fun K "others_value" "others_value" s_others_value f fd) : FnOk P w K mg base CX0 3 f fd ["instance", "profile", "agent", "alternative"] (pV (rOV C)) := by
  refine F.ok sc_others_value (fun vs H Q E h => ?_) (fun cdv A outer s H vs Q E hr h => ?_)
  · obtain ⟨z, ⟨p, a, pr, t, i, x, rfl, _⟩, _⟩ := h
    rfl
  · obtain ⟨z, ⟨p, a, pr, t, i, x, rfl, ⟨I, J⟩, ⟨hp, hi, hx⟩, rfl⟩, k⟩ := h
    refine ⟨_, (pss_one (ps_ret (pe_op op_sub (pe_own O_total_value (hr.mono (by decide)) (pa_cons (pv 0) (pa_cons (pv 1) (pa_cons (pv 3) pa_nil)))) (pe_own O_value_of (hr.mono (by decide)) (pa_cons (pv 0) (pa_cons (pv 2) (pa_cons (pe_ix ix_list (pv 1) (pv 2) (fun _ _ => rfl)) (pa_cons (pv 3) pa_nil)))))))), ?_⟩
    exact s_ret (ev_op (ev_own mo_TV (ea_cons (ev_var rfl) (ea_cons (ev_var rfl) (ea_cons (ev_var rfl) ea_nil))) ⟨p, a, pr, t, x, rfl, ⟨I, J⟩, ⟨hp, hx⟩, rfl⟩)
      (ev_own mo_VO (ea_cons (ev_var rfl) (ea_cons (ev_var rfl) (ea_cons (ev_at (ev_var rfl) (ev_var rfl) J (get_map (get_of (by rw [hp.1]; exact hi)))) (ea_cons (ev_var rfl) ea_nil)))) ⟨p, a, i, t.getD i 0, x, rfl, I, ⟨hi, hp.2 i hi, hx⟩, rfl⟩) rv_I0) k

abbrev s_total_values : Stmt := top 24
/-- 0 instance; 1 profile; 2 alternative -/
theorem sc_total_values : FnScope ["instance", "profile", "alternative"] ["instance", "profile"] (defScope s_total_values) := ⟨rfl, rfl, rfl, by decide +kernel, rfl, by decide +kernel, by decide +kernel⟩
def rTVs (C : Addr) (vs : List V) (H : Hp) (z : List V) : Prop := ∃ p a pr t, vs = [.ref p, .ref pr] ∧ (IA C H p a ∧ H pr = some (.lst (nl t))) ∧ Pf a t ∧ z = il ((List.range a.alternativeCount).map (a.totalValue t))
theorem mo_TVs : Mo (rTVs C) := fun vs H H' z e ⟨p, a, i, t, h, ⟨I, J⟩, q⟩ => ⟨p, a, i, t, h, ⟨I.mono e, e _ _ J⟩, q⟩
theorem ok_total_values (T : Txt K mg C D) (O_total_value : Own P w K mg base "total_value" 2 ["instance", "profile", "alternative"] (pV (rTV C))) (F : Fun K "total_values" "total_values" s_total_values f fd) : FnOk P w K mg base CX0 3 f fd ["instance", "profile"] (pL (rTVs C)) := by
  refine F.ok sc_total_values (fun vs H Q E h => ?_) (fun cdv A outer s H vs Q E hr h => ?_)
  · obtain ⟨z, ⟨p, a, pr, t, rfl, _⟩, _⟩ := h
    rfl
  · obtain ⟨z, ⟨p, a, pr, t, rfl, ⟨I, J⟩, hp, rfl⟩, k⟩ := h
    refine ⟨_, (pss_one (ps_ret (pe_lc (own := [("alternative", 2)]) (g := gName 2) (tt := tYes) rfl sc_total_values.nd (pi_range1 rfl T.range (pa_cons (pe_fld (pv 0) rfl) pa_nil)) (blkOk_by (N := ["instance", "profile", "alternative"]) (sc := defScope s_total_values) (by decide +kernel)) (fun _ _ _ _ _ => pg_name (i := 2) sc_total_values.nd rfl (Or.inl rfl)) (fun _ _ _ _ _ => pts_nil) (fun _ _ _ _ _ => (pe_own O_total_value (hr.mono (by decide)) (pa_cons (pv 0) (pa_cons (pv 1) (pa_cons (pv 2) pa_nil)))))))), ?_⟩
    have h4 := I.1.al4
    refine s_retL (el_is (el_lcR1 (fun _ => true) (fun x => .int (a.totalValue t x)) (ea_cons (ev_ac T I (ev_var rfl)) ea_nil) (by omega) (fun x => rfl) (fun i H1 e1 hi => et_yes) (fun i H1 e1 hi _ => ?_)) ?_) k
    · exact ev_own mo_TV (ea_cons (ev_var rfl) (ea_cons (ev_var rfl) (ea_cons (ev_var rfl) ea_nil))) ⟨p, a, pr, t, i, rfl, ⟨I.mono e1, e1 _ _ J⟩, ⟨hp, by omega⟩, rfl⟩
    · rw [given_all, Int.toNat_natCast]
      simp

abbrev s_weighted_value : Stmt := top 25
/-- 0 instance; 1 profile; 2 weights; 3 alternative; 4 found; 5 agent; 6 kind -/
theorem sc_weighted_value : FnScope ["instance", "profile", "weights", "alternative", "found", "agent", "kind"] ["instance", "profile", "weights", "alternative"] (defScope s_weighted_value) := ⟨rfl, rfl, rfl, by decide +kernel, rfl, by decide +kernel, by decide +kernel⟩
def rWV (C : Addr) (vs : List V) (H : Hp) (z : V) : Prop := ∃ p a pr t pw ws x, vs = [.ref p, .ref pr, .ref pw, .int (x : Nat)] ∧ (IA C H p a ∧ H pr = some (.lst (nl t)) ∧ H pw = some (.lst (nl ws))) ∧ (Pf a t ∧ x < a.alternativeCount ∧ ws.length = a.agentCount ∧ ∀ y ∈ ws, y ≤ 99) ∧
  z = .int (a.agents.map fun i => (ws.getD i 0 : Int) * a.reportedValue i x t).sum
theorem mo_WV : Mo (rWV C) := fun vs H H' z e ⟨p, a, i, t, j, l, x, h, ⟨I, J, L⟩, q⟩ => ⟨p, a, i, t, j, l, x, h, ⟨I.mono e, e _ _ J, e _ _ L⟩, q⟩
theorem ok_weighted_value (T : Txt K mg C D) (O_value_of : Own P w K mg base "value_of" 1 ["instance", "agent", "kind", "alternative"] (pV (rVO C))) (F : Fun K "weighted_value" "weighted_value" s_weighted_value f fd) : FnOk P w K mg base CX0 2 f fd ["instance", "profile", "weights", "alternative"] (pV (rWV C)) := by
  refine F.ok sc_weighted_value (fun vs H Q E h => ?_) (fun cdv A outer s H vs Q E hr h => ?_)
  · obtain ⟨z, ⟨p, a, pr, t, pw, ws, x, rfl, _⟩, _⟩ := h
    rfl
  · obtain ⟨z, ⟨p, a, pr, t, pw, ws, x, rfl, ⟨I, J, L⟩, ⟨hp, hx, hw, hb⟩, rfl⟩, k⟩ := h
    refine ⟨_, (pss_cons (ps_set (i := 4) sc_weighted_value.nd rfl (Or.inl rfl) pe_int) (pss_cons (ps_for PassesOwn.never rfl (pi_enum (by rfl) T.enumerate (pa_cons (pv 1) pa_nil)) (pg_tup rfl (pgs_cons (pg_name (i := 5) sc_weighted_value.nd rfl (Or.inl rfl)) (pgs_cons (pg_name (i := 6) sc_weighted_value.nd rfl (Or.inl rfl)) pgs_nil))) (pss_one (ps_set (i := 4) sc_weighted_value.nd rfl (Or.inl rfl) (pe_op op_add (pv 4) (pe_op op_mul (pe_ix ix_list (pv 2) (pv 5) (fun _ _ => rfl)) (pe_own O_value_of (hr.mono (by decide)) (pa_cons (pv 0) (pa_cons (pv 5) (pa_cons (pv 6) (pa_cons (pv 3) pa_nil)))))))))) (pss_one (ps_ret (pv 4))))), ?_⟩
    refine q_asg ev_c fun H1 e1 => q_forE (ea_cons (ev_var rfl) ea_nil) (sq_of (e1 _ _ J))
      (fun i σ H' => Ex H H' ∧ ∃ u v, σ = [some (.ref p), some (.ref pr), some (.ref pw), some (.int (x : Nat)), some (.int ((List.range i).map fun j => (ws.getD j 0 : Int) * a.reportedValue j x t).sum), u, v]) (fun H2 e2 => ⟨e1.trans e2, none, none, rfl⟩) (fun i σ H' _ q => sq_of (q.1 _ _ J)) ?_ ?_
    · rintro i y σ H' H2 hy ⟨e2, u, v, rfl⟩ e3
      obtain ⟨m, hm, rfl⟩ := map_get hy
      have hi : i < a.agentCount := by rw [← hp.1]; exact (List.getElem?_eq_some_iff.mp hm).1
      have hk := hp.2 i hi
      rw [getD_of hm] at hk
      have hwi := get_of (t := ws) (i := i) (by rw [hw]; exact hi)
      have hwb := hb _ (List.mem_of_getElem? hwi)
      refine s_asg (ev_op (ev_var rfl) (ev_op (ev_at (ev_var rfl) (ev_var rfl) ((e2.trans e3) _ _ L) (get_map hwi)) (ev_own mo_VO (ea_cons (ev_var rfl) (ea_cons (ev_var rfl) (ea_cons (ev_var rfl) (ea_cons (ev_var rfl) ea_nil)))) ⟨p, a, i, m, x, rfl, I.mono (e2.trans e3), ⟨hi, hk, hx⟩, rfl⟩) (rv_I (.inl ⟨by omega, by omega⟩))) rv_I0) fun H3 e4 => ⟨(e2.trans e3).trans e4, some (.int (i : Nat)), some (.int (m : Nat)), ?_⟩
      rw [range_sum]
      have e : a.reportedValue i x t = a.value i m x := by unfold Su196.Instance.reportedValue; rw [getD_of hm]
      rw [e]
      rfl
    · rintro σ H' ⟨e2, u, v, rfl⟩
      refine s_ret (ev_var rfl) fun H3 e3 => ?_
      have := k H3 (e2.trans e3)
      unfold Su196.Instance.agents at this
      rw [List.length_map, hp.1]
      exact this

/-- the affine score -/
def aff (a : Su196.Instance) (ws bs : List Nat) (t : List Nat) (x : Nat) : Int := (a.agents.map fun i => (ws.getD i 0 : Int) * a.reportedValue i x t).sum + (bs.getD x 0 : Int)
abbrev s_affine_scores : Stmt := top 26
/-- 0 instance; 1 profile; 2 weights; 3 boosts; 4 found; 5 alternative; 6 boost -/
theorem sc_affine_scores : FnScope ["instance", "profile", "weights", "boosts", "found", "alternative", "boost"] ["instance", "profile", "weights", "boosts"] (defScope s_affine_scores) := ⟨rfl, rfl, rfl, by decide +kernel, rfl, by decide +kernel, by decide +kernel⟩
def rAS (C : Addr) (vs : List V) (H : Hp) (z : List V) : Prop := ∃ p a pr t pw ws pb bs, vs = [.ref p, .ref pr, .ref pw, .ref pb] ∧ (IA C H p a ∧ H pr = some (.lst (nl t)) ∧ H pw = some (.lst (nl ws)) ∧ H pb = some (.lst (nl bs))) ∧ (Pf a t ∧ ws.length = a.agentCount ∧ (∀ y ∈ ws, y ≤ 99) ∧ bs.length = a.alternativeCount) ∧
  z = il ((List.range a.alternativeCount).map (aff a ws bs t))
theorem mo_AS : Mo (rAS C) := fun vs H H' z e ⟨p, a, i, t, j, l, m, n, h, ⟨I, J, L, M⟩, q⟩ => ⟨p, a, i, t, j, l, m, n, h, ⟨I.mono e, e _ _ J, e _ _ L, e _ _ M⟩, q⟩
theorem ok_affine_scores (T : Txt K mg C D) (O_weighted_value : Own P w K mg base "weighted_value" 2 ["instance", "profile", "weights", "alternative"] (pV (rWV C))) (F : Fun K "affine_scores" "affine_scores" s_affine_scores f fd) : FnOk P w K mg base CX0 3 f fd ["instance", "profile", "weights", "boosts"] (pL (rAS C)) := by
  refine F.ok sc_affine_scores (fun vs H Q E h => ?_) (fun cdv A outer s H vs Q E hr h => ?_)
  · obtain ⟨z, ⟨p, a, pr, t, pw, ws, pb, bs, rfl, _⟩, _⟩ := h
    rfl
  · obtain ⟨z, ⟨p, a, pr, t, pw, ws, pb, bs, rfl, ⟨I, J, L, M⟩, ⟨hp, hw, hb, hn⟩, rfl⟩, k⟩ := h
    refine ⟨_, (pss_cons (ps_set (i := 4) sc_affine_scores.nd rfl (Or.inl rfl) (pe_lst pa_nil)) (pss_cons (ps_for PassesOwn.never rfl (pi_enum (by rfl) T.enumerate (pa_cons (pv 3) pa_nil)) (pg_tup rfl (pgs_cons (pg_name (i := 5) sc_affine_scores.nd rfl (Or.inl rfl)) (pgs_cons (pg_name (i := 6) sc_affine_scores.nd rfl (Or.inl rfl)) pgs_nil))) (pss_one (ps_expr (pe_bm PySem.F.plainAttrs_list PySem.F.slot_list_append PySem.F.type_list_append mt_append (pv 4) (pa_cons (pe_op op_add (pe_own O_weighted_value (hr.mono (by decide)) (pa_cons (pv 0) (pa_cons (pv 1) (pa_cons (pv 2) (pa_cons (pv 5) pa_nil))))) (pv 6)) pa_nil))))) (pss_one (ps_ret (pv 4))))), ?_⟩
    refine q_asgL (el_lst ea_nil (by simp)) fun l H1 hl e1 h1 => q_forE (ea_cons (ev_var rfl) ea_nil) (sq_of (e1 _ _ M))
      (fun i σ H' => (Ex H H' ∧ H' l = some (.lst (il ((List.range i).map (aff a ws bs t))))) ∧ ∃ u v, σ = [some (.ref p), some (.ref pr), some (.ref pw), some (.ref pb), some (.ref l), u, v]) (fun H2 e2 => ⟨⟨e1.trans e2, e2 _ _ h1⟩, none, none, rfl⟩) (fun i σ H' _ q => sq_of (q.1.1 _ _ M)) ?_ ?_
    · rintro i y σ H' H2 hy ⟨⟨e2, h2⟩, u, v, rfl⟩ e3
      obtain ⟨m, hm, rfl⟩ := map_get hy
      have hi : i < a.alternativeCount := by rw [← hn]; exact (List.getElem?_eq_some_iff.mp hm).1
      have h4 := I.1.al4
      refine s_app (e3 _ _ h2) (ev_var rfl) (ev_op (ev_own mo_WV (ea_cons (ev_var rfl) (ea_cons (ev_var rfl) (ea_cons (ev_var rfl) (ea_cons (ev_var rfl) ea_nil)))) ⟨p, a, pr, t, pw, ws, i, rfl, ⟨I.mono (e2.trans e3), (e2.trans e3) _ _ J, (e2.trans e3) _ _ L⟩, ⟨hp, hi, hw, hb⟩, rfl⟩) (ev_var rfl) rv_I0) (by simp; omega) fun H3 e4 => ⟨⟨((e2.trans e3).trans e4).mut hl, ?_⟩, _, _, rfl⟩
      rw [List.range_succ, List.map_append]
      refine upd_same.trans ?_
      simp [aff, hm]
    · rintro σ H' ⟨⟨e2, h2⟩, u, v, rfl⟩
      refine s_ret (ev_var rfl) fun H3 e3 => ?_
      refine k l H3 hl (e2.trans e3) ((e3 _ _ h2).trans ?_)
      simp [hn]
end
end Tp
namespace Tp
open PySem PySem.Spec PyProof.Rows L2 Evl
section
variable {P : Program} {w : World} {K : PySem.W.Frag} {mg : Str → Option Value} {base : Heap} {C D : Addr} {f : Addr} {fd : FuncData}
/-- a comprehension over a new list of lists -/
theorem el_lcLL {K : PySem.W.Frag} {σ : L2.St} {H : Hp} {te tl : TE} {j : Nat} {vs : List Nat} {xss : List (List V)} (v : Nat → V) (h : EvLL tl σ H xss) (hz : xss.length ≤ 40000) (hw : ∀ x, wipe ((wipe σ vs).set j (some x)) vs = wipe σ vs)
    (he : ∀ (i : Nat) (r : Addr) (xs : List V) H1, Ex H H1 → xss[i]? = some xs → H1 r = some (.lst xs) → Ev te ((wipe σ vs).set j (some (.ref r))) H1 (v i)) :
    EvL (tLc (iList K tl) (gName j) tYes te vs) σ H ((List.range xss.length).map v) := fun H0 e Q q => h H0 e _ fun p rs H1 hp hr hn e1 h1 R => ⟨p, rfl, ⟨_, sq_of h1⟩, fun Dl hD => by
  have e0 : (rs.map V.ref).length = xss.length := by rw [List.length_map, R.len]
  refine lc_list (xs := rs.map V.ref) (Cw H1 (fun _ => true) v Dl) ⟨hD, Ex.new hD, upd_same⟩ (fun i H' _ p => sq_of (p.2.1 _ _ h1)) (fun i x H' hi p => ⟨hw x, cw_turn p (by have := (List.getElem?_eq_some_iff.mp hi).1; omega) et_yes (fun _ => ?_)⟩)
    (fun H' p => q Dl H' (fresh_back e1 p.1) (e1.trans p.2.1) (by rw [← given_all, ← e0]; exact p.2.2))
  obtain ⟨r, hr', rfl⟩ := map_get hi
  have hi2 : i < xss.length := by rw [← R.len]; exact (List.getElem?_eq_some_iff.mp hr').1
  have hx : xss[i]? = some xss[i] := List.getElem?_eq_getElem hi2
  exact he i r _ H1 (e.trans e1) hx (R.at_ i r _ hr' hx)⟩
/-- a loop over a new list of lists -/
theorem q_forLL {K : PySem.W.Frag} {σ : L2.St} {H : Hp} {tl : TE} {tu tz : TS} {D : Ends} {j : Nat} {xss : List (List V)} (h : EvLL tl σ H xss) (Pv : Addr → List Addr → Nat → L2.St → Hp → Prop)
    (h0 : ∀ p rs H1, H p = none → (∀ r ∈ rs, H r = none) → p ∉ rs → Ex H H1 → H1 p = some (.lst (rs.map V.ref)) → Rws H1 rs xss → Pv p rs 0 σ H1) (hl : ∀ p rs i σ' H', Pv p rs i σ' H' → H' p = some (.lst (rs.map V.ref)))
    (hs : ∀ p rs (i : Nat) r xs σ' H', rs[i]? = some r → xss[i]? = some xs → Pv p rs i σ' H' → tu { D with nx := Pv p rs (i + 1), ct := Pv p rs (i + 1), bk := tz D } (σ'.set j (some (.ref r))) H') (hd : ∀ p rs σ' H', Pv p rs xss.length σ' H' → tz D σ' H') :
    tSeq (tFor (iList K tl) (gName j) tu) tz D σ H :=
  h H (Ex.refl H) _ fun p rs H1 hp hr hn e1 h1 R => ⟨p, rfl, ⟨_, sq_of h1⟩, for_list (D := { D with nx := tz D }) (xs := rs.map V.ref) (Pv p rs) (h0 p rs H1 hp hr hn e1 h1 R) (fun i σ' H' _ q => sq_of (hl p rs i σ' H' q)) (fun i x σ' H' hx q => by
    obtain ⟨r, hr', rfl⟩ := map_get hx
    have hi2 : i < xss.length := by rw [← R.len]; exact (List.getElem?_eq_some_iff.mp hr').1
    exact hs p rs i r _ σ' H' hr' (List.getElem?_eq_getElem hi2) q) (fun σ' H' q => hd p rs σ' H' (by rwa [List.length_map, R.len] at q))⟩
theorem range_getD {α β : Type} (d : α) (g : α → β) (l : List α) : (List.range l.length).map (fun i => g (l.getD i d)) = l.map g := by
  refine List.ext_getElem (by simp) fun i h1 h2 => ?_
  simp at h1
  simp [List.getD_eq_getElem?_getD, h1]

abbrev s_welfare_allocation : Stmt := top 27
/-- 0 instance; 1 profile -/
theorem sc_welfare_allocation : FnScope ["instance", "profile"] ["instance"] (defScope s_welfare_allocation) := ⟨rfl, rfl, rfl, by decide +kernel, rfl, by decide +kernel, by decide +kernel⟩
def rWA (C : Addr) (vs : List V) (H : Hp) (z : List V) : Prop := ∃ p a, vs = [.ref p] ∧ IA C H p a ∧ (∀ l ∈ a.types, l ≠ []) ∧ z = nl (a.welfareMaximizer.allocation)
theorem mo_WA : Mo (rWA C) := fun vs H H' z e ⟨p, a, h, I, q⟩ => ⟨p, a, h, I.mono e, q⟩
theorem ok_welfare_allocation (T : Txt K mg C D) (O_first_greatest : Own P w K mg base "first_greatest" 1 ["scores"] (pV rFG)) (O_total_values : Own P w K mg base "total_values" 3 ["instance", "profile"] (pL (rTVs C))) (O_all_profiles : Own P w K mg base "all_profiles" 2 ["instance"] (pLL (rAP C))) (F : Fun K "welfare_allocation" "welfare_allocation" s_welfare_allocation f fd) : FnOk P w K mg base CX0 4 f fd ["instance"] (pL (rWA C)) := by
  refine F.ok sc_welfare_allocation (fun vs H Q E h => ?_) (fun cdv A outer s H vs Q E hr h => ?_)
  · obtain ⟨z, ⟨p, a, rfl, _⟩, _⟩ := h
    rfl
  · obtain ⟨z, ⟨p, a, rfl, I, hne, rfl⟩, k⟩ := h
    refine ⟨_, (pss_one (ps_ret (pe_lc (own := [("profile", 1)]) (g := gName 1) (tt := tYes) rfl sc_welfare_allocation.nd (pi_list (pe_own O_all_profiles (hr.mono (by decide)) (pa_cons (pv 0) pa_nil))) (blkOk_by (N := ["instance", "profile"]) (sc := defScope s_welfare_allocation) (by decide +kernel)) (fun _ _ _ _ _ => pg_name (i := 1) sc_welfare_allocation.nd rfl (Or.inl rfl)) (fun _ _ _ _ _ => pts_nil) (fun _ _ _ _ _ => (pe_own O_first_greatest (hr.mono (by decide)) (pa_cons (pe_own O_total_values (hr.mono (by decide)) (pa_cons (pv 0) (pa_cons (pv 1) pa_nil))) pa_nil)))))), ?_⟩
    have h64 := cnt_le64 I.1
    have h4 := I.1.al4
    have h2 := I.1.al2
    refine s_retL (el_is (el_lcLL (fun i => .int (Su196.argmax a.alternatives (a.totalValue (a.profiles.getD i [])) : Nat)) (ell_own mo_AP (ea_cons (ev_var rfl) ea_nil) ⟨p, a, rfl, I, hne, rfl⟩) (by simp [profiles_length]; omega) (fun x => rfl) (fun i r xs H1 e1 hx hr => ?_)) ?_) k
    · obtain ⟨t, ht, rfl⟩ : ∃ t, a.profiles[i]? = some t ∧ xs = nl t := by
        rw [List.getElem?_map] at hx
        obtain ⟨t, ht, rfl⟩ := Option.map_eq_some_iff.mp hx
        exact ⟨t, ht, rfl⟩
      have hp := pf_of_mem I.1 (List.mem_of_getElem? ht)
      have e : a.profiles.getD i [] = t := by rw [List.getD_eq_getElem?_getD, ht]; rfl
      rw [e]
      refine ev_ownL (el_own mo_TVs (ea_cons (ev_var rfl) (ea_cons (ev_var rfl) ea_nil)) ⟨p, a, r, t, rfl, ⟨I.mono e1, hr⟩, hp, rfl⟩) fun q H2 e2 h2 => ⟨q, _, rfl, h2, by simp; omega, ?_⟩
      rw [← argmax_fg _ (by omega)]
      rfl
    · rw [List.length_map, range_getD [] (fun t => V.int (Su196.argmax a.alternatives (a.totalValue t) : Nat))]
      simp [Su196.Instance.welfareMaximizer, Su196.Instance.useRule]

abbrev s_affine_allocation : Stmt := top 28
/-- 0 instance; 1 weights; 2 boosts; 3 found; 4 profile -/
theorem sc_affine_allocation : FnScope ["instance", "weights", "boosts", "found", "profile"] ["instance", "weights", "boosts"] (defScope s_affine_allocation) := ⟨rfl, rfl, rfl, by decide +kernel, rfl, by decide +kernel, by decide +kernel⟩
def rFA (C : Addr) (vs : List V) (H : Hp) (z : List V) : Prop := ∃ p a pw ws pb bs, vs = [.ref p, .ref pw, .ref pb] ∧ (IA C H p a ∧ H pw = some (.lst (nl ws)) ∧ H pb = some (.lst (nl bs))) ∧ ((∀ l ∈ a.types, l ≠ []) ∧ ws.length = a.agentCount ∧ (∀ y ∈ ws, y ≤ 99) ∧ bs.length = a.alternativeCount) ∧ z = nl (a.affineMaximizer ws bs).allocation
theorem mo_FA : Mo (rFA C) := fun vs H H' z e ⟨p, a, j, l, m, n, h, ⟨I, L, M⟩, q⟩ => ⟨p, a, j, l, m, n, h, ⟨I.mono e, e _ _ L, e _ _ M⟩, q⟩
theorem ok_affine_allocation (T : Txt K mg C D) (O_first_greatest : Own P w K mg base "first_greatest" 1 ["scores"] (pV rFG)) (O_affine_scores : Own P w K mg base "affine_scores" 3 ["instance", "profile", "weights", "boosts"] (pL (rAS C))) (O_all_profiles : Own P w K mg base "all_profiles" 2 ["instance"] (pLL (rAP C))) (F : Fun K "affine_allocation" "affine_allocation" s_affine_allocation f fd) : FnOk P w K mg base CX0 4 f fd ["instance", "weights", "boosts"] (pL (rFA C)) := by
  refine F.ok sc_affine_allocation (fun vs H Q E h => ?_) (fun cdv A outer s H vs Q E hr h => ?_)
  · obtain ⟨z, ⟨p, a, pw, ws, pb, bs, rfl, _⟩, _⟩ := h
    rfl
  · obtain ⟨z, ⟨p, a, pw, ws, pb, bs, rfl, ⟨I, L, M⟩, ⟨hne, hw, hb, hn⟩, rfl⟩, k⟩ := h
    refine ⟨_, (pss_cons (ps_set (i := 3) sc_affine_allocation.nd rfl (Or.inl rfl) (pe_lst pa_nil)) (pss_cons (ps_for PassesOwn.never rfl (pi_list (pe_own O_all_profiles (hr.mono (by decide)) (pa_cons (pv 0) pa_nil))) (pg_name (i := 4) sc_affine_allocation.nd rfl (Or.inl rfl)) (pss_one (ps_expr (pe_bm PySem.F.plainAttrs_list PySem.F.slot_list_append PySem.F.type_list_append mt_append (pv 3) (pa_cons (pe_own O_first_greatest (hr.mono (by decide)) (pa_cons (pe_own O_affine_scores (hr.mono (by decide)) (pa_cons (pv 0) (pa_cons (pv 4) (pa_cons (pv 1) (pa_cons (pv 2) pa_nil))))) pa_nil)) pa_nil))))) (pss_one (ps_ret (pv 3))))), ?_⟩
    have h64 := cnt_le64 I.1
    have h4 := I.1.al4
    have h2 := I.1.al2
    refine q_asgL (el_lst ea_nil (by simp)) fun l H1 hl e1 h1 => q_forLL (ell_own mo_AP (ea_cons (ev_var rfl) ea_nil) ⟨p, a, rfl, I.mono e1, hne, rfl⟩)
      (fun pp rs i σ H' => (Ex H H' ∧ H' l = some (.lst (nl ((a.profiles.take i).map fun t => Su196.argmax a.alternatives (aff a ws bs t)))) ∧ H' pp = some (.lst (rs.map V.ref)) ∧ Rws H' rs (a.profiles.map nl)) ∧ (l ≠ pp ∧ l ∉ rs) ∧ ∃ v, σ = [some (.ref p), some (.ref pw), some (.ref pb), some (.ref l), v])
      (fun pp rs H2 hp hr hn e2 h2 R => ⟨⟨e1.trans e2, e2 _ _ h1, h2, R⟩, ⟨ne_of_none h1 hp, fun z => by rw [hr l z] at h1; cases h1⟩, none, rfl⟩) (fun pp rs i σ H' q => q.1.2.2.1) ?_ ?_
    · rintro pp rs i r xs σ H' hr hx ⟨⟨e2, h2, h3, R⟩, ⟨n1, n2⟩, v, rfl⟩
      obtain ⟨t, ht, rfl⟩ : ∃ t, a.profiles[i]? = some t ∧ xs = nl t := by
        rw [List.getElem?_map] at hx
        obtain ⟨t, ht, rfl⟩ := Option.map_eq_some_iff.mp hx
        exact ⟨t, ht, rfl⟩
      have hp := pf_of_mem I.1 (List.mem_of_getElem? ht)
      have hi : i < cnt a.types := by rw [← profiles_length]; exact (List.getElem?_eq_some_iff.mp ht).1
      refine s_app h2 (ev_var rfl) (ev_ownL (z := .int (Su196.argmax a.alternatives (aff a ws bs t) : Nat)) (el_own mo_AS (ea_cons (ev_var rfl) (ea_cons (ev_var rfl) (ea_cons (ev_var rfl) (ea_cons (ev_var rfl) ea_nil)))) ⟨p, a, r, t, pw, ws, pb, bs, rfl, ⟨I.mono e2, R.at_ i r _ hr hx, e2 _ _ L, e2 _ _ M⟩, ⟨hp, hw, hb, hn⟩, rfl⟩) fun q H3 e3 h3 => ⟨q, _, rfl, h3, by simp; omega, ?_⟩) (by simp; omega) fun H3 e3 => ⟨⟨(e2.trans e3).mut hl, ?_, ?_, ?_⟩, ⟨n1, n2⟩, _, rfl⟩
      · rw [← argmax_fg _ (by omega)]
        rfl
      · rw [take_more ht, List.map_append]
        exact upd_same.trans (by simp)
      · exact (upd_ne (Ne.symm n1)).trans (e3 _ _ h3)
      · exact (R.mono e3).upd n2
    · rintro pp rs σ H' ⟨⟨e2, h2, h3, R⟩, _, v, rfl⟩
      refine s_ret (ev_var rfl) fun H3 e3 => ?_
      refine k l H3 hl (e2.trans e3) ((e3 _ _ h2).trans ?_)
      rw [List.take_of_length_le (by simp)]
      unfold Su196.Instance.affineMaximizer Su196.Instance.useRule aff
      rfl

abbrev s_agent_allocation : Stmt := top 29
/-- 0 instance; 1 agent; 2 profile -/
theorem sc_agent_allocation : FnScope ["instance", "agent", "profile"] ["instance", "agent"] (defScope s_agent_allocation) := ⟨rfl, rfl, rfl, by decide +kernel, rfl, by decide +kernel, by decide +kernel⟩
def rGA (C : Addr) (vs : List V) (H : Hp) (z : List V) : Prop := ∃ p a i, vs = [.ref p, .int (i : Nat)] ∧ IA C H p a ∧ ((∀ l ∈ a.types, l ≠ []) ∧ i < a.agentCount) ∧ z = nl (a.useRule fun t => Su196.argmax a.alternatives fun x => a.reportedValue i x t).allocation
theorem mo_GA : Mo (rGA C) := fun vs H H' z e ⟨p, a, i, h, I, q⟩ => ⟨p, a, i, h, I.mono e, q⟩
theorem vals_eq {a : Su196.Instance} (o : Ok a) {i k : Nat} (hi : i < a.agentCount) (hk : k < a.typeCount i) : (a.typesOf i).getD k [] = (List.range a.alternativeCount).map (a.value i k) := by
  refine List.ext_getElem (by rw [kind_len o hi hk]; simp) fun x h1 h2 => ?_
  simp only [List.length_map, List.length_range] at h2
  have := value_get o hi hk h2
  rw [List.getElem?_eq_getElem h1] at this
  rw [Option.some.inj this]
  simp
theorem ok_agent_allocation (T : Txt K mg C D) (O_first_greatest : Own P w K mg base "first_greatest" 1 ["scores"] (pV rFG)) (O_all_profiles : Own P w K mg base "all_profiles" 2 ["instance"] (pLL (rAP C))) (F : Fun K "agent_allocation" "agent_allocation" s_agent_allocation f fd) : FnOk P w K mg base CX0 3 f fd ["instance", "agent"] (pL (rGA C)) := by
  refine F.ok sc_agent_allocation (fun vs H Q E h => ?_) (fun cdv A outer s H vs Q E hr h => ?_)
  · obtain ⟨z, ⟨p, a, i, rfl, _⟩, _⟩ := h
    rfl
  · obtain ⟨z, ⟨p, a, ag, rfl, I, ⟨hne, hag⟩, rfl⟩, k⟩ := h
    refine ⟨_, (pss_one (ps_ret (pe_lc (own := [("profile", 2)]) (g := gName 2) (tt := tYes) rfl sc_agent_allocation.nd (pi_list (pe_own O_all_profiles (hr.mono (by decide)) (pa_cons (pv 0) pa_nil))) (blkOk_by (N := ["instance", "agent", "profile"]) (sc := defScope s_agent_allocation) (by decide +kernel)) (fun _ _ _ _ _ => pg_name (i := 2) sc_agent_allocation.nd rfl (Or.inl rfl)) (fun _ _ _ _ _ => pts_nil) (fun _ _ _ _ _ => (pe_own O_first_greatest (hr.mono (by decide)) (pa_cons (pe_ix (ix_listB (K := K) rfl) (pe_ix (ix_listB (K := K) rfl) (pe_fldB (K := K) rfl (pv 0) rfl) (pv 1) (fun _ _ => rfl)) (pe_ix (ix_listB (K := K) rfl) (pv 2) (pv 1) (fun _ _ => rfl)) (fun _ _ => rfl)) pa_nil)))))), ?_⟩
    have h64 := cnt_le64 I.1
    have h4 := I.1.al4
    have h2 := I.1.al2
    refine s_retL (el_is (el_lcLL (fun i => .int (Su196.argmax a.alternatives (fun x => a.reportedValue ag x (a.profiles.getD i [])) : Nat)) (ell_own mo_AP (ea_cons (ev_var rfl) ea_nil) ⟨p, a, rfl, I, hne, rfl⟩) (by simp [profiles_length]; omega) (fun x => rfl) (fun i r xs H1 e1 hx hr => ?_)) ?_) k
    · obtain ⟨t, ht, rfl⟩ : ∃ t, a.profiles[i]? = some t ∧ xs = nl t := by
        rw [List.getElem?_map] at hx
        obtain ⟨t, ht, rfl⟩ := Option.map_eq_some_iff.mp hx
        exact ⟨t, ht, rfl⟩
      have hp := pf_of_mem I.1 (List.mem_of_getElem? ht)
      have e : a.profiles.getD i [] = t := by rw [List.getD_eq_getElem?_getD, ht]; rfl
      rw [e]
      have o := I.1
      obtain ⟨_, pk, pa, qs, rss, I⟩ := I.mono e1
      have hk := hp.2 ag hag
      obtain ⟨q, rs, g1, g2, g3, R⟩ := I.agent (typesOf_get o hag)
      obtain ⟨r2, g4, g5⟩ := R.get (i := t.getD ag 0) (xs := il ((a.typesOf ag).getD (t.getD ag 0) [])) (by rw [List.getElem?_map, kind_get o hk]; rfl)
      rw [vals_eq o hag hk] at g5
      refine ev_own mo_FG (ea_cons (ev_at (ev_at (ev_kd T I (ev_var rfl)) (ev_var rfl) I.kinds (get_map g1)) (ev_at (ev_var rfl) (ev_var rfl) hr (get_map (get_of (by rw [hp.1]; exact hag)))) g3 (get_map g4)) ea_nil) ⟨r2, _, rfl, g5, by simp; omega, ?_⟩
      rw [← argmax_fg _ (by omega)]
      rfl
    · rw [List.length_map, range_getD [] (fun t => V.int (Su196.argmax a.alternatives (fun x => a.reportedValue ag x t) : Nat))]
      simp [Su196.Instance.useRule]

abbrev s_pivot_payment : Stmt := top 30
/-- 0 instance; 1 profile; 2 agent; 3 values; 4 alternative -/
theorem sc_pivot_payment : FnScope ["instance", "profile", "agent", "values", "alternative"] ["instance", "profile", "agent"] (defScope s_pivot_payment) := ⟨rfl, rfl, rfl, by decide +kernel, rfl, by decide +kernel, by decide +kernel⟩
def rPP (C : Addr) (vs : List V) (H : Hp) (z : V) : Prop := ∃ p a pr t i, vs = [.ref p, .ref pr, .int (i : Nat)] ∧ (IA C H p a ∧ H pr = some (.lst (nl t))) ∧ (Pf a t ∧ i < a.agentCount) ∧ z = .int (a.pivotPayment i t)
theorem mo_PP : Mo (rPP C) := fun vs H H' z e ⟨p, a, i, t, j, h, ⟨I, J⟩, q⟩ => ⟨p, a, i, t, j, h, ⟨I.mono e, e _ _ J⟩, q⟩
theorem ok_pivot_payment (T : Txt K mg C D) (O_others_value : Own P w K mg base "others_value" 3 ["instance", "profile", "agent", "alternative"] (pV (rOV C))) (O_alternative_at : Own P w K mg base "alternative_at" 2 ["instance", "profile"] (pV (rAA C))) (F : Fun K "pivot_payment" "pivot_payment" s_pivot_payment f fd) : FnOk P w K mg base CX0 4 f fd ["instance", "profile", "agent"] (pV (rPP C)) := by
  refine F.ok sc_pivot_payment (fun vs H Q E h => ?_) (fun cdv A outer s H vs Q E hr h => ?_)
  · obtain ⟨z, ⟨p, a, pr, t, i, rfl, _⟩, _⟩ := h
    rfl
  · obtain ⟨z, ⟨p, a, pr, t, ag, rfl, ⟨I, J⟩, ⟨hp, hag⟩, rfl⟩, k⟩ := h
    refine ⟨_, (pss_cons (ps_set (i := 3) sc_pivot_payment.nd rfl (Or.inl rfl) (pe_lst pa_nil)) (pss_cons (ps_for PassesOwn.never rfl (pi_range1 rfl T.range (pa_cons (pe_fld (pv 0) rfl) pa_nil)) (pg_name (i := 4) sc_pivot_payment.nd rfl (Or.inl rfl)) (pss_one (ps_expr (pe_bm PySem.F.plainAttrs_list PySem.F.slot_list_append PySem.F.type_list_append mt_append (pv 3) (pa_cons (pe_own O_others_value (hr.mono (by decide)) (pa_cons (pv 0) (pa_cons (pv 1) (pa_cons (pv 2) (pa_cons (pv 4) pa_nil))))) pa_nil))))) (pss_one (ps_ret (pe_op op_sub (pe_callB (cr_max rfl) (by rfl) T.max PyProof.Rows.boot_max (pa_cons (pv 3) pa_nil)) (pe_ix ix_list (pv 3) (pe_own O_alternative_at (hr.mono (by decide)) (pa_cons (pv 0) (pa_cons (pv 1) pa_nil))) (fun _ _ => rfl))))))), ?_⟩
    have h4 := I.1.al4
    have h2 := I.1.al2
    refine q_asgL (el_lst ea_nil (by simp)) fun l H1 hl e1 h1 => q_forR1 (ea_cons (ev_ac T (I.mono e1) (ev_var rfl)) ea_nil) (by omega)
      (fun i σ H' => (Ex H H' ∧ H' l = some (.lst (il ((List.range i).map (a.othersValue ag t))))) ∧ ∃ v, σ = [some (.ref p), some (.ref pr), some (.int (ag : Nat)), some (.ref l), v]) (fun H2 e2 => ⟨⟨e1.trans e2, e2 _ _ h1⟩, none, rfl⟩) ?_ ?_
    · rintro i σ H' hi ⟨⟨e2, h2⟩, v, rfl⟩
      refine s_app h2 (ev_var rfl) (ev_own mo_OV (ea_cons (ev_var rfl) (ea_cons (ev_var rfl) (ea_cons (ev_var rfl) (ea_cons (ev_var rfl) ea_nil)))) ⟨p, a, pr, t, ag, i, rfl, ⟨I.mono e2, e2 _ _ J⟩, ⟨hp, hag, by omega⟩, rfl⟩) (by simp; omega) fun H3 e3 => ⟨⟨(e2.trans e3).mut hl, ?_⟩, _, rfl⟩
      rw [List.range_succ, List.map_append]
      exact upd_same.trans (by simp)
    · rintro σ H' ⟨⟨e2, h2⟩, v, rfl⟩
      rw [Int.toNat_natCast] at h2
      have hx := allocated_lt I.1 hp
      refine s_ret (v := .int (a.pivotPayment ag t)) (ev_op (ev_cb (ea_cons (ev_var rfl) ea_nil) (rc_max h2 (by simp; omega) fun m h5 h6 => max_is _ (by omega) h5 h6)) (ev_at (ev_var rfl) (ev_own mo_AA (ea_cons (ev_var rfl) (ea_cons (ev_var rfl) ea_nil)) ⟨p, a, pr, t, rfl, ⟨I.mono e2, e2 _ _ J⟩, hp, rfl⟩) h2 (get_map (f := V.int) (a := a.othersValue ag t (a.allocated t)) (by rw [List.getElem?_map, List.getElem?_range hx]; rfl))) rv_I0) fun H3 e3 => k H3 (e2.trans e3)

abbrev s_pivot_payments : Stmt := top 31
/-- 0 instance; 1 profile; 2 agent -/
theorem sc_pivot_payments : FnScope ["instance", "profile", "agent"] ["instance", "profile"] (defScope s_pivot_payments) := ⟨rfl, rfl, rfl, by decide +kernel, rfl, by decide +kernel, by decide +kernel⟩
def rPPs (C : Addr) (vs : List V) (H : Hp) (z : List V) : Prop := ∃ p a pr t, vs = [.ref p, .ref pr] ∧ (IA C H p a ∧ H pr = some (.lst (nl t))) ∧ Pf a t ∧ z = il (a.agents.map fun i => a.pivotPayment i t)
theorem mo_PPs : Mo (rPPs C) := fun vs H H' z e ⟨p, a, i, t, h, ⟨I, J⟩, q⟩ => ⟨p, a, i, t, h, ⟨I.mono e, e _ _ J⟩, q⟩
theorem ok_pivot_payments (T : Txt K mg C D) (O_pivot_payment : Own P w K mg base "pivot_payment" 4 ["instance", "profile", "agent"] (pV (rPP C))) (O_agent_count : Own P w K mg base "agent_count" 1 ["instance"] (pV (rAC C))) (F : Fun K "pivot_payments" "pivot_payments" s_pivot_payments f fd) : FnOk P w K mg base CX0 5 f fd ["instance", "profile"] (pL (rPPs C)) := by
  refine F.ok sc_pivot_payments (fun vs H Q E h => ?_) (fun cdv A outer s H vs Q E hr h => ?_)
  · obtain ⟨z, ⟨p, a, pr, t, rfl, _⟩, _⟩ := h
    rfl
  · obtain ⟨z, ⟨p, a, pr, t, rfl, ⟨I, J⟩, hp, rfl⟩, k⟩ := h
    refine ⟨_, (pss_one (ps_ret (pe_lc (own := [("agent", 2)]) (g := gName 2) (tt := tYes) rfl sc_pivot_payments.nd (pi_range1 rfl T.range (pa_cons (pe_own O_agent_count (hr.mono (by decide)) (pa_cons (pv 0) pa_nil)) pa_nil)) (blkOk_by (N := ["instance", "profile", "agent"]) (sc := defScope s_pivot_payments) (by decide +kernel)) (fun _ _ _ _ _ => pg_name (i := 2) sc_pivot_payments.nd rfl (Or.inl rfl)) (fun _ _ _ _ _ => pts_nil) (fun _ _ _ _ _ => (pe_own O_pivot_payment (hr.mono (by decide)) (pa_cons (pv 0) (pa_cons (pv 1) (pa_cons (pv 2) pa_nil)))))))), ?_⟩
    have h3 := I.1.ac3
    refine s_retL (el_is (el_lcR1 (fun _ => true) (fun i => .int (a.pivotPayment i t)) (ea_cons (ev_own mo_AC (ea_cons (ev_var rfl) ea_nil) ⟨p, a, rfl, I, rfl⟩) ea_nil) (by omega) (fun x => rfl) (fun i H1 e1 hi => et_yes) (fun i H1 e1 hi _ => ?_)) ?_) k
    · exact ev_own mo_PP (ea_cons (ev_var rfl) (ea_cons (ev_var rfl) (ea_cons (ev_var rfl) ea_nil))) ⟨p, a, pr, t, i, rfl, ⟨I.mono e1, e1 _ _ J⟩, ⟨hp, by omega⟩, rfl⟩
    · rw [given_all, Int.toNat_natCast]
      simp [Su196.Instance.agents]
end
end Tp
namespace Tp
open PySem PySem.Spec PyProof.Rows L2 Evl
section
variable {P : Program} {w : World} {K : PySem.W.Frag} {mg : Str → Option Value} {base : Heap} {C D : Addr} {f : Addr} {fd : FuncData}
abbrev s_loss : Stmt := top 43
/-- 0 instance; 1 agent; 2 profile; 3 kind; 4 other; 5 own; 6 false -/
theorem sc_loss : FnScope ["instance", "agent", "profile", "kind", "other", "own", "false"] ["instance", "agent", "profile", "kind", "other"] (defScope s_loss) := ⟨rfl, rfl, rfl, by decide +kernel, rfl, by decide +kernel, by decide +kernel⟩
def rLO (C : Addr) (vs : List V) (H : Hp) (z : V) : Prop := ∃ p a i pr t k l, vs = [.ref p, .int (i : Nat), .ref pr, .int (k : Nat), .int (l : Nat)] ∧ (IA C H p a ∧ H pr = some (.lst (nl t))) ∧ (Pf a t ∧ i < a.agentCount ∧ k < a.typeCount i ∧ l < a.typeCount i) ∧ z = .int (a.loss i t k l)
theorem mo_LO : Mo (rLO C) := fun vs H H' z e ⟨p, a, i, t, j, m, n, h, ⟨I, J⟩, q⟩ => ⟨p, a, i, t, j, m, n, h, ⟨I.mono e, e _ _ J⟩, q⟩
theorem ok_loss (T : Txt K mg C D) (O_alternative_at : Own P w K mg base "alternative_at" 2 ["instance", "profile"] (pV (rAA C))) (O_with_report : Own P w K mg base "with_report" 1 ["profile", "agent", "kind"] (pL rWR)) (O_value_of : Own P w K mg base "value_of" 1 ["instance", "agent", "kind", "alternative"] (pV (rVO C))) (F : Fun K "loss" "loss" s_loss f fd) : FnOk P w K mg base CX0 3 f fd ["instance", "agent", "profile", "kind", "other"] (pV (rLO C)) := by
  refine F.ok sc_loss (fun vs H Q E h => ?_) (fun cdv A outer s H vs Q E hr h => ?_)
  · obtain ⟨z, ⟨p, a, i, pr, t, kk, l, rfl, _⟩, _⟩ := h
    rfl
  · obtain ⟨z, ⟨p, a, i, pr, t, kk, l, rfl, ⟨I, J⟩, ⟨hp, hi, hk, hl⟩, rfl⟩, k⟩ := h
    refine ⟨_, (pss_cons (ps_set (i := 5) sc_loss.nd rfl (Or.inl rfl) (pe_own O_alternative_at (hr.mono (by decide)) (pa_cons (pv 0) (pa_cons (pe_own O_with_report (hr.mono (by decide)) (pa_cons (pv 2) (pa_cons (pv 1) (pa_cons (pv 3) pa_nil)))) pa_nil)))) (pss_cons (ps_set (i := 6) sc_loss.nd rfl (Or.inl rfl) (pe_own O_alternative_at (hr.mono (by decide)) (pa_cons (pv 0) (pa_cons (pe_own O_with_report (hr.mono (by decide)) (pa_cons (pv 2) (pa_cons (pv 1) (pa_cons (pv 4) pa_nil)))) pa_nil)))) (pss_one (ps_ret (pe_op op_sub (pe_own O_value_of (hr.mono (by decide)) (pa_cons (pv 0) (pa_cons (pv 1) (pa_cons (pv 3) (pa_cons (pv 5) pa_nil))))) (pe_own O_value_of (hr.mono (by decide)) (pa_cons (pv 0) (pa_cons (pv 1) (pa_cons (pv 3) (pa_cons (pv 6) pa_nil)))))))))), ?_⟩
    have h3 := I.1.ac3
    have ht := hp.1
    refine q_asg (ev_ownVL (z := .int (a.allocated (t.set i kk) : Nat)) (ev_var rfl) (el_own mo_WR (ea_cons (ev_var rfl) (ea_cons (ev_var rfl) (ea_cons (ev_var rfl) ea_nil))) ⟨pr, t, i, kk, rfl, J, by omega, by omega, rfl⟩) fun q H2 e2 h2 => ⟨p, a, q, t.set i kk, rfl, ⟨I.mono e2, h2⟩, pf_set hp hk, rfl⟩) fun H1 e1 => ?_
    refine q_asg (ev_ownVL (z := .int (a.allocated (t.set i l) : Nat)) (ev_var rfl) (el_own mo_WR (ea_cons (ev_var rfl) (ea_cons (ev_var rfl) (ea_cons (ev_var rfl) ea_nil))) ⟨pr, t, i, l, rfl, e1 _ _ J, by omega, by omega, rfl⟩) fun q H2 e2 h2 => ⟨p, a, q, t.set i l, rfl, ⟨I.mono (e1.trans e2), h2⟩, pf_set hp hl, rfl⟩) fun H2 e2 => ?_
    have I2 := I.mono (e1.trans e2)
    refine s_ret (v := .int (a.loss i t kk l)) (ev_op (ev_own mo_VO (ea_cons (ev_var rfl) (ea_cons (ev_var rfl) (ea_cons (ev_var rfl) (ea_cons (ev_var rfl) ea_nil)))) ⟨p, a, i, kk, _, rfl, I2, ⟨hi, hk, allocated_lt I.1 (pf_set hp hk)⟩, rfl⟩)
      (ev_own mo_VO (ea_cons (ev_var rfl) (ea_cons (ev_var rfl) (ea_cons (ev_var rfl) (ea_cons (ev_var rfl) ea_nil)))) ⟨p, a, i, kk, _, rfl, I2, ⟨hi, hk, allocated_lt I.1 (pf_set hp hl)⟩, rfl⟩) rv_I0) fun H3 e3 => k H3 ((e1.trans e2).trans e3)

theorem flat_nl (c : List Nat) : (nl c).all flatV = true := by simp [List.all_eq_true, flatV]
theorem inV_nl (k : Nat) (c : List Nat) : inV (.int (k : Nat)) (nl c) = c.contains k := by
  unfold inV
  induction c with
  | nil => rfl
  | cons x c ih =>
    show (eqV (.int (x : Nat)) (.int (k : Nat)) || (nl c).any _) = _
    rw [ih, List.contains_cons]
    congr 1
    show ((x : Int) == (k : Int)) = (k == x)
    by_cases e : x = k
    · subst e
      rw [beq_self_eq_true, beq_self_eq_true]
    · have e2 : ¬ k = x := fun z => e z.symm
      rw [beq_eq_false_iff_ne.mpr e2, beq_eq_false_iff_ne.mpr (show (x : Int) ≠ (k : Int) by omega)]
theorem CL.mono {H H1 H2 : Hp} {l : Addr} {xss : List (List V)} (p : CL H xss l H1) (e : Ex H1 H2) : CL H xss l H2 := by
  obtain ⟨rs, ⟨p1, p2, p3⟩, p4, p5⟩ := p
  exact ⟨rs, ⟨p1.trans e, e _ _ p2, p3.mono e⟩, p4, p5⟩
theorem CL.ex {H H1 : Hp} {l : Addr} {xss : List (List V)} (p : CL H xss l H1) : Ex H H1 := by
  obtain ⟨rs, ⟨p1, _⟩, _⟩ := p
  exact p1
theorem CL.ret {H H1 : Hp} {l : Addr} {xss : List (List V)} {Q : VK} (p : CL H xss l H1) (hl : H l = none) (k : RetLL xss H Q) : Q (.ref l) H1 := by
  obtain ⟨rs, ⟨p1, p2, p3⟩, p4, p5⟩ := p
  exact k l rs H1 hl p5 p4 p1 p2 p3
/-- found.append(a new list) -/
theorem s_appCL {σ : L2.St} {H H0 : Hp} {ta te : TE} {Dd : Ends} {l : Addr} {xss : List (List V)} {ys : List V} (hl : H0 l = none) (p : CL H0 xss l H) (ha : Ev ta σ H (.ref l)) (h : EvL te σ H ys) (hz : xss.length < 50000) (k : ∀ H1, CL H0 (xss ++ [ys]) l H1 → Dd.nx σ H1) :
    tDrop (tBM K "list" rAppend ta (tCons te tNil)) Dd σ H := by
  obtain ⟨rs, ⟨p1, p2, p3⟩, p4, p5⟩ := id p
  refine s_appL p2 ha h (by rw [List.length_map, p3.len]; omega) fun r H1 hr e1 h1 => k _ ?_
  obtain ⟨acc, q1, q2, q3⟩ := p.snoc hl hz (Ex.refl _) hr e1 h1
  rw [e1 _ _ p2] at q1
  cases q1
  exact q3

/-- the first turns of the inner loop -/
def onw (c : List Nat) (j : Nat) : List (List Nat) := (((List.range j).map fun i => c.headD 0 + 1 + i).filter fun k => !c.contains k).map fun k => c ++ [k]
theorem onw_all (many : Nat) (c : List Nat) : onw c (many - (c.headD 0 + 1)) = onward many c := rfl
theorem onw_succ (c : List Nat) (j : Nat) : onw c (j + 1) = onw c j ++ if c.contains (c.headD 0 + 1 + j) then [] else [c ++ [c.headD 0 + 1 + j]] := by
  unfold onw
  rw [List.range_succ, List.map_append, List.filter_append, List.map_append]
  congr 1
  simp only [List.map_cons, List.map_nil, List.filter_cons, List.filter_nil]
  cases c.contains (c.headD 0 + 1 + j) <;> rfl
theorem onw_len (c : List Nat) (j : Nat) : (onw c j).length ≤ j := by
  unfold onw
  rw [List.length_map]
  refine Nat.le_trans (List.length_filter_le _ _) ?_
  simp
theorem longer_take {many i : Nat} {cs : List (List Nat)} {c : List Nat} (h : cs[i]? = some c) : longer many (cs.take (i + 1)) = longer many (cs.take i) ++ onward many c := by
  rw [take_more h]
  simp [longer]
theorem get_nl {cs : List (List Nat)} {i : Nat} {xs : List V} (h : (cs.map nl)[i]? = some xs) : ∃ c, cs[i]? = some c ∧ xs = nl c := by
  rw [List.getElem?_map] at h
  obtain ⟨t, ht, rfl⟩ := Option.map_eq_some_iff.mp h
  exact ⟨t, ht, rfl⟩
abbrev s_longer_cycles : Stmt := top 44
/-- 0 cycles; 1 many; 2 found; 3 cycle; 4 kind -/
theorem sc_longer_cycles : FnScope ["cycles", "many", "found", "cycle", "kind"] ["cycles", "many"] (defScope s_longer_cycles) := ⟨rfl, rfl, rfl, by decide +kernel, rfl, by decide +kernel, by decide +kernel⟩
def rLC (vs : List V) (H : Hp) (z : List (List V)) : Prop := ∃ pc rs cs many, vs = [.ref pc, .int (many : Nat)] ∧ (H pc = some (.lst (rs.map V.ref)) ∧ Rws H rs (cs.map nl)) ∧ (many ≤ 4 ∧ cs.length ≤ 1000 ∧ ∀ c ∈ cs, c ≠ [] ∧ c.length ≤ 10 ∧ ∀ x ∈ c, x < 4) ∧ z = (longer many cs).map nl
theorem mo_LC : Mo rLC := fun vs H H' z e ⟨p, a, i, t, h, ⟨I, J⟩, q⟩ => ⟨p, a, i, t, h, ⟨e _ _ I, J.mono e⟩, q⟩
theorem ok_longer_cycles (T : Txt K mg C D) (F : Fun K "longer_cycles" "longer_cycles" s_longer_cycles f fd) : FnOk P w K mg base CX0 1 f fd ["cycles", "many"] (pLL rLC) := by
  refine F.ok sc_longer_cycles (fun vs H Q E h => ?_) (fun cdv A outer s H vs Q E hr h => ?_)
  · obtain ⟨z, ⟨pc, rs, cs, many, rfl, _⟩, _⟩ := h
    rfl
  · obtain ⟨z, ⟨pc, rs, cs, many, rfl, ⟨I, R⟩, ⟨hm, hz, hne⟩, rfl⟩, k⟩ := h
    refine ⟨_, (pss_cons (ps_set (i := 2) sc_longer_cycles.nd rfl (Or.inl rfl) (pe_lst pa_nil)) (pss_cons (ps_for PassesOwn.never rfl (pi_list (pv 0)) (pg_name (i := 3) sc_longer_cycles.nd rfl (Or.inl rfl)) (pss_one (ps_for PassesOwn.never rfl (pi_range2 rfl T.range (pa_cons (pe_op op_add (pe_ix ix_list (pv 3) pe_int (fun _ _ => rfl)) pe_int) (pa_cons (pv 1) pa_nil))) (pg_name (i := 4) sc_longer_cycles.nd rfl (Or.inl rfl)) (pss_one (ps_if (pt_cmpR op_notIn_seq (pv 4) (pv 3) (by rfl)) (pss_one (ps_expr (pe_bm PySem.F.plainAttrs_list PySem.F.slot_list_append PySem.F.type_list_append mt_append (pv 2) (pa_cons (pe_op op_cat (pv 3) (pe_lst (pa_cons (pv 4) pa_nil))) pa_nil)))) pss_nil))))) (pss_one (ps_ret (pv 2))))), ?_⟩
    refine ⟨Nat.zero_le _, fun l hl => ?_⟩
    have c0 : CL H ((longer many (cs.take 0)).map nl) l (upd H l (.lst [])) := CL.zero hl
    refine q_forLn (ev_var rfl) (sq_of (c0.ex _ _ I)) (fun i σ H' => CL H ((longer many (cs.take i)).map nl) l H' ∧ ∃ u v, σ = [some (.ref pc), some (.int (many : Nat)), some (.ref l), u, v]) (fun H1 e1 => ⟨c0.mono e1, none, none, rfl⟩) (fun i σ H' _ q => sq_of (q.1.ex _ _ I)) ?_ ?_
    · rintro i x σ H' hx ⟨p, u, v, rfl⟩
      obtain ⟨r, hr, rfl⟩ := map_get hx
      have hi : i < cs.length := by have := R.len; rw [List.length_map] at this; rw [← this]; exact (List.getElem?_eq_some_iff.mp hr).1
      have hc : cs[i]? = some cs[i] := List.getElem?_eq_getElem hi
      generalize cs[i] = c at hc
      have hrc : H r = some (.lst (nl c)) := R.at_ i r _ hr (by rw [List.getElem?_map, hc]; rfl)
      obtain ⟨hc0, hc10, hc4⟩ := hne c (List.mem_of_getElem? hc)
      obtain ⟨y, c', ec⟩ : ∃ y c', c = y :: c' := by
        cases c with
        | nil => exact absurd rfl hc0
        | cons y c' => exact ⟨y, c', rfl⟩
      have hy : c.headD 0 = y := by rw [ec]; rfl
      have hy4 : y < 4 := hc4 y (by rw [ec]; exact List.mem_cons_self)
      have hlen : (longer many (cs.take i)).length ≤ 4000 := by
        have h1 := longer_len many (cs.take i)
        have h2 : (cs.take i).length ≤ 1000 := by rw [List.length_take]; omega
        have h3 := Nat.mul_le_mul h2 hm
        omega
      refine s_forR2 (lo := ((y + 1 : Nat) : Int)) (n := (many : Nat)) (ea_cons (ev_op (ev_at (i := 0) (v := .int (y : Nat)) (ev_var rfl) ev_c (p.ex _ _ hrc) (get_map (by rw [ec]; rfl))) ev_c rv_I0) (ea_cons (ev_var rfl) ea_nil)) (by omega)
        (fun j σ H' => CL H ((longer many (cs.take i) ++ onw c j).map nl) l H' ∧ ∃ v, σ = [some (.ref pc), some (.int (many : Nat)), some (.ref l), some (.ref r), v]) (fun H1 e1 => ⟨?_, v, rfl⟩) ?_ ?_
      · have : onw c 0 = [] := rfl
        rw [this, List.append_nil]
        exact p.mono e1
      · rintro j σ H2 hj ⟨p2, v2, rfl⟩
        have ej : ((y + 1 : Nat) : Int) + (j : Nat) = ((y + 1 + j : Nat) : Int) := by omega
        have hol := onw_len c j
        rw [ej]
        refine s_when (et_test (ev_op (ev_var rfl) (ev_var rfl) (rv_niL (sq_of (p2.ex _ _ hrc)) rfl (flat_nl c)))) (fun hb H3 e3 => ?_) (fun hb H3 e3 => ⟨?_, _, rfl⟩)
        · refine s_appCL (ys := nl (c ++ [y + 1 + j])) hl (p2.mono e3) (ev_var rfl) (el_is (el_catVL (ev_var rfl) (e3 _ _ (p2.ex _ _ hrc)) (el_lst (ea_cons (ev_var rfl) ea_nil) (by simp)) ?_) ?_) (by simp; omega) fun H4 q4 => ⟨?_, _, rfl⟩
          · simp
            omega
          · simp
          · rw [inV_nl] at hb
            have hb' : c.contains (c.headD 0 + 1 + j) = false := by rw [hy]; simpa using hb
            rw [onw_succ, hb', hy]
            rw [← List.append_assoc, List.map_append]
            exact q4
        · rw [inV_nl] at hb
          have hb' : c.contains (c.headD 0 + 1 + j) = true := by rw [hy]; simpa using hb
          rw [onw_succ, hb']
          simp only [if_true, List.append_nil]
          exact p2.mono e3
      · rintro σ H2 ⟨p2, v2, rfl⟩
        refine ⟨?_, _, _, rfl⟩
        rw [longer_take hc, ← onw_all, hy]
        have e : ((many : Nat) - ((y + 1 : Nat) : Int)).toNat = many - (y + 1) := by omega
        rw [e] at p2
        exact p2
    · rintro σ H' ⟨p, u, v, rfl⟩
      refine s_ret (ev_var rfl) fun H3 e3 => ?_
      refine (p.mono e3).ret hl ?_
      rw [List.take_of_length_le (by have := R.len; simp at this; simp [this])]
      exact k
end
end Tp
namespace Tp
open PySem PySem.Spec PyProof.Rows L2 Evl
section
variable {P : Program} {w : World} {K : PySem.W.Frag} {mg : Str → Option Value} {base : Heap} {C D : Addr} {f : Addr} {fd : FuncData}
theorem CL.of {H H0 H1 : Hp} {p : Addr} {rs : List Addr} {xss : List (List V)} (e : Ex H H0) (hr : ∀ r ∈ rs, H0 r = none) (hn : p ∉ rs) (e1 : Ex H0 H1) (h : H1 p = some (.lst (rs.map V.ref))) (R : Rws H1 rs xss) : CL H xss p H1 :=
  ⟨rs, ⟨e.trans e1, h, R⟩, hn, fun r h => fresh_back e (hr r h)⟩
theorem q_asgLL {σ : L2.St} {H : Hp} {te : TE} {tz : TS} {Dd : Ends} {i : Nat} {xss : List (List V)} (h : EvLL te σ H xss) (k : ∀ p H1, H p = none → CL H xss p H1 → tz Dd (σ.set i (some (.ref p))) H1) : tSeq (tAsg te (gName i)) tz Dd σ H :=
  h H (Ex.refl H) _ fun p rs H1 hp hr hn e1 h1 R => k p H1 hp (CL.of (Ex.refl _) hr hn e1 h1 R)
theorem s_asgLL {σ : L2.St} {H : Hp} {te : TE} {Dd : Ends} {i : Nat} {xss : List (List V)} (h : EvLL te σ H xss) (k : ∀ p H1, H p = none → CL H xss p H1 → Dd.nx (σ.set i (some (.ref p))) H1) : tAsg te (gName i) Dd σ H :=
  h H (Ex.refl H) _ fun p rs H1 hp hr hn e1 h1 R => k p H1 hp (CL.of (Ex.refl _) hr hn e1 h1 R)
theorem CL.back {H H0 H1 : Hp} {p : Addr} {xss : List (List V)} (c : CL H0 xss p H1) (e : Ex H H0) : CL H xss p H1 := by
  obtain ⟨rs, ⟨p1, p2, p3⟩, p4, p5⟩ := c
  exact ⟨rs, ⟨e.trans p1, p2, p3⟩, p4, fun r h => fresh_back e (p5 r h)⟩

abbrev s_cycles_of_size : Stmt := top 45
/-- 0 many; 1 size; 2 found; 3 turn; 4 kind -/
theorem sc_cycles_of_size : FnScope ["many", "size", "found", "turn", "kind"] ["many", "size"] (defScope s_cycles_of_size) := ⟨rfl, rfl, rfl, by decide +kernel, rfl, by decide +kernel, by decide +kernel⟩
def rCS (vs : List V) (H : Hp) (z : List (List V)) : Prop := ∃ many size, vs = [.int (many : Nat), .int (size : Nat)] ∧ (many ≤ 4 ∧ 1 ≤ size ∧ size ≤ 4) ∧ z = (cysz many (size - 1)).map nl
theorem mo_CS : Mo rCS := fun vs H H' z e h => h
theorem cysz_small {many i : Nat} (hm : many ≤ 4) (hi : i ≤ 3) : (cysz many i).length ≤ 1000 := by
  have h1 := cysz_len hm i
  have h2 : 4 ^ i ≤ 4 ^ 3 := Nat.pow_le_pow_right (by decide) hi
  have h3 := Nat.mul_le_mul hm h2
  omega
theorem ok_cycles_of_size (T : Txt K mg C D) (O_longer_cycles : Own P w K mg base "longer_cycles" 1 ["cycles", "many"] (pLL rLC)) (F : Fun K "cycles_of_size" "cycles_of_size" s_cycles_of_size f fd) : FnOk P w K mg base CX0 2 f fd ["many", "size"] (pLL rCS) := by
  refine F.ok sc_cycles_of_size (fun vs H Q E h => ?_) (fun cdv A outer s H vs Q E hr h => ?_)
  · obtain ⟨z, ⟨many, size, rfl, _⟩, _⟩ := h
    rfl
  · obtain ⟨z, ⟨many, size, rfl, ⟨hm, hs1, hs4⟩, rfl⟩, k⟩ := h
    refine ⟨_, (pss_cons (ps_setLc (i := 2) (own := [("kind", 4)]) (g := gName 4) (tt := tYes) rfl sc_cycles_of_size.nd rfl rfl (sw_true rfl rfl rfl (by decide +kernel)) (pi_range1 rfl T.range (pa_cons (pv 0) pa_nil)) (blkOk_by (N := ["many", "size", "found", "turn", "kind"]) (sc := defScope s_cycles_of_size) (by decide +kernel)) (fun _ _ _ _ _ => pg_name (i := 4) sc_cycles_of_size.nd rfl (Or.inl rfl)) (fun _ _ _ _ _ => pts_nil) (fun _ _ _ _ _ => (pe_lst (pa_cons (pv 4) pa_nil)))) (pss_cons (ps_for PassesOwn.never rfl (pi_range2 rfl T.range (pa_cons pe_int (pa_cons (pv 1) pa_nil))) (pg_name (i := 3) sc_cycles_of_size.nd rfl (Or.inl rfl)) (pss_one (ps_set (i := 2) sc_cycles_of_size.nd rfl (Or.inl rfl) (pe_own O_longer_cycles (hr.mono (by decide)) (pa_cons (pv 2) (pa_cons (pv 0) pa_nil)))))) (pss_one (ps_ret (pv 2))))), ?_⟩
    refine q_asgLL (ell_lcR1 (fun kd => nl [kd]) (ea_cons (ev_var rfl) ea_nil) (by omega) (fun x => rfl) fun i H1 e1 hi => el_lst (ea_cons (ev_var rfl) ea_nil) (by simp)) fun p H1 hp c1 => ?_
    have e0 : ((List.range ((many : Nat) : Int).toNat).map fun kd => nl [kd]) = (cysz many 0).map nl := by
      rw [Int.toNat_natCast]
      simp [cysz]
    rw [e0] at c1
    refine q_forR2 (lo := 1) (n := (size : Nat)) (ea_cons ev_c (ea_cons (ev_var rfl) ea_nil)) (by omega)
      (fun i σ H' => i ≤ size - 1 ∧ ∃ q u v, (H q = none ∧ CL H ((cysz many i).map nl) q H') ∧ σ = [some (.int (many : Nat)), some (.int (size : Nat)), some (.ref q), u, v]) (fun H2 e2 => ⟨by omega, p, none, none, ⟨hp, c1.mono e2⟩, rfl⟩) ?_ ?_
    · rintro i σ H' hi ⟨_, q, u, v, ⟨hq, c⟩, rfl⟩
      obtain ⟨rs, ⟨p1, p2, p3⟩, p4, p5⟩ := id c
      refine s_asgLL (ell_own mo_LC (ea_cons (ev_var rfl) (ea_cons (ev_var rfl) ea_nil)) ⟨q, rs, cysz many i, many, rfl, ⟨p2, p3⟩, ⟨hm, cysz_small hm (by omega), fun d hd => ?_⟩, rfl⟩) fun q2 H2 hq2 c2 => ⟨by omega, q2, _, _, ⟨fresh_back p1 hq2, c2.back p1⟩, rfl⟩
      obtain ⟨h1, h2⟩ := cysz_good i d hd
      exact ⟨fun e => by rw [e] at h1; simp at h1, by omega, fun x hx => by have := h2 x hx; omega⟩
    · rintro σ H' ⟨_, q, u, v, ⟨hq, c⟩, rfl⟩
      refine s_ret (ev_var rfl) fun H3 e3 => ?_
      refine (c.mono e3).ret hq ?_
      have e : ((size : Nat) - 1 : Int).toNat = size - 1 := by omega
      rw [e]
      exact k

/-- found.extend(a new list of lists) -/
theorem s_extCL {K : PySem.W.Frag} {σ : L2.St} {H H0 : Hp} {ta te : TE} {Dd : Ends} {l : Addr} {xss yss : List (List V)} (hl : H0 l = none) (p : CL H0 xss l H) (ha : Ev ta σ H (.ref l)) (h : EvLL te σ H yss) (hz : xss.length + yss.length ≤ 100000) (k : ∀ H1, CL H0 (xss ++ yss) l H1 → Dd.nx σ H1) :
    tDrop (tBM K "list" rExtend ta (tCons te tNil)) Dd σ H := ha H (Ex.refl H) _ fun H1 e1 => by
  obtain ⟨rs, ⟨p1, p2, p3⟩, p4, p5⟩ := p
  refine ⟨Or.inl ⟨rfl, _, sq_of (e1 l _ p2)⟩, h H1 e1 _ fun b qs H2 hb hq hn e2 h2 R => ⟨l, b, _, _, rfl, rfl, e2 _ _ (e1 _ _ p2), h2, sz_of (by rw [List.length_map, List.length_map, p3.len, R.len]; exact hz), k _ ?_⟩⟩
  have hlq : l ∉ qs := fun z => by have := hq l z; rw [e1 _ _ p2] at this; cases this
  refine ⟨rs ++ qs, ⟨((p1.trans e1).trans e2).mut hl, ?_, ?_⟩, ?_, ?_⟩
  · rw [List.map_append]
    exact upd_same
  · exact ((p3.mono (e1.trans e2)).upd p4).append (R.upd hlq)
  · simp [p4, hlq]
  · intro r hr
    rcases List.mem_append.mp hr with hr | hr
    · exact p5 r hr
    · exact fresh_back (p1.trans e1) (hq r hr)
abbrev s_cycles_up_to : Stmt := top 46
/-- 0 many; 1 size; 2 found; 3 own -/
theorem sc_cycles_up_to : FnScope ["many", "size", "found", "own"] ["many", "size"] (defScope s_cycles_up_to) := ⟨rfl, rfl, rfl, by decide +kernel, rfl, by decide +kernel, by decide +kernel⟩
def rCU (vs : List V) (H : Hp) (z : List (List V)) : Prop := ∃ many size, vs = [.int (many : Nat), .int (size : Nat)] ∧ (many ≤ 4 ∧ 1 ≤ size ∧ size ≤ 4) ∧ z = (cyup many size).map nl
theorem mo_CU : Mo rCU := fun vs H H' z e h => h
def cyus (many i : Nat) : List (List Nat) := (List.range i).flatMap fun j => cysz many (j + 1)
theorem cyus_succ (many i : Nat) : cyus many (i + 1) = cyus many i ++ cysz many (i + 1) := by
  unfold cyus
  rw [List.range_succ, List.flatMap_append]
  simp
theorem cyus_len {many : Nat} (hm : many ≤ 4) : ∀ i, i ≤ 3 → (cyus many i).length ≤ 1000 * i
  | 0, _ => by simp [cyus]
  | i + 1, h => by
    rw [cyus_succ, List.length_append]
    have := cyus_len hm i (by omega)
    have := cysz_small hm h
    omega
theorem ok_cycles_up_to (T : Txt K mg C D) (O_cycles_of_size : Own P w K mg base "cycles_of_size" 2 ["many", "size"] (pLL rCS)) (F : Fun K "cycles_up_to" "cycles_up_to" s_cycles_up_to f fd) : FnOk P w K mg base CX0 3 f fd ["many", "size"] (pLL rCU) := by
  refine F.ok sc_cycles_up_to (fun vs H Q E h => ?_) (fun cdv A outer s H vs Q E hr h => ?_)
  · obtain ⟨z, ⟨many, size, rfl, _⟩, _⟩ := h
    rfl
  · obtain ⟨z, ⟨many, size, rfl, ⟨hm, hs1, hs4⟩, rfl⟩, k⟩ := h
    refine ⟨_, (pss_cons (ps_set (i := 2) sc_cycles_up_to.nd rfl (Or.inl rfl) (pe_lst pa_nil)) (pss_cons (ps_for PassesOwn.never rfl (pi_range2 rfl T.range (pa_cons pe_int (pa_cons (pe_op op_add (pv 1) pe_int) pa_nil))) (pg_name (i := 3) sc_cycles_up_to.nd rfl (Or.inl rfl)) (pss_one (ps_expr (pe_bm PySem.F.plainAttrs_list PySem.F.slot_list_extend PySem.F.type_list_extend mt_extend (pv 2) (pa_cons (pe_own O_cycles_of_size (hr.mono (by decide)) (pa_cons (pv 0) (pa_cons (pv 3) pa_nil))) pa_nil))))) (pss_one (ps_ret (pv 2))))), ?_⟩
    refine ⟨Nat.zero_le _, fun l hl => ?_⟩
    have c0 : CL H ((cyus many 0).map nl) l (upd H l (.lst [])) := CL.zero hl
    refine q_forR2 (lo := 2) (n := ((size + 1 : Nat) : Int)) (ea_cons ev_c (ea_cons (ev_is (ev_op (ev_var rfl) ev_c rv_I0) (by simp)) ea_nil)) (by omega)
      (fun i σ H' => CL H ((cyus many i).map nl) l H' ∧ ∃ v, σ = [some (.int (many : Nat)), some (.int (size : Nat)), some (.ref l), v]) (fun H2 e2 => ⟨c0.mono e2, none, rfl⟩) ?_ ?_
    · rintro i σ H' hi ⟨c, v, rfl⟩
      have ei : (2 : Int) + (i : Nat) = ((i + 2 : Nat) : Int) := by omega
      rw [ei]
      refine s_extCL hl c (ev_var rfl) (ell_own mo_CS (ea_cons (ev_var rfl) (ea_cons (ev_var rfl) ea_nil)) ⟨many, i + 2, rfl, ⟨hm, by omega, by omega⟩, rfl⟩) ?_ fun H1 c1 => ⟨?_, _, rfl⟩
      · have := cyus_len hm i (by omega)
        have := cysz_small (i := i + 1) hm (by omega)
        simp
        omega
      · rw [cyus_succ, List.map_append]
        exact c1
    · rintro σ H' ⟨c, v, rfl⟩
      refine s_ret (ev_var rfl) fun H3 e3 => ?_
      refine (c.mono e3).ret hl ?_
      have e : (((size + 1 : Nat) : Int) - 2).toNat = size - 1 := by omega
      rw [e]
      exact k

abbrev s_cycle_length : Stmt := top 47
/-- 0 instance; 1 agent; 2 profile; 3 cycle; 4 found; 5 place -/
theorem sc_cycle_length : FnScope ["instance", "agent", "profile", "cycle", "found", "place"] ["instance", "agent", "profile", "cycle"] (defScope s_cycle_length) := ⟨rfl, rfl, rfl, by decide +kernel, rfl, by decide +kernel, by decide +kernel⟩
def rCy (C : Addr) (vs : List V) (H : Hp) (z : V) : Prop := ∃ p a i pr t pc c, vs = [.ref p, .int (i : Nat), .ref pr, .ref pc] ∧ (IA C H p a ∧ H pr = some (.lst (nl t)) ∧ H pc = some (.lst (nl c))) ∧ (Pf a t ∧ i < a.agentCount ∧ c.length ≤ 100 ∧ ∀ x ∈ c, x < a.typeCount i) ∧ z = .int (a.cycleLength i t c)
theorem mo_Cy : Mo (rCy C) := fun vs H H' z e ⟨p, a, i, t, j, m, n, h, ⟨I, J, L⟩, q⟩ => ⟨p, a, i, t, j, m, n, h, ⟨I.mono e, e _ _ J, e _ _ L⟩, q⟩
theorem ok_cycle_length (T : Txt K mg C D) (O_loss : Own P w K mg base "loss" 3 ["instance", "agent", "profile", "kind", "other"] (pV (rLO C))) (F : Fun K "cycle_length" "cycle_length" s_cycle_length f fd) : FnOk P w K mg base CX0 4 f fd ["instance", "agent", "profile", "cycle"] (pV (rCy C)) := by
  refine F.ok sc_cycle_length (fun vs H Q E h => ?_) (fun cdv A outer s H vs Q E hr h => ?_)
  · obtain ⟨z, ⟨p, a, i, pr, t, pc, c, rfl, _⟩, _⟩ := h
    rfl
  · obtain ⟨z, ⟨p, a, ag, pr, t, pc, c, rfl, ⟨I, J, L⟩, ⟨hp, hag, hc, hx⟩, rfl⟩, k⟩ := h
    refine ⟨_, (pss_cons (ps_set (i := 4) sc_cycle_length.nd rfl (Or.inl rfl) pe_int) (pss_cons (ps_for PassesOwn.never rfl (pi_range1 rfl T.range (pa_cons (pe_callB call_len_seq (by rfl) T.len PySem.boot_len (pa_cons (pv 3) pa_nil)) pa_nil)) (pg_name (i := 5) sc_cycle_length.nd rfl (Or.inl rfl)) (pss_one (ps_set (i := 4) sc_cycle_length.nd rfl (Or.inl rfl) (pe_op op_add (pv 4) (pe_own O_loss (hr.mono (by decide)) (pa_cons (pv 0) (pa_cons (pv 1) (pa_cons (pv 2) (pa_cons (pe_ix ix_list (pv 3) (pe_op op_mod (pe_op op_add (pv 5) pe_int) (pe_callB call_len_seq (by rfl) T.len PySem.boot_len (pa_cons (pv 3) pa_nil))) (fun _ _ => rfl)) (pa_cons (pe_ix ix_list (pv 3) (pv 5) (fun _ _ => rfl)) pa_nil)))))))))) (pss_one (ps_ret (pv 4))))), ?_⟩
    refine q_asg ev_c fun H1 e1 => q_forR1 (n := (c.length : Nat)) (ea_cons (ev_is (ev_len (ev_var rfl) (sq_of (e1 _ _ L))) (by simp)) ea_nil) (by omega)
      (fun i σ H' => Ex H H' ∧ ∃ v, σ = [some (.ref p), some (.int (ag : Nat)), some (.ref pr), some (.ref pc), some (.int ((List.range i).map fun j => a.loss ag t (c.getD ((j + 1) % c.length) 0) (c.getD j 0)).sum), v]) (fun H2 e2 => ⟨e1.trans e2, none, rfl⟩) ?_ ?_
    · rintro i σ H' hi ⟨e2, v, rfl⟩
      have hi' : i < c.length := by omega
      have hm : (i + 1) % c.length < c.length := Nat.mod_lt _ (by omega)
      have g1 := get_of hi'
      have g2 := get_of hm
      refine s_asg (ev_op (ev_var rfl) (ev_own mo_LO (ea_cons (ev_var rfl) (ea_cons (ev_var rfl) (ea_cons (ev_var rfl) (ea_cons (ev_at (i := (i + 1) % c.length) (ev_var rfl) (ev_is (ev_op (ev_op (ev_var rfl) ev_c rv_I0) (ev_len (ev_var rfl) (sq_of (e2 _ _ L))) (rv_I (by simp; omega))) (by simp)) (e2 _ _ L) (get_map g2)) (ea_cons (ev_at (ev_var rfl) (ev_var rfl) (e2 _ _ L) (get_map g1)) ea_nil)))))
        ⟨p, a, ag, pr, t, _, _, rfl, ⟨I.mono e2, e2 _ _ J⟩, ⟨hp, hag, hx _ (List.mem_of_getElem? g2), hx _ (List.mem_of_getElem? g1)⟩, rfl⟩) rv_I0) fun H3 e3 => ⟨e2.trans e3, some (.int (i : Nat)), ?_⟩
      rw [range_sum]
      rfl
    · rintro σ H' ⟨e2, v, rfl⟩
      refine s_ret (ev_var rfl) fun H3 e3 => ?_
      have := k H3 (e2.trans e3)
      rw [Int.toNat_natCast]
      exact this
end
end Tp
namespace Tp
open PySem PySem.Spec PyProof.Rows L2 Evl
section
variable {P : Program} {w : World} {K : PySem.W.Frag} {mg : Str → Option Value} {base : Heap} {C D : Addr} {f : Addr} {fd : FuncData}
/-- a promise: a list, or None -/
def RetO (o : Option (List V)) (H : Hp) (Q : VK) : Prop := match o with
  | none => RetV .non H Q
  | some xs => RetL xs H Q
def pO (R : List V → Hp → Option (List V) → Prop) : Sp := fun vs H Q _ => ∃ o, R vs H o ∧ RetO o H Q
theorem ev_ownO {σ : L2.St} {H : Hp} {E : XK} {tA : TA} {vs : List V} {R : List V → Hp → Option (List V) → Prop} (m : Mo R) (ha : EvA tA σ H vs) (h : R vs H none) : Ev (tCall (pO R) [] E tA) σ H .non :=
  ev_call ha fun H1 e Q q E => ⟨none, by rw [List.append_nil]; exact m _ _ _ _ e h, q⟩
theorem el_ownO {σ : L2.St} {H : Hp} {E : XK} {tA : TA} {vs xs : List V} {R : List V → Hp → Option (List V) → Prop} (m : Mo R) (ha : EvA tA σ H vs) (h : R vs H (some xs)) : EvL (tCall (pO R) [] E tA) σ H xs :=
  el_call ha fun H1 e Q q E => ⟨some xs, by rw [List.append_nil]; exact m _ _ _ _ e h, q⟩
theorem s_forLL {K : PySem.W.Frag} {σ : L2.St} {H : Hp} {tl : TE} {tu : TS} {D : Ends} {j : Nat} {xss : List (List V)} (h : EvLL tl σ H xss) (Pv : Addr → List Addr → Nat → L2.St → Hp → Prop)
    (h0 : ∀ p rs H1, H p = none → (∀ r ∈ rs, H r = none) → p ∉ rs → Ex H H1 → H1 p = some (.lst (rs.map V.ref)) → Rws H1 rs xss → Pv p rs 0 σ H1) (hl : ∀ p rs i σ' H', Pv p rs i σ' H' → H' p = some (.lst (rs.map V.ref)))
    (hs : ∀ p rs (i : Nat) r xs σ' H', rs[i]? = some r → xss[i]? = some xs → Pv p rs i σ' H' → tu { D with nx := Pv p rs (i + 1), ct := Pv p rs (i + 1), bk := D.nx } (σ'.set j (some (.ref r))) H') (hd : ∀ p rs σ' H', Pv p rs xss.length σ' H' → D.nx σ' H') :
    tFor (iList K tl) (gName j) tu D σ H := q_forLL (tz := fun D' => D.nx) (D := D) h Pv h0 hl hs hd
theorem find_none {α : Type} {p : α → Bool} {l : List α} {i : Nat} {x : α} (h : (l.take i).find? p = none) (hx : l[i]? = some x) (hp : p x = false) : (l.take (i + 1)).find? p = none := by
  rw [take_more hx, List.find?_append, h]
  simp [hp]
theorem find_some {α : Type} {p : α → Bool} {l : List α} {i : Nat} {x : α} (h : (l.take i).find? p = none) (hx : l[i]? = some x) (hp : p x = true) : l.find? p = some x := by
  have e : l = l.take i ++ (x :: l.drop (i + 1)) := by
    have hi := (List.getElem?_eq_some_iff.mp hx)
    obtain ⟨h1, h2⟩ := hi
    rw [← h2, ← List.drop_eq_getElem_cons h1, List.take_append_drop]
  rw [e, List.find?_append, h]
  simp [hp]

abbrev s_negative_cycle : Stmt := top 48
/-- 0 instance; 1 agent; 2 profile; 3 size; 4 cycle -/
theorem sc_negative_cycle : FnScope ["instance", "agent", "profile", "size", "cycle"] ["instance", "agent", "profile", "size"] (defScope s_negative_cycle) := ⟨rfl, rfl, rfl, by decide +kernel, rfl, by decide +kernel, by decide +kernel⟩
def rNC (C : Addr) (vs : List V) (H : Hp) (z : Option (List V)) : Prop := ∃ p a i pr t size, vs = [.ref p, .int (i : Nat), .ref pr, .int (size : Nat)] ∧ (IA C H p a ∧ H pr = some (.lst (nl t))) ∧ (Pf a t ∧ i < a.agentCount ∧ 1 ≤ size ∧ size ≤ 4) ∧ z = (negCyc a i t size).map nl
theorem mo_NC : Mo (rNC C) := fun vs H H' z e ⟨p, a, i, t, j, m, h, ⟨I, J⟩, q⟩ => ⟨p, a, i, t, j, m, h, ⟨I.mono e, e _ _ J⟩, q⟩
theorem ok_negative_cycle (T : Txt K mg C D) (O_cycles_up_to : Own P w K mg base "cycles_up_to" 3 ["many", "size"] (pLL rCU)) (O_kind_count : Own P w K mg base "kind_count" 1 ["instance", "agent"] (pV (rKC C))) (O_cycle_length : Own P w K mg base "cycle_length" 4 ["instance", "agent", "profile", "cycle"] (pV (rCy C))) (F : Fun K "negative_cycle" "negative_cycle" s_negative_cycle f fd) : FnOk P w K mg base CX0 5 f fd ["instance", "agent", "profile", "size"] (pO (rNC C)) := by
  refine F.ok sc_negative_cycle (fun vs H Q E h => ?_) (fun cdv A outer s H vs Q E hr h => ?_)
  · obtain ⟨z, ⟨p, a, i, pr, t, size, rfl, _⟩, _⟩ := h
    rfl
  · obtain ⟨z, ⟨p, a, ag, pr, t, size, rfl, ⟨I, J⟩, ⟨hp, hag, hs1, hs4⟩, rfl⟩, k⟩ := h
    refine ⟨_, (pss_cons (ps_for PassesOwn.never rfl (pi_list (pe_own O_cycles_up_to (hr.mono (by decide)) (pa_cons (pe_own O_kind_count (hr.mono (by decide)) (pa_cons (pv 0) (pa_cons (pv 1) pa_nil))) (pa_cons (pv 3) pa_nil)))) (pg_name (i := 4) sc_negative_cycle.nd rfl (Or.inl rfl)) (pss_one (ps_if (pt_cmpR op_lt (pe_own O_cycle_length (hr.mono (by decide)) (pa_cons (pv 0) (pa_cons (pv 1) (pa_cons (pv 2) (pa_cons (pv 4) pa_nil))))) pe_int (nomark _)) (pss_one (ps_ret (pv 4))) pss_nil))) (pss_one (ps_ret pe_non))), ?_⟩
    have h4 := typeCount_le I.1 hag
    generalize hcs : cyup (a.typeCount ag) size = cs
    have hneg : negCyc a ag t size = cs.find? fun r => decide (a.cycleLength ag t r < 0) := by rw [← hcs]; rfl
    refine q_forLL (xss := cs.map nl) (fun H1 e1 Q1 q1 => ?_)
      (fun pp rs i σ H' => (Ex H H' ∧ H' pp = some (.lst (rs.map V.ref)) ∧ Rws H' rs (cs.map nl) ∧ ∀ r ∈ rs, H r = none) ∧ (cs.take i).find? (fun r => decide (a.cycleLength ag t r < 0)) = none ∧ ∃ v, σ = [some (.ref p), some (.int (ag : Nat)), some (.ref pr), some (.int (size : Nat)), v])
      (fun pp rs H1 hpp hrs hn e1 h1 R => ⟨⟨e1, h1, R, hrs⟩, rfl, none, rfl⟩) (fun pp rs i σ H' q => q.1.2.1) ?_ ?_
    · exact ell_own mo_CU (ea_cons (ev_own mo_KC (ea_cons (ev_var rfl) (ea_cons (ev_var rfl) ea_nil)) ⟨p, a, ag, rfl, I, hag, rfl⟩) (ea_cons (ev_var rfl) ea_nil)) ⟨a.typeCount ag, size, rfl, ⟨h4, hs1, hs4⟩, by rw [hcs]⟩ H1 e1 Q1 q1
    · rintro pp rs i r xs σ H' hr' hx ⟨⟨e1, h1, R, hrs⟩, hf, v, rfl⟩
      obtain ⟨c, hc, rfl⟩ := get_nl hx
      have hrc := R.at_ i r _ hr' hx
      obtain ⟨g1, g2, g3⟩ := cyup_good (n := a.typeCount ag) (s := size) (c := c) (by rw [hcs]; exact List.mem_of_getElem? hc)
      refine s_when (et_test (ev_op (ev_own mo_Cy (ea_cons (ev_var rfl) (ea_cons (ev_var rfl) (ea_cons (ev_var rfl) (ea_cons (ev_var rfl) ea_nil)))) ⟨p, a, ag, pr, t, r, c, rfl, ⟨I.mono e1, e1 _ _ J, hrc⟩, ⟨hp, hag, by omega, g3⟩, rfl⟩) ev_c rv_I0)) (fun hb H2 e2 => ?_) (fun hb H2 e2 => ⟨⟨e1.trans e2, e2 _ _ h1, R.mono e2, hrs⟩, find_none hf hc hb, _, rfl⟩)
      refine s_ret (ev_var rfl) fun H3 e3 => ?_
      rw [hneg, find_some hf hc hb] at k
      exact k r H3 (hrs r (List.mem_of_getElem? hr')) ((e1.trans e2).trans e3) (e3 _ _ (e2 _ _ hrc))
    · rintro pp rs σ H' ⟨⟨e1, h1, R, hrs⟩, hf, v, rfl⟩
      refine s_ret ev_c fun H3 e3 => ?_
      rw [List.take_of_length_le (by simp)] at hf
      rw [hneg, hf] at k
      exact k H3 (e1.trans e3)

/-- a comprehension that picks from a new list of lists -/
theorem ell_lcF {K : PySem.W.Frag} {σ : L2.St} {H : Hp} {tl : TE} {tt : TT} {j : Nat} {vs : List Nat} {xss : List (List V)} (fl : List V → Bool) (h : EvLL tl σ H xss) (hz : xss.length ≤ 40000) (hw : ∀ x, wipe ((wipe σ vs).set j (some x)) vs = wipe σ vs)
    (hv : ∀ x, ((wipe σ vs).set j (some x))[j]? = some (some x)) (ht : ∀ (r : Addr) (xs : List V) H1, Ex H H1 → xs ∈ xss → H1 r = some (.lst xs) → EvT tt ((wipe σ vs).set j (some (.ref r))) H1 (fl xs)) :
    EvLL (tLc (iList K tl) (gName j) tt (tVar j) vs) σ H (xss.filter fl) := fun H0 e Q q => h H0 e _ fun p rs H1 hp hr hn e1 h1 R => ⟨p, rfl, ⟨_, sq_of h1⟩, fun Dl hD => by
  have hDr : Dl ∉ rs := fun z => by
    obtain ⟨i, hi, e⟩ := List.getElem_of_mem z
    have h2 : rs[i]? = some Dl := by rw [List.getElem?_eq_getElem hi, e]
    have hx : xss[i]? = some (xss[i]'(by rw [← R.len]; exact hi)) := List.getElem?_eq_getElem _
    rw [R.at_ i Dl _ h2 hx] at hD
    cases hD
  refine lc_list (xs := rs.map V.ref) (fun i H' => ∃ qs : List Addr, (Ex H1 H' ∧ H' Dl = some (.lst (qs.map V.ref)) ∧ Rws H' qs ((xss.take i).filter fl)) ∧ (∀ r ∈ qs, r ∈ rs) ∧ qs.length ≤ i) ⟨[], ⟨Ex.new hD, upd_same, Rws.nil⟩, by simp, by simp⟩ (fun i H' _ ⟨qs, p, _⟩ => sq_of (p.1 _ _ h1)) (fun i x H' hi p => ?_)
    (fun H' p => ?_)
  · obtain ⟨qs, ⟨p1, p2, p3⟩, p4, p5⟩ := p
    obtain ⟨r, hr', rfl⟩ := map_get hi
    have hi2 : i < xss.length := by rw [← R.len]; exact (List.getElem?_eq_some_iff.mp hr').1
    have hx : xss[i]? = some xss[i] := List.getElem?_eq_getElem hi2
    generalize xss[i] = xs at hx
    have hrx := R.at_ i r _ hr' hx
    refine ⟨hw _, ht r xs H' ((e.trans e1).trans p1) (List.mem_of_getElem? hx) (p1 _ _ hrx) H' (Ex.refl _) _ fun H3 e3 => ?_⟩
    cases hf : fl xs with
    | true =>
      refine (if_pos (c := true = true) rfl).mpr ?_
      refine ⟨.ref r, hv _, qs.map V.ref, e3 _ _ p2, ?_, qs ++ [r], ⟨(p1.trans e3).mut hD, ?_, ?_⟩, ?_, ?_⟩
      · rw [List.length_map]
        exact Nat.lt_of_le_of_lt p5 (Nat.lt_of_lt_of_le (show i < 50000 by omega) (by decide))
      · rw [List.map_append]
        exact upd_same
      · rw [take_more hx, List.filter_append]
        have ef : [xs].filter fl = [xs] := by simp [hf]
        rw [ef]
        have hne : r ≠ Dl := fun z => hDr (z ▸ List.mem_of_getElem? hr')
        exact ((p3.mono e3).upd fun z => hDr (p4 _ z)).snoc ((upd_ne hne).trans (e3 _ _ (p1 _ _ hrx)))
      · intro y hy
        rcases List.mem_append.mp hy with hy | hy
        · exact p4 y hy
        · simp at hy
          subst hy
          exact List.mem_of_getElem? hr'
      · simp
        exact p5
    | false =>
      refine (if_neg (c := false = true) Bool.false_ne_true).mpr ?_
      refine ⟨qs, ⟨p1.trans e3, e3 _ _ p2, ?_⟩, p4, by omega⟩
      rw [take_more hx, List.filter_append]
      have ef : [xs].filter fl = [] := by simp [hf]
      rw [ef, List.append_nil]
      exact p3.mono e3
  · obtain ⟨qs, ⟨p1, p2, p3⟩, p4, p5⟩ := p
    rw [List.take_of_length_le (by rw [List.length_map, R.len]; exact Nat.le_refl _)] at p3
    exact q Dl qs H' (fresh_back e1 hD) (fun r h => hr r (p4 r h)) (fun z => hDr (p4 _ z)) (e1.trans p1) p2 p3⟩
abbrev s_base_profiles : Stmt := top 49
/-- 0 instance; 1 agent; 2 profile -/
theorem sc_base_profiles : FnScope ["instance", "agent", "profile"] ["instance", "agent"] (defScope s_base_profiles) := ⟨rfl, rfl, rfl, by decide +kernel, rfl, by decide +kernel, by decide +kernel⟩
def rBP (C : Addr) (vs : List V) (H : Hp) (z : List (List V)) : Prop := ∃ p a i, vs = [.ref p, .int (i : Nat)] ∧ IA C H p a ∧ ((∀ l ∈ a.types, l ≠ []) ∧ i < a.agentCount) ∧ z = (a.baseProfiles i).map nl
theorem mo_BP : Mo (rBP C) := fun vs H H' z e ⟨p, a, i, h, I, q⟩ => ⟨p, a, i, h, I.mono e, q⟩
theorem ok_base_profiles (T : Txt K mg C D) (O_all_profiles : Own P w K mg base "all_profiles" 2 ["instance"] (pLL (rAP C))) (F : Fun K "base_profiles" "base_profiles" s_base_profiles f fd) : FnOk P w K mg base CX0 3 f fd ["instance", "agent"] (pLL (rBP C)) := by
  refine F.ok sc_base_profiles (fun vs H Q E h => ?_) (fun cdv A outer s H vs Q E hr h => ?_)
  · obtain ⟨z, ⟨p, a, i, rfl, _⟩, _⟩ := h
    rfl
  · obtain ⟨z, ⟨p, a, ag, rfl, I, ⟨hne, hag⟩, rfl⟩, k⟩ := h
    refine ⟨_, (pss_one (ps_ret (pe_lc (own := [("profile", 2)]) (g := gName 2) rfl sc_base_profiles.nd (pi_list (pe_own O_all_profiles (hr.mono (by decide)) (pa_cons (pv 0) pa_nil))) (blkOk_by (N := ["instance", "agent", "profile"]) (sc := defScope s_base_profiles) (by decide +kernel)) (fun _ _ _ _ _ => pg_name (i := 2) sc_base_profiles.nd rfl (Or.inl rfl)) (fun _ _ _ _ _ => (pts_one (pt_cmpR op_eq (pe_ix (ix_listB (K := K) rfl) (pv 2) (pv 1) (fun _ _ => rfl)) pe_int (nomark _)))) (fun _ _ _ _ _ => (pv 2))))), ?_⟩
    have h64 := cnt_le64 I.1
    have e : (a.baseProfiles ag).map nl = (a.profiles.map nl).filter fun xs => decide (xs.getD ag (.int 0) = .int 0) := by
      unfold Su196.Instance.baseProfiles
      rw [List.filter_map]
      congr 1
      refine List.filter_congr fun t _ => ?_
      show (t.getD ag 0 == 0) = decide ((nl t).getD ag (.int 0) = .int 0)
      have e1 : (nl t).getD ag (.int 0) = .int (t.getD ag 0 : Nat) := by
        rw [List.getD_eq_getElem?_getD, List.getD_eq_getElem?_getD, List.getElem?_map]
        cases t[ag]? <;> rfl
      rw [e1]
      by_cases h0 : t.getD ag 0 = 0
      · rw [h0]
        rfl
      · have : ¬ (V.int (t.getD ag 0 : Nat) = .int 0) := fun z => h0 (by injection z with z; omega)
        rw [decide_eq_false this]
        exact beq_eq_false_iff_ne.mpr h0
    rw [e] at k
    refine s_retLL (ell_lcF _ (ell_own mo_AP (ea_cons (ev_var rfl) ea_nil) ⟨p, a, rfl, I, hne, rfl⟩) (by simp [profiles_length]; omega) (fun x => rfl) (fun x => rfl) fun r xs H1 e1 hx hr => ?_) k
    obtain ⟨t, ht, rfl⟩ := List.mem_map.mp hx
    have hp := pf_of_mem I.1 ht
    have e1 : (nl t).getD ag (.int 0) = .int (t.getD ag 0 : Nat) := by
      rw [List.getD_eq_getElem?_getD, List.getD_eq_getElem?_getD, List.getElem?_map]
      cases t[ag]? <;> rfl
    rw [e1]
    exact et_test (ev_op (ev_at (ev_var rfl) (ev_var rfl) hr (get_map (get_of (by rw [hp.1]; exact hag)))) ev_c (rv_eq rfl))
end
end Tp
namespace Tp
open PySem PySem.Spec PyProof.Rows L2 Evl
section
variable {P : Program} {w : World} {K : PySem.W.Frag} {mg : Str → Option Value} {base : Heap} {C D : Addr} {f : Addr} {fd : FuncData}
def RetF (o : Option (Nat × List Nat × List Nat)) (H : Hp) (Q : VK) : Prop := match o with
  | none => RetV .non H Q
  | some (i, t, c) => ∀ q pt pc H2, H q = none → Ex H H2 → H2 q = some (.tup [.int (i : Nat), .ref pt, .ref pc]) → H2 pt = some (.lst (nl t)) → H2 pc = some (.lst (nl c)) → Q (.ref q) H2
abbrev s_first_negative : Stmt := top 50
/-- 0 instance; 1 size; 2 agent; 3 profile; 4 cycle -/
theorem sc_first_negative : FnScope ["instance", "size", "agent", "profile", "cycle"] ["instance", "size"] (defScope s_first_negative) := ⟨rfl, rfl, rfl, by decide +kernel, rfl, by decide +kernel, by decide +kernel⟩
def spFN (C : Addr) : Sp := fun vs H Q _ => ∃ p a size, vs = [.ref p, .int (size : Nat)] ∧ IA C H p a ∧ ((∀ l ∈ a.types, l ≠ []) ∧ 1 ≤ size ∧ size ≤ 4) ∧ RetF (firstNeg a size) H Q
theorem fs_none {α β : Type} {p : α → Option β} {l : List α} {i : Nat} {x : α} (h : (l.take i).findSome? p = none) (hx : l[i]? = some x) (hp : p x = none) : (l.take (i + 1)).findSome? p = none := by
  rw [take_more hx, List.findSome?_append, h]
  simp [hp]
theorem fs_some {α β : Type} {p : α → Option β} {l : List α} {i : Nat} {x : α} {y : β} (h : (l.take i).findSome? p = none) (hx : l[i]? = some x) (hp : p x = some y) : l.findSome? p = some y := by
  have e : l = l.take i ++ (x :: l.drop (i + 1)) := by
    obtain ⟨h1, h2⟩ := List.getElem?_eq_some_iff.mp hx
    rw [← h2, ← List.drop_eq_getElem_cons h1, List.take_append_drop]
  rw [e, List.findSome?_append, h]
  simp [hp]
theorem take_range {n i : Nat} (h : i ≤ n) : (List.range n).take i = List.range i := by
  rw [List.take_range, Nat.min_eq_left h]
theorem rv_notN {x : V} {H : Hp} : RV (fun x y H Q => y = .non ∧ Q (.bl (!decide (x = .non))) H) x .non H (.bl (!decide (x = .non))) := fun H1 _ _ q => ⟨rfl, q H1 (Ex.refl H1)⟩
theorem rv_isN {x : V} {H : Hp} : RV (fun x y H Q => y = .non ∧ Q (.bl (decide (x = .non))) H) x .non H (.bl (decide (x = .non))) := fun H1 _ _ q => ⟨rfl, q H1 (Ex.refl H1)⟩
theorem ok_first_negative (T : Txt K mg C D) (O_agent_count : Own P w K mg base "agent_count" 1 ["instance"] (pV (rAC C))) (O_base_profiles : Own P w K mg base "base_profiles" 3 ["instance", "agent"] (pLL (rBP C))) (O_negative_cycle : Own P w K mg base "negative_cycle" 5 ["instance", "agent", "profile", "size"] (pO (rNC C))) (F : Fun K "first_negative" "first_negative" s_first_negative f fd) : FnOk P w K mg base CX0 6 f fd ["instance", "size"] (spFN C) := by
  refine F.ok sc_first_negative (fun vs H Q E h => ?_) (fun cdv A outer s H vs Q E hr h => ?_)
  · obtain ⟨p, a, size, rfl, _⟩ := h
    rfl
  · obtain ⟨p, a, size, rfl, I, ⟨hne, hs1, hs4⟩, k⟩ := h
    refine ⟨_, (pss_cons (ps_for PassesOwn.never rfl (pi_range1 rfl T.range (pa_cons (pe_own O_agent_count (hr.mono (by decide)) (pa_cons (pv 0) pa_nil)) pa_nil)) (pg_name (i := 2) sc_first_negative.nd rfl (Or.inl rfl)) (pss_one (ps_for PassesOwn.never rfl (pi_list (pe_own O_base_profiles (hr.mono (by decide)) (pa_cons (pv 0) (pa_cons (pv 2) pa_nil)))) (pg_name (i := 3) sc_first_negative.nd rfl (Or.inl rfl)) (pss_cons (ps_set (i := 4) sc_first_negative.nd rfl (Or.inl rfl) (pe_own O_negative_cycle (hr.mono (by decide)) (pa_cons (pv 0) (pa_cons (pv 2) (pa_cons (pv 3) (pa_cons (pv 1) pa_nil)))))) (pss_one (ps_if (pt_cmpR op_notN (pv 4) pe_non (nomark _)) (pss_one (ps_ret (pe_tup (pa_cons (pv 2) (pa_cons (pv 3) (pa_cons (pv 4) pa_nil)))))) pss_nil)))))) (pss_one (ps_ret pe_non))), ?_⟩
    have h3 := I.1.ac3
    generalize hg : (fun i t => (negCyc a i t size).map fun r => (i, t, r)) = g
    have hfn : firstNeg a size = (List.range a.agentCount).findSome? fun i => (a.baseProfiles i).findSome? (g i) := by rw [← hg]; rfl
    refine q_forR1 (ea_cons (ev_own mo_AC (ea_cons (ev_var rfl) ea_nil) ⟨p, a, rfl, I, rfl⟩) ea_nil) (by omega)
      (fun i σ H' => (Ex H H' ∧ i ≤ a.agentCount ∧ ((List.range a.agentCount).take i).findSome? (fun i => (a.baseProfiles i).findSome? (g i)) = none) ∧ ∃ u v w, σ = [some (.ref p), some (.int (size : Nat)), u, v, w]) (fun H1 e1 => ⟨⟨e1, by omega, rfl⟩, none, none, none, rfl⟩) ?_ ?_
    · rintro i σ H1 hi ⟨⟨e1, hi1, hf⟩, u, v, w, rfl⟩
      have hia : i < a.agentCount := by omega
      have hri : (List.range a.agentCount)[i]? = some i := List.getElem?_range hia
      refine s_forLL (ell_own mo_BP (ea_cons (ev_var rfl) (ea_cons (ev_var rfl) ea_nil)) ⟨p, a, i, rfl, I.mono e1, ⟨hne, hia⟩, rfl⟩)
        (fun pp rs j σ H' => (Ex H H' ∧ H' pp = some (.lst (rs.map V.ref)) ∧ Rws H' rs ((a.baseProfiles i).map nl)) ∧ ((a.baseProfiles i).take j).findSome? (g i) = none ∧ ∃ v w, σ = [some (.ref p), some (.int (size : Nat)), some (.int (i : Nat)), v, w])
        (fun pp rs H2 hpp hrs hn e2 h2 R => ⟨⟨e1.trans e2, h2, R⟩, rfl, v, w, rfl⟩) (fun pp rs j σ H' q => q.1.2.1) ?_ ?_
      · rintro pp rs j r xs σ H2 hr' hx ⟨⟨e2, h2, R⟩, hf2, v2, w2, rfl⟩
        obtain ⟨t, ht, rfl⟩ := get_nl hx
        have hrt := R.at_ j r _ hr' hx
        have hpt := baseProfiles_pf I.1 (List.mem_of_getElem? ht)
        have rel : rNC C [.ref p, .int (i : Nat), .ref r, .int (size : Nat)] H2 ((negCyc a i t size).map nl) := ⟨p, a, i, r, t, size, rfl, ⟨I.mono e2, hrt⟩, ⟨hpt, hia, hs1, hs4⟩, rfl⟩
        cases hc : negCyc a i t size with
        | none =>
          rw [hc] at rel
          have hgn : g i t = none := by rw [← hg]; show (negCyc a i t size).map _ = none; rw [hc]; rfl
          refine q_asg (ev_ownO mo_NC (ea_cons (ev_var rfl) (ea_cons (ev_var rfl) (ea_cons (ev_var rfl) (ea_cons (ev_var rfl) ea_nil)))) rel) fun H3 e3 => ?_
          refine s_when (et_test (ev_op (ev_var rfl) ev_c rv_notN)) (fun hb => absurd hb (by decide)) (fun hb H4 e4 => ⟨⟨(e2.trans e3).trans e4, (e3.trans e4) _ _ h2, R.mono (e3.trans e4)⟩, fs_none hf2 ht hgn, _, _, rfl⟩)
        | some c =>
          rw [hc] at rel
          have hgs : g i t = some (i, t, c) := by rw [← hg]; show (negCyc a i t size).map _ = _; rw [hc]; rfl
          refine q_asgL (el_ownO mo_NC (ea_cons (ev_var rfl) (ea_cons (ev_var rfl) (ea_cons (ev_var rfl) (ea_cons (ev_var rfl) ea_nil)))) rel) fun pc H3 hpc e3 h3 => ?_
          refine s_when (et_test (ev_op (ev_var rfl) ev_c rv_notN)) (fun hb H4 e4 => ?_) (fun hb => absurd hb (by simp))
          refine s_retU (eu_tup (ea_cons (ev_var rfl) (ea_cons (ev_var rfl) (ea_cons (ev_var rfl) ea_nil))) (by simp)) fun q H5 hq e5 h5 => ?_
          rw [hfn, fs_some hf hri (fs_some hf2 ht hgs)] at k
          exact k q r pc H5 (fresh_back ((e2.trans e3).trans e4) hq) (((e2.trans e3).trans e4).trans e5) h5 (((e3.trans e4).trans e5) _ _ hrt) ((e4.trans e5) _ _ h3)
      · rintro pp rs σ H2 ⟨⟨e2, h2, R⟩, hf2, v2, w2, rfl⟩
        rw [List.take_of_length_le (by simp)] at hf2
        exact ⟨⟨e2, by omega, fs_none hf hri hf2⟩, _, _, _, rfl⟩
    · rintro σ H1 ⟨⟨e1, hi1, hf⟩, u, v, w, rfl⟩
      refine s_ret ev_c fun H3 e3 => ?_
      rw [List.take_of_length_le (by simp)] at hf
      rw [hfn, hf] at k
      exact k H3 (e1.trans e3)

abbrev s_is_possible : Stmt := top 53
/-- 0 instance; 1 agent; 2 profile -/
theorem sc_is_possible : FnScope ["instance", "agent", "profile"] ["instance", "agent", "profile"] (defScope s_is_possible) := ⟨rfl, rfl, rfl, by decide +kernel, rfl, by decide +kernel, by decide +kernel⟩
def rIs (C : Addr) (vs : List V) (H : Hp) (z : V) : Prop := ∃ p a i pr t, vs = [.ref p, .int (i : Nat), .ref pr] ∧ (IA C H p a ∧ H pr = some (.lst (nl t))) ∧ (Pf a t ∧ i < a.agentCount) ∧ z = .bl (a.negativeCycle i t).isNone
theorem mo_Is : Mo (rIs C) := fun vs H H' z e ⟨p, a, i, t, j, h, ⟨I, J⟩, q⟩ => ⟨p, a, i, t, j, h, ⟨I.mono e, e _ _ J⟩, q⟩
theorem ok_is_possible (T : Txt K mg C D) (O_negative_cycle : Own P w K mg base "negative_cycle" 5 ["instance", "agent", "profile", "size"] (pO (rNC C))) (F : Fun K "is_possible" "is_possible" s_is_possible f fd) : FnOk P w K mg base CX0 6 f fd ["instance", "agent", "profile"] (pV (rIs C)) := by
  refine F.ok sc_is_possible (fun vs H Q E h => ?_) (fun cdv A outer s H vs Q E hr h => ?_)
  · obtain ⟨z, ⟨p, a, i, pr, t, rfl, _⟩, _⟩ := h
    rfl
  · obtain ⟨z, ⟨p, a, i, pr, t, rfl, ⟨I, J⟩, ⟨hp, hi⟩, rfl⟩, k⟩ := h
    refine ⟨_, (pss_one (ps_ret (pe_cmpR op_isN (pe_own O_negative_cycle (hr.mono (by decide)) (pa_cons (pv 0) (pa_cons (pv 1) (pa_cons (pv 2) (pa_cons (pe_cst T.cMAX_TYPES) pa_nil))))) pe_non (nomark _)))), ?_⟩
    have rel : rNC C [.ref p, .int (i : Nat), .ref pr, .int (4 : Nat)] H ((negCyc a i t 4).map nl) := ⟨p, a, i, pr, t, 4, rfl, ⟨I, J⟩, ⟨hp, hi, by omega, by omega⟩, rfl⟩
    rw [neg_four (typeCount_le I.1 hi)] at rel
    cases hc : a.negativeCycle i t with
    | none =>
      rw [hc] at rel k
      exact s_ret (ev_op (ev_ownO mo_NC (ea_cons (ev_var rfl) (ea_cons (ev_var rfl) (ea_cons (ev_var rfl) (ea_cons ev_c ea_nil)))) rel) ev_c rv_isN) k
    | some c =>
      rw [hc] at rel k
      refine s_ret (v := .bl false) (fun H1 e1 Q1 q1 => el_ownO mo_NC (ea_cons (ev_var rfl) (ea_cons (ev_var rfl) (ea_cons (ev_var rfl) (ea_cons ev_c ea_nil)))) rel H1 e1 _ fun pc H2 hpc e2 h2 => ⟨rfl, ?_⟩) k
      have e : decide (V.ref pc = .non) = false := by simp
      rw [e]
      exact q1 H2 e2

abbrev s_edge : Stmt := top 54
/-- 0 instance; 1 agent; 2 profile; 3 kind; 4 other -/
theorem sc_edge : FnScope ["instance", "agent", "profile", "kind", "other"] ["instance", "agent", "profile", "kind", "other"] (defScope s_edge) := ⟨rfl, rfl, rfl, by decide +kernel, rfl, by decide +kernel, by decide +kernel⟩
def rEd (C : Addr) (vs : List V) (H : Hp) (z : V) : Prop := ∃ p a i pr t k l, vs = [.ref p, .int (i : Nat), .ref pr, .int (k : Nat), .int (l : Nat)] ∧ (IA C H p a ∧ H pr = some (.lst (nl t))) ∧ (Pf a t ∧ i < a.agentCount ∧ k < a.typeCount i ∧ l < a.typeCount i) ∧ z = .int (los a i t l k)
theorem mo_Ed : Mo (rEd C) := fun vs H H' z e ⟨p, a, i, t, j, m, n, h, ⟨I, J⟩, q⟩ => ⟨p, a, i, t, j, m, n, h, ⟨I.mono e, e _ _ J⟩, q⟩
theorem ok_edge (T : Txt K mg C D) (O_loss : Own P w K mg base "loss" 3 ["instance", "agent", "profile", "kind", "other"] (pV (rLO C))) (F : Fun K "edge" "edge" s_edge f fd) : FnOk P w K mg base CX0 4 f fd ["instance", "agent", "profile", "kind", "other"] (pV (rEd C)) := by
  refine F.ok sc_edge (fun vs H Q E h => ?_) (fun cdv A outer s H vs Q E hr h => ?_)
  · obtain ⟨z, ⟨p, a, i, pr, t, kk, l, rfl, _⟩, _⟩ := h
    rfl
  · obtain ⟨z, ⟨p, a, i, pr, t, kk, l, rfl, ⟨I, J⟩, ⟨hp, hi, hk, hl⟩, rfl⟩, k⟩ := h
    refine ⟨_, (pss_one (ps_ret (pe_own O_loss (hr.mono (by decide)) (pa_cons (pv 0) (pa_cons (pv 1) (pa_cons (pv 2) (pa_cons (pv 4) (pa_cons (pv 3) pa_nil)))))))), ?_⟩
    exact s_ret (ev_own mo_LO (ea_cons (ev_var rfl) (ea_cons (ev_var rfl) (ea_cons (ev_var rfl) (ea_cons (ev_var rfl) (ea_cons (ev_var rfl) ea_nil))))) ⟨p, a, i, pr, t, l, kk, rfl, ⟨I, J⟩, ⟨hp, hi, hl, hk⟩, rfl⟩) k

abbrev s_nearer : Stmt := top 55
/-- 0 instance; 1 agent; 2 profile; 3 lengths; 4 kind; 5 found; 6 before; 7 length -/
theorem sc_nearer : FnScope ["instance", "agent", "profile", "lengths", "kind", "found", "before", "length"] ["instance", "agent", "profile", "lengths", "kind"] (defScope s_nearer) := ⟨rfl, rfl, rfl, by decide +kernel, rfl, by decide +kernel, by decide +kernel⟩
def rNe (C : Addr) (vs : List V) (H : Hp) (z : V) : Prop := ∃ p a i pr t pl ds l, vs = [.ref p, .int (i : Nat), .ref pr, .ref pl, .int (l : Nat)] ∧ (IA C H p a ∧ H pr = some (.lst (nl t)) ∧ H pl = some (.lst (il ds))) ∧ (Pf a t ∧ i < a.agentCount ∧ ds.length = a.typeCount i ∧ l < a.typeCount i) ∧
  z = .int (near (a.typeCount i) (los a i t) (fun x => ds.getD x 0) l)
theorem mo_Ne : Mo (rNe C) := fun vs H H' z e ⟨p, a, i, t, j, m, n, o, h, ⟨I, J, L⟩, q⟩ => ⟨p, a, i, t, j, m, n, o, h, ⟨I.mono e, e _ _ J, e _ _ L⟩, q⟩
theorem getI {ds : List Int} {i : Nat} (h : i < ds.length) : (il ds)[i]? = some (.int (ds.getD i 0)) := get_map (by rw [List.getD_eq_getElem?_getD, List.getElem?_eq_getElem h]; rfl)
theorem getI_of {ds : List Int} {i : Nat} {x : Int} (h : ds[i]? = some x) : ds.getD i 0 = x := by rw [List.getD_eq_getElem?_getD, h]; rfl
theorem rc_min {a b : Int} {H : Hp} : RC (fun xs H Q => ∃ i j, xs = [.int i, .int j] ∧ Q (.int (if j < i then j else i)) H) [.int a, .int b] H (.int (Su196.minInt a b)) := fun H1 e Q q => ⟨a, b, rfl, q H1 (Ex.refl H1)⟩
theorem ok_nearer (T : Txt K mg C D) (O_edge : Own P w K mg base "edge" 4 ["instance", "agent", "profile", "kind", "other"] (pV (rEd C))) (F : Fun K "nearer" "nearer" s_nearer f fd) : FnOk P w K mg base CX0 5 f fd ["instance", "agent", "profile", "lengths", "kind"] (pV (rNe C)) := by
  refine F.ok sc_nearer (fun vs H Q E h => ?_) (fun cdv A outer s H vs Q E hr h => ?_)
  · obtain ⟨z, ⟨p, a, i, pr, t, pl, ds, l, rfl, _⟩, _⟩ := h
    rfl
  · obtain ⟨z, ⟨p, a, ag, pr, t, pl, ds, l, rfl, ⟨I, J, L⟩, ⟨hp, hag, hd, hl⟩, rfl⟩, k⟩ := h
    refine ⟨_, (pss_cons (ps_set (i := 5) sc_nearer.nd rfl (Or.inl rfl) (pe_ix ix_list (pv 3) (pv 4) (fun _ _ => rfl))) (pss_cons (ps_for PassesOwn.never rfl (pi_enum (by rfl) T.enumerate (pa_cons (pv 3) pa_nil)) (pg_tup rfl (pgs_cons (pg_name (i := 6) sc_nearer.nd rfl (Or.inl rfl)) (pgs_cons (pg_name (i := 7) sc_nearer.nd rfl (Or.inl rfl)) pgs_nil))) (pss_one (ps_set (i := 5) sc_nearer.nd rfl (Or.inl rfl) (pe_callB (call_min2 rfl) (by rfl) T.min PyProof.Rows.boot_min (pa_cons (pv 5) (pa_cons (pe_op op_add (pv 7) (pe_own O_edge (hr.mono (by decide)) (pa_cons (pv 0) (pa_cons (pv 1) (pa_cons (pv 2) (pa_cons (pv 6) (pa_cons (pv 4) pa_nil))))))) pa_nil)))))) (pss_one (ps_ret (pv 5))))), ?_⟩
    refine q_asg (ev_at (ev_var rfl) (ev_var rfl) L (getI (by rw [hd]; exact hl))) fun H1 e1 => q_forE (ea_cons (ev_var rfl) ea_nil) (sq_of (e1 _ _ L))
      (fun i σ H' => Ex H H' ∧ ∃ u v, σ = [some (.ref p), some (.int (ag : Nat)), some (.ref pr), some (.ref pl), some (.int (l : Nat)), some (.int ((List.range i).foldl (fun b x => Su196.minInt b (ds.getD x 0 + los a ag t l x)) (ds.getD l 0))), u, v]) (fun H2 e2 => ⟨e1.trans e2, none, none, rfl⟩) (fun i σ H' _ q => sq_of (q.1 _ _ L)) ?_ ?_
    · rintro i y σ H' H2 hy ⟨e2, u, v, rfl⟩ e3
      obtain ⟨m, hm, rfl⟩ := map_get hy
      have hi : i < a.typeCount ag := by rw [← hd]; exact (List.getElem?_eq_some_iff.mp hm).1
      refine s_asg (ev_cb (ea_cons (ev_var rfl) (ea_cons (ev_op (ev_var rfl) (ev_own mo_Ed (ea_cons (ev_var rfl) (ea_cons (ev_var rfl) (ea_cons (ev_var rfl) (ea_cons (ev_var rfl) (ea_cons (ev_var rfl) ea_nil))))) ⟨p, a, ag, pr, t, i, l, rfl, ⟨I.mono (e2.trans e3), (e2.trans e3) _ _ J⟩, ⟨hp, hag, hi, hl⟩, rfl⟩) rv_I0) ea_nil)) rc_min) fun H3 e4 => ⟨(e2.trans e3).trans e4, some (.int (i : Nat)), some (.int m), ?_⟩
      rw [List.range_succ, List.foldl_append]
      rw [← getI_of hm]
      rfl
    · rintro σ H' ⟨e2, u, v, rfl⟩
      refine s_ret (ev_var rfl) fun H3 e3 => ?_
      have := k H3 (e2.trans e3)
      rw [List.length_map, hd]
      exact this
end
end Tp
namespace Tp
open PySem PySem.Spec PyProof.Rows L2 Evl
section
variable {P : Program} {w : World} {K : PySem.W.Frag} {mg : Str → Option Value} {base : Heap} {C D : Addr} {f : Addr} {fd : FuncData}
abbrev s_distances : Stmt := top 56
/-- 0 instance; 1 agent; 2 profile; 3 kind; 4 many; 5 lengths; 6 turn; 7 other -/
theorem sc_distances : FnScope ["instance", "agent", "profile", "kind", "many", "lengths", "turn", "other"] ["instance", "agent", "profile", "kind"] (defScope s_distances) := ⟨rfl, rfl, rfl, by decide +kernel, rfl, by decide +kernel, by decide +kernel⟩
def rDi (C : Addr) (vs : List V) (H : Hp) (z : List V) : Prop := ∃ p a i pr t k, vs = [.ref p, .int (i : Nat), .ref pr, .int (k : Nat)] ∧ (IA C H p a ∧ H pr = some (.lst (nl t))) ∧ (Pf a t ∧ i < a.agentCount ∧ k < a.typeCount i) ∧ z = il ((List.range (a.typeCount i)).map (dis (a.typeCount i) (los a i t) k (a.typeCount i)))
theorem mo_Di : Mo (rDi C) := fun vs H H' z e ⟨p, a, i, t, j, m, h, ⟨I, J⟩, q⟩ => ⟨p, a, i, t, j, m, h, ⟨I.mono e, e _ _ J⟩, q⟩
theorem near_list {n : Nat} {L : Nat → Nat → Int} (d : Nat → Int) {l : Nat} (hl : l < n) : near n L (fun x => ((List.range n).map d).getD x 0) l = near n L d l :=
  near_congr (fun x hx => getD_map_range d hx) hl
theorem ok_distances (T : Txt K mg C D) (O_kind_count : Own P w K mg base "kind_count" 1 ["instance", "agent"] (pV (rKC C))) (O_edge : Own P w K mg base "edge" 4 ["instance", "agent", "profile", "kind", "other"] (pV (rEd C))) (O_nearer : Own P w K mg base "nearer" 5 ["instance", "agent", "profile", "lengths", "kind"] (pV (rNe C))) (F : Fun K "distances" "distances" s_distances f fd) : FnOk P w K mg base CX0 6 f fd ["instance", "agent", "profile", "kind"] (pL (rDi C)) := by
  refine F.ok sc_distances (fun vs H Q E h => ?_) (fun cdv A outer s H vs Q E hr h => ?_)
  · obtain ⟨z, ⟨p, a, i, pr, t, kk, rfl, _⟩, _⟩ := h
    rfl
  · obtain ⟨z, ⟨p, a, ag, pr, t, kk, rfl, ⟨I, J⟩, ⟨hp, hag, hk⟩, rfl⟩, k⟩ := h
    refine ⟨_, (pss_cons (ps_set (i := 4) sc_distances.nd rfl (Or.inl rfl) (pe_own O_kind_count (hr.mono (by decide)) (pa_cons (pv 0) (pa_cons (pv 1) pa_nil)))) (pss_cons (ps_set (i := 5) sc_distances.nd rfl (Or.inr rfl) (pe_lc (own := [("other", 7)]) (g := gName 7) (tt := tYes) rfl sc_distances.nd (pi_range1 rfl T.range (pa_cons (pv 4) pa_nil)) (blkOk_by (N := ["instance", "agent", "profile", "kind", "many", "lengths", "turn", "other"]) (sc := defScope s_distances) (by decide +kernel)) (fun _ _ _ _ _ => pg_name (i := 7) sc_distances.nd rfl (Or.inl rfl)) (fun _ _ _ _ _ => pts_nil) (fun _ _ _ _ _ => (pe_own O_edge (hr.mono (by decide)) (pa_cons (pv 0) (pa_cons (pv 1) (pa_cons (pv 2) (pa_cons (pv 3) (pa_cons (pv 7) pa_nil))))))))) (pss_cons (ps_for PassesOwn.never rfl (pi_range1 rfl T.range (pa_cons (pv 4) pa_nil)) (pg_name (i := 6) sc_distances.nd rfl (Or.inl rfl)) (pss_one (ps_set (i := 5) sc_distances.nd rfl (Or.inr rfl) (pe_lc (own := [("other", 7)]) (g := gName 7) (tt := tYes) rfl sc_distances.nd (pi_range1 rfl T.range (pa_cons (pv 4) pa_nil)) (blkOk_by (N := ["instance", "agent", "profile", "kind", "many", "lengths", "turn", "other"]) (sc := defScope s_distances) (by decide +kernel)) (fun _ _ _ _ _ => pg_name (i := 7) sc_distances.nd rfl (Or.inl rfl)) (fun _ _ _ _ _ => pts_nil) (fun _ _ _ _ _ => (pe_own O_nearer (hr.mono (by decide)) (pa_cons (pv 0) (pa_cons (pv 1) (pa_cons (pv 2) (pa_cons (pv 5) (pa_cons (pv 7) pa_nil))))))))))) (pss_one (ps_ret (pv 5)))))), ?_⟩
    have h4 := typeCount_le I.1 hag
    generalize hn : a.typeCount ag = n at *
    refine q_asg (ev_own mo_KC (ea_cons (ev_var rfl) (ea_cons (ev_var rfl) ea_nil)) ⟨p, a, ag, rfl, I, hag, by rw [hn]⟩) fun H1 e1 => ?_
    refine q_asgL (el_is (el_lcR1 (fun _ => true) (fun o => .int (dis n (los a ag t) kk 0 o)) (ea_cons (ev_var rfl) ea_nil) (by omega) (fun x => rfl) (fun i H2 e2 hi => et_yes) (fun i H2 e2 hi _ =>
      ev_own mo_Ed (ea_cons (ev_var rfl) (ea_cons (ev_var rfl) (ea_cons (ev_var rfl) (ea_cons (ev_var rfl) (ea_cons (ev_var rfl) ea_nil))))) ⟨p, a, ag, pr, t, kk, i, rfl, ⟨I.mono (e1.trans e2), (e1.trans e2) _ _ J⟩, ⟨hp, hag, by omega, by omega⟩, rfl⟩)) (ys := il ((List.range n).map (dis n (los a ag t) kk 0))) (by rw [given_all, Int.toNat_natCast]; simp)) fun l H2 hl e2 h2 => ?_
    refine q_forR1 (n := (n : Nat)) (ea_cons (ev_var rfl) ea_nil) (by omega)
      (fun i σ H' => (Ex H H' ∧ ∃ q, H q = none ∧ H' q = some (.lst (il ((List.range n).map (dis n (los a ag t) kk i)))) ∧ ∃ v w, σ = [some (.ref p), some (.int (ag : Nat)), some (.ref pr), some (.int (kk : Nat)), some (.int (n : Nat)), some (.ref q), v, w]))
      (fun H3 e3 => ⟨(e1.trans e2).trans e3, l, fresh_back e1 hl, e3 _ _ h2, none, none, rfl⟩) ?_ ?_
    · rintro i σ H3 hi ⟨e3, q, hq, h3, v, w, rfl⟩
      refine s_asgL (el_is (el_lcR1 (fun _ => true) (fun o => .int (dis n (los a ag t) kk (i + 1) o)) (ea_cons (ev_var rfl) ea_nil) (by omega) (fun x => rfl) (fun i H2 e2 hi => et_yes) (fun o H4 e4 ho _ =>
        ev_own mo_Ne (ea_cons (ev_var rfl) (ea_cons (ev_var rfl) (ea_cons (ev_var rfl) (ea_cons (ev_var rfl) (ea_cons (ev_var rfl) ea_nil))))) ⟨p, a, ag, pr, t, q, (List.range n).map (dis n (los a ag t) kk i), o, rfl, ⟨I.mono (e3.trans e4), (e3.trans e4) _ _ J, e4 _ _ h3⟩, ⟨hp, hag, by simp [hn], by omega⟩, ?_⟩)) (ys := il ((List.range n).map (dis n (los a ag t) kk (i + 1)))) (by rw [given_all, Int.toNat_natCast]; simp)) fun l2 H4 hl2 e4 h4 => ⟨e3.trans e4, l2, fresh_back e3 hl2, h4, _, _, rfl⟩
      rw [hn, near_list _ (by omega)]
      rfl
    · rintro σ H3 ⟨e3, q, hq, h3, v, w, rfl⟩
      rw [Int.toNat_natCast] at h3
      refine s_ret (ev_var rfl) fun H4 e4 => ?_
      exact k q H4 hq (e3.trans e4) (e4 _ _ h3)

abbrev s_greatest_payment : Stmt := top 57
/-- 0 instance; 1 agent; 2 profile -/
theorem sc_greatest_payment : FnScope ["instance", "agent", "profile"] ["instance", "agent", "profile"] (defScope s_greatest_payment) := ⟨rfl, rfl, rfl, by decide +kernel, rfl, by decide +kernel, by decide +kernel⟩
def rGP (C : Addr) (vs : List V) (H : Hp) (z : V) : Prop := ∃ p a i pr t, vs = [.ref p, .int (i : Nat), .ref pr] ∧ (IA C H p a ∧ H pr = some (.lst (nl t))) ∧ (Pf a t ∧ i < a.agentCount ∧ a.negativeCycle i t = none) ∧ z = .int (a.distance i t 0 (t.getD i 0))
theorem mo_GP : Mo (rGP C) := fun vs H H' z e ⟨p, a, i, t, j, h, ⟨I, J⟩, q⟩ => ⟨p, a, i, t, j, h, ⟨I.mono e, e _ _ J⟩, q⟩
theorem ok_greatest_payment (T : Txt K mg C D) (O_distances : Own P w K mg base "distances" 6 ["instance", "agent", "profile", "kind"] (pL (rDi C))) (F : Fun K "greatest_payment" "greatest_payment" s_greatest_payment f fd) : FnOk P w K mg base CX0 7 f fd ["instance", "agent", "profile"] (pV (rGP C)) := by
  refine F.ok sc_greatest_payment (fun vs H Q E h => ?_) (fun cdv A outer s H vs Q E hr h => ?_)
  · obtain ⟨z, ⟨p, a, i, pr, t, rfl, _⟩, _⟩ := h
    rfl
  · obtain ⟨z, ⟨p, a, i, pr, t, rfl, ⟨I, J⟩, ⟨hp, hi, hn⟩, rfl⟩, k⟩ := h
    refine ⟨_, (pss_one (ps_ret (pe_ix ix_list (pe_own O_distances (hr.mono (by decide)) (pa_cons (pv 0) (pa_cons (pv 1) (pa_cons (pv 2) (pa_cons pe_int pa_nil))))) (pe_ix ix_list (pv 2) (pv 1) (fun _ _ => rfl)) (fun _ _ => rfl)))), ?_⟩
    have hti := hp.2 i hi
    rw [distance_is (typeCount_le I.1 hi) hn (by omega) hti] at k
    exact s_ret (ev_atL (el_own mo_Di (ea_cons (ev_var rfl) (ea_cons (ev_var rfl) (ea_cons (ev_var rfl) (ea_cons ev_c ea_nil)))) ⟨p, a, i, pr, t, 0, rfl, ⟨I, J⟩, ⟨hp, hi, by omega⟩, rfl⟩) (ev_at (ev_var rfl) (ev_var rfl) J (get_map (get_of (by rw [hp.1]; exact hi))))
      (get_map (f := V.int) (by rw [List.getElem?_map, List.getElem?_range hti]; rfl))) k

abbrev s_least_payment : Stmt := top 58
/-- 0 instance; 1 agent; 2 profile -/
theorem sc_least_payment : FnScope ["instance", "agent", "profile"] ["instance", "agent", "profile"] (defScope s_least_payment) := ⟨rfl, rfl, rfl, by decide +kernel, rfl, by decide +kernel, by decide +kernel⟩
def rLP (C : Addr) (vs : List V) (H : Hp) (z : V) : Prop := ∃ p a i pr t, vs = [.ref p, .int (i : Nat), .ref pr] ∧ (IA C H p a ∧ H pr = some (.lst (nl t))) ∧ (Pf a t ∧ i < a.agentCount ∧ a.negativeCycle i t = none) ∧ z = .int (-(a.distance i t (t.getD i 0) 0))
theorem mo_LP : Mo (rLP C) := fun vs H H' z e ⟨p, a, i, t, j, h, ⟨I, J⟩, q⟩ => ⟨p, a, i, t, j, h, ⟨I.mono e, e _ _ J⟩, q⟩
theorem ok_least_payment (T : Txt K mg C D) (O_distances : Own P w K mg base "distances" 6 ["instance", "agent", "profile", "kind"] (pL (rDi C))) (F : Fun K "least_payment" "least_payment" s_least_payment f fd) : FnOk P w K mg base CX0 7 f fd ["instance", "agent", "profile"] (pV (rLP C)) := by
  refine F.ok sc_least_payment (fun vs H Q E h => ?_) (fun cdv A outer s H vs Q E hr h => ?_)
  · obtain ⟨z, ⟨p, a, i, pr, t, rfl, _⟩, _⟩ := h
    rfl
  · obtain ⟨z, ⟨p, a, i, pr, t, rfl, ⟨I, J⟩, ⟨hp, hi, hn⟩, rfl⟩, k⟩ := h
    refine ⟨_, (pss_one (ps_ret (pe_op op_sub pe_int (pe_ix ix_list (pe_own O_distances (hr.mono (by decide)) (pa_cons (pv 0) (pa_cons (pv 1) (pa_cons (pv 2) (pa_cons (pe_ix ix_list (pv 2) (pv 1) (fun _ _ => rfl)) pa_nil))))) pe_int (fun _ _ => rfl))))), ?_⟩
    have hti := hp.2 i hi
    have h0 : 0 < a.typeCount i := by omega
    rw [distance_is (typeCount_le I.1 hi) hn hti h0] at k
    refine s_ret (ev_is (ev_op ev_c (ev_atL (i := 0) (v := .int (dis (a.typeCount i) (los a i t) (t.getD i 0) (a.typeCount i) 0)) (el_own mo_Di (ea_cons (ev_var rfl) (ea_cons (ev_var rfl) (ea_cons (ev_var rfl) (ea_cons (ev_at (ev_var rfl) (ev_var rfl) J (get_map (get_of (by rw [hp.1]; exact hi)))) ea_nil)))) ⟨p, a, i, pr, t, _, rfl, ⟨I, J⟩, ⟨hp, hi, hti⟩, rfl⟩) ev_c
      (get_map (f := V.int) (by rw [List.getElem?_map, List.getElem?_range h0]; rfl))) rv_I0) ?_) k
    rw [Int.zero_sub]

abbrev s_are_payments : Stmt := top 59
/-- 0 instance; 1 agent; 2 payments; 3 payment -/
theorem sc_are_payments : FnScope ["instance", "agent", "payments", "payment"] ["instance", "agent", "payments"] (defScope s_are_payments) := ⟨rfl, rfl, rfl, by decide +kernel, rfl, by decide +kernel, by decide +kernel⟩
def rAY (C : Addr) (vs : List V) (H : Hp) (z : V) : Prop := ∃ p a i pr ns, vs = [.ref p, .int (i : Nat), .ref pr] ∧ (IA C H p a ∧ H pr = some (.lst (il ns))) ∧ (i < a.agentCount ∧ ns.length ≤ 1000) ∧ z = .bl (decide (ns.length = a.typeCount i) && ns.all fun v => decide (-1000 ≤ v) && decide (v ≤ 1000))
theorem mo_AY : Mo (rAY C) := fun vs H H' z e ⟨p, a, i, t, j, h, ⟨I, J⟩, q⟩ => ⟨p, a, i, t, j, h, ⟨I.mono e, e _ _ J⟩, q⟩
theorem ok_are_payments (T : Txt K mg C D) (O_kind_count : Own P w K mg base "kind_count" 1 ["instance", "agent"] (pV (rKC C))) (F : Fun K "are_payments" "are_payments" s_are_payments f fd) : FnOk P w K mg base CX0 2 f fd ["instance", "agent", "payments"] (pV (rAY C)) := by
  refine F.ok sc_are_payments (fun vs H Q E h => ?_) (fun cdv A outer s H vs Q E hr h => ?_)
  · obtain ⟨z, ⟨p, a, i, pr, t, rfl, _⟩, _⟩ := h
    rfl
  · obtain ⟨z, ⟨p, a, ag, pr, t, rfl, ⟨I, J⟩, ⟨hag, hz⟩, rfl⟩, k⟩ := h
    refine ⟨_, (pss_cons (ps_if (pt_cmpR op_ne (pe_callB call_len_seq (by rfl) T.len PySem.boot_len (pa_cons (pv 2) pa_nil)) (pe_own O_kind_count (hr.mono (by decide)) (pa_cons (pv 0) (pa_cons (pv 1) pa_nil))) (nomark _)) (pss_one (ps_ret pe_bl)) pss_nil) (pss_one (ps_ret (pe_callB (cr_all rfl) (by rfl) T.all PyProof.Rows.boot_all (pa_cons (pe_lc (own := [("payment", 3)]) (g := gName 3) (tt := tYes) rfl sc_are_payments.nd (pi_list (pv 2)) (blkOk_by (N := ["instance", "agent", "payments", "payment"]) (sc := defScope s_are_payments) (by decide +kernel)) (fun _ _ _ _ _ => pg_name (i := 3) sc_are_payments.nd rfl (Or.inl rfl)) (fun _ _ _ _ _ => pts_nil) (fun _ _ _ _ _ => (pe_chain op_le op_le (pe_op op_sub pe_int (pe_cst T.cMAX_PAYMENT)) (pv 3) (pe_cst T.cMAX_PAYMENT)))) pa_nil))))), ?_⟩
    refine q_when (et_test (ev_op (ev_len (ev_var rfl) (sq_of J)) (ev_own mo_KC (ea_cons (ev_var rfl) (ea_cons (ev_var rfl) ea_nil)) ⟨p, a, ag, rfl, I, hag, rfl⟩) (rv_ne rfl))) (fun hb H1 e1 => ?_) (fun hb H1 e1 => ?_)
    · refine s_ret ev_c fun H2 e2 => ?_
      have := k H2 (e1.trans e2)
      have e : decide (t.length = a.typeCount ag) = false := by
        simp at hb
        simp
        omega
      rwa [e, Bool.false_and] at this
    · have e : decide (t.length = a.typeCount ag) = true := by
        simp at hb
        simp
        omega
      refine s_ret (ev_allL (bs := t.map fun v => decide (-1000 ≤ v) && decide (v ≤ 1000)) (el_lcL (fun _ => true) (fun i => .bl (decide (-1000 ≤ t.getD i 0) && decide (t.getD i 0 ≤ 1000))) (ev_var rfl) (sq_of (e1 _ _ J)) (by simp; omega) (fun x => rfl) (fun i x H2 e2 hx => et_yes) (fun i x H2 e2 hx _ => ?_)) ?_) fun H2 e2 => ?_
      · obtain ⟨v, hv, rfl⟩ := map_get hx
        rw [getI_of hv]
        exact ev_chain (ev_op ev_c ev_c rv_I0) (ev_var rfl) ev_c
      · rw [given_all]
        refine List.ext_getElem (by simp) fun i h1 h2 => ?_
        simp at h1
        simp [List.getD_eq_getElem?_getD, h1]
      · have := k H2 (e1.trans e2)
        rw [e, Bool.true_and] at this
        rw [List.all_map]
        exact this

abbrev s_are_truthful : Stmt := top 60
/-- 0 instance; 1 agent; 2 profile; 3 payments; 4 kind; 5 payment; 6 other; 7 less -/
theorem sc_are_truthful : FnScope ["instance", "agent", "profile", "payments", "kind", "payment", "other", "less"] ["instance", "agent", "profile", "payments"] (defScope s_are_truthful) := ⟨rfl, rfl, rfl, by decide +kernel, rfl, by decide +kernel, by decide +kernel⟩
def rAT (C : Addr) (vs : List V) (H : Hp) (z : V) : Prop := ∃ p a i pr t py ns, vs = [.ref p, .int (i : Nat), .ref pr, .ref py] ∧ (IA C H p a ∧ H pr = some (.lst (nl t)) ∧ H py = some (.lst (il ns))) ∧ (Pf a t ∧ i < a.agentCount ∧ ns.length = a.typeCount i) ∧ z = .bl (a.areTruthful i t ns)
theorem mo_AT : Mo (rAT C) := fun vs H H' z e ⟨p, a, i, t, j, m, n, h, ⟨I, J, L⟩, q⟩ => ⟨p, a, i, t, j, m, n, h, ⟨I.mono e, e _ _ J, e _ _ L⟩, q⟩
theorem ok_are_truthful (T : Txt K mg C D) (O_loss : Own P w K mg base "loss" 3 ["instance", "agent", "profile", "kind", "other"] (pV (rLO C))) (F : Fun K "are_truthful" "are_truthful" s_are_truthful f fd) : FnOk P w K mg base CX0 4 f fd ["instance", "agent", "profile", "payments"] (pV (rAT C)) := by
  refine F.ok sc_are_truthful (fun vs H Q E h => ?_) (fun cdv A outer s H vs Q E hr h => ?_)
  · obtain ⟨z, ⟨p, a, i, pr, t, py, ns, rfl, _⟩, _⟩ := h
    rfl
  · obtain ⟨z, ⟨p, a, ag, pr, t, py, ns, rfl, ⟨I, J, L⟩, ⟨hp, hag, hn⟩, rfl⟩, k⟩ := h
    refine ⟨_, (pss_cons (ps_for PassesOwn.never rfl (pi_enum (by rfl) T.enumerate (pa_cons (pv 3) pa_nil)) (pg_tup rfl (pgs_cons (pg_name (i := 4) sc_are_truthful.nd rfl (Or.inl rfl)) (pgs_cons (pg_name (i := 5) sc_are_truthful.nd rfl (Or.inl rfl)) pgs_nil))) (pss_one (ps_for PassesOwn.never rfl (pi_enum (by rfl) T.enumerate (pa_cons (pv 3) pa_nil)) (pg_tup rfl (pgs_cons (pg_name (i := 6) sc_are_truthful.nd rfl (Or.inl rfl)) (pgs_cons (pg_name (i := 7) sc_are_truthful.nd rfl (Or.inl rfl)) pgs_nil))) (pss_one (ps_if (pt_cmpR op_gt (pe_op op_sub (pv 5) (pv 7)) (pe_own O_loss (hr.mono (by decide)) (pa_cons (pv 0) (pa_cons (pv 1) (pa_cons (pv 2) (pa_cons (pv 4) (pa_cons (pv 6) pa_nil)))))) (nomark _)) (pss_one (ps_ret pe_bl)) pss_nil))))) (pss_one (ps_ret pe_bl))), ?_⟩
    have tr : a.areTruthful ag t ns = true ↔ ∀ x, x < ns.length → ∀ y, y < ns.length → ns.getD x 0 - ns.getD y 0 ≤ a.loss ag t x y := by
      unfold Su196.Instance.areTruthful
      simp [List.all_eq_true, hn]
    refine q_forE (ea_cons (ev_var rfl) ea_nil) (sq_of L)
      (fun i σ H' => (Ex H H' ∧ ∀ x, x < i → ∀ y, y < ns.length → ns.getD x 0 - ns.getD y 0 ≤ a.loss ag t x y) ∧ ∃ u v w z, σ = [some (.ref p), some (.int (ag : Nat)), some (.ref pr), some (.ref py), u, v, w, z]) (fun H2 e2 => ⟨⟨e2, fun x hx => by omega⟩, none, none, none, none, rfl⟩) (fun i σ H' _ q => sq_of (q.1.1 _ _ L)) ?_ ?_
    · rintro i y σ H1 H2 hy ⟨⟨e1, w1⟩, u, v, w, z, rfl⟩ e2
      obtain ⟨m, hm, rfl⟩ := map_get hy
      have hi : i < ns.length := (List.getElem?_eq_some_iff.mp hm).1
      have em := getI_of hm
      refine s_forE (ea_cons (ev_var rfl) ea_nil) (sq_of ((e1.trans e2) _ _ L))
        (fun j σ H' => (Ex H H' ∧ ∀ y, y < j → ns.getD i 0 - ns.getD y 0 ≤ a.loss ag t i y) ∧ ∃ w z, σ = [some (.ref p), some (.int (ag : Nat)), some (.ref pr), some (.ref py), some (.int (i : Nat)), some (.int m), w, z]) (fun H3 e3 => ⟨⟨(e1.trans e2).trans e3, fun x hx => by omega⟩, w, z, rfl⟩) (fun i σ H' _ q => sq_of (q.1.1 _ _ L)) ?_ ?_
      · rintro j y σ H3 H4 hy ⟨⟨e3, w3⟩, w, z, rfl⟩ e4
        obtain ⟨m2, hm2, rfl⟩ := map_get hy
        have hj : j < ns.length := (List.getElem?_eq_some_iff.mp hm2).1
        have em2 := getI_of hm2
        refine s_when (et_test (ev_op (ev_op (ev_var rfl) (ev_var rfl) rv_I0) (ev_own mo_LO (ea_cons (ev_var rfl) (ea_cons (ev_var rfl) (ea_cons (ev_var rfl) (ea_cons (ev_var rfl) (ea_cons (ev_var rfl) ea_nil))))) ⟨p, a, ag, pr, t, i, j, rfl, ⟨I.mono (e3.trans e4), (e3.trans e4) _ _ J⟩, ⟨hp, hag, by omega, by omega⟩, rfl⟩) rv_I0)) (fun hb H5 e5 => ?_) (fun hb H5 e5 => ⟨⟨(e3.trans e4).trans e5, fun y hy => ?_⟩, _, _, rfl⟩)
        · refine s_ret ev_c fun H6 e6 => ?_
          have := k H6 (((e3.trans e4).trans e5).trans e6)
          have e : a.areTruthful ag t ns = false := by
            cases q : a.areTruthful ag t ns with
            | false => rfl
            | true =>
              have := tr.mp q i hi j hj
              have hb := of_decide_eq_true hb
              rw [em, em2] at this
              omega
          rwa [e] at this
        · by_cases ey : y = j
          · subst ey
            have hb := of_decide_eq_false hb
            rw [em, em2]
            omega
          · exact w3 y (by omega)
      · rintro σ H3 ⟨⟨e3, w3⟩, w, z, rfl⟩
        rw [List.length_map] at w3
        refine ⟨⟨e3, fun x hx y hyn => ?_⟩, _, _, _, _, rfl⟩
        by_cases ex : x = i
        · subst ex
          exact w3 y hyn
        · exact w1 x (by omega) y hyn
    · rintro σ H3 ⟨⟨e3, w3⟩, u, v, w, z, rfl⟩
      rw [List.length_map] at w3
      refine s_ret ev_c fun H4 e4 => ?_
      have := k H4 (e3.trans e4)
      rwa [tr.mpr w3] at this
end
end Tp
namespace Tp
open PySem PySem.Spec PyProof.Rows L2 Evl
section
variable {P : Program} {w : World} {K : PySem.W.Frag} {mg : Str → Option Value} {base : Heap} {C D : Addr} {f : Addr} {fd : FuncData}
/-- what is answered -/
def out (r : Su196.Result) : List Int := r.value :: r.fields
def ex (a : Su196.Instance) (op : Su196.Operation) : List V := il (out (Su196.execute a op).2)
theorem ready_ne {a : Su196.Instance} (h : a.isReady = true) : ∀ l ∈ a.types, l ≠ [] := ready_iff.mp h

abbrev s_answer_allocation : Stmt := top 63
/-- 0 instance; 1 rows; 2 profile -/
theorem sc_answer_allocation : FnScope ["instance", "rows", "profile"] ["instance", "rows"] (defScope s_answer_allocation) := ⟨rfl, rfl, rfl, by decide +kernel, rfl, by decide +kernel, by decide +kernel⟩
def rQA (C : Addr) (vs : List V) (H : Hp) (z : List V) : Prop := ∃ p a pw pr t, vs = [.ref p, .ref pw] ∧ (IA C H p a ∧ H pw = some (.lst [.ref pr]) ∧ H pr = some (.lst (nl t))) ∧ a.isReady = true ∧ z = ex a (.allocation t)
theorem mo_QA : Mo (rQA C) := fun vs H H' z e ⟨p, a, m, n, t, h, ⟨I, J, L⟩, q⟩ => ⟨p, a, m, n, t, h, ⟨I.mono e, e _ _ J, e _ _ L⟩, q⟩
theorem ex_allocation {a : Su196.Instance} {t : List Nat} (h : a.isReady = true) : ex a (.allocation t) = if a.isProfile t = true then [.int (a.allocated t : Nat)] else [.int (-22)] := by
  unfold ex Su196.execute out
  simp only [h]
  cases a.isProfile t <;> rfl
theorem el_if {σ : L2.St} {H : Hp} {tt : TT} {ta tb : TE} {b : Bool} {xs : List V} (h : EvT tt σ H b) (h1 : b = true → EvL ta σ H xs) (h2 : b = false → EvL tb σ H xs) : EvL (tIf tt ta tb) σ H xs := fun H1 e Q q => h H1 e _ fun H2 e2 => by
  cases b with
  | true => exact iteT (h1 rfl H2 (e.trans e2) Q fun p H3 hp e3 h3 => q p H3 (fresh_back e2 hp) (e2.trans e3) h3)
  | false => exact iteF (h2 rfl H2 (e.trans e2) Q fun p H3 hp e3 h3 => q p H3 (fresh_back e2 hp) (e2.trans e3) h3)
theorem ok_answer_allocation (T : Txt K mg C D) (O_is_profile : Own P w K mg base "is_profile" 1 ["instance", "profile"] (pV (rIP C))) (O_alternative_at : Own P w K mg base "alternative_at" 2 ["instance", "profile"] (pV (rAA C))) (F : Fun K "answer_allocation" "answer_allocation" s_answer_allocation f fd) : FnOk P w K mg base CX0 3 f fd ["instance", "rows"] (pL (rQA C)) := by
  refine F.ok sc_answer_allocation (fun vs H Q E h => ?_) (fun cdv A outer s H vs Q E hr h => ?_)
  · obtain ⟨z, ⟨p, a, pw, pr, t, rfl, _⟩, _⟩ := h
    rfl
  · obtain ⟨z, ⟨p, a, pw, pr, t, rfl, ⟨I, J, L⟩, hrd, rfl⟩, k⟩ := h
    refine ⟨_, (pss_cons (ps_set (i := 2) sc_answer_allocation.nd rfl (Or.inl rfl) (pe_ix ix_list (pv 1) pe_int (fun _ _ => rfl))) (pss_one (ps_ret (pe_ifExp (pt_val (pe_own O_is_profile (hr.mono (by decide)) (pa_cons (pv 0) (pa_cons (pv 2) pa_nil)))) (pe_lst (pa_cons (pe_own O_alternative_at (hr.mono (by decide)) (pa_cons (pv 0) (pa_cons (pv 2) pa_nil))) pa_nil)) (pe_lst (pa_cons (pe_cst T.cBAD_ARGUMENT) pa_nil)))))), ?_⟩
    rw [ex_allocation hrd] at k
    refine q_asg (ev_at (i := 0) (ev_var rfl) ev_c J rfl) fun H1 e1 => s_retL (el_if (et_B (ev_own mo_IP (ea_cons (ev_var rfl) (ea_cons (ev_var rfl) ea_nil)) ⟨p, a, pr, t, rfl, ⟨I.mono e1, e1 _ _ L⟩, rfl⟩)) (fun hb => ?_) (fun hb => ?_)) fun q H2 hq e2 h2 => k q H2 (fresh_back e1 hq) (e1.trans e2) h2
    · rw [if_pos hb]
      exact el_lst (ea_cons (ev_own mo_AA (ea_cons (ev_var rfl) (ea_cons (ev_var rfl) ea_nil)) ⟨p, a, pr, t, rfl, ⟨I.mono e1, e1 _ _ L⟩, pf_iff.mp hb, rfl⟩) ea_nil) (by simp)
    · rw [if_neg (by rw [hb]; exact Bool.false_ne_true)]
      exact el_lst (ea_cons ev_c ea_nil) (by simp)

/-- a target of any form = a new tuple -/
theorem q_asgT {σ : L2.St} {H : Hp} {te : TE} {g : TG} {tz : TS} {Dd : Ends} {xs : List V} (h : EvU te σ H xs) (k : ∀ p H1, H p = none → Ex H H1 → H1 p = some (.tup xs) → g (.ref p) σ H1 (tz Dd)) : tSeq (tAsg te g) tz Dd σ H :=
  h H (Ex.refl H) _ k
abbrev s_answer_loss : Stmt := top 64
/-- 0 instance; 1 numbers; 2 rows; 3 agent; 4 other; 5 profile -/
theorem sc_answer_loss : FnScope ["instance", "numbers", "rows", "agent", "other", "profile"] ["instance", "numbers", "rows"] (defScope s_answer_loss) := ⟨rfl, rfl, rfl, by decide +kernel, rfl, by decide +kernel, by decide +kernel⟩
def rQL (C : Addr) (vs : List V) (H : Hp) (z : List V) : Prop := ∃ p a pn i l pw pr t, vs = [.ref p, .ref pn, .ref pw] ∧ (IA C H p a ∧ H pn = some (.lst (nl [i, l])) ∧ H pw = some (.lst [.ref pr]) ∧ H pr = some (.lst (nl t))) ∧ a.isReady = true ∧ z = ex a (.misreportLoss i l t)
theorem mo_QL : Mo (rQL C) := fun vs H H' z e ⟨p, a, b, c, d, m, n, t, h, ⟨I, B, J, L⟩, q⟩ => ⟨p, a, b, c, d, m, n, t, h, ⟨I.mono e, e _ _ B, e _ _ J, e _ _ L⟩, q⟩
theorem ex_loss {a : Su196.Instance} {i l : Nat} {t : List Nat} (h : a.isReady = true) : ex a (.misreportLoss i l t) = if a.agentCount ≤ i ∨ a.typeCount i ≤ l then [.int (-2)] else if a.isProfile t = true then [.int 0, .int (a.loss i t (t.getD i 0) l)] else [.int (-22)] := by
  unfold ex Su196.execute out
  simp only [h]
  by_cases c : a.agentCount ≤ i ∨ a.typeCount i ≤ l
  · rw [if_pos c]
    simp [c, Su196.error]
  · rw [if_neg c]
    simp only [c]
    cases a.isProfile t <;> rfl
theorem ok_answer_loss (T : Txt K mg C D) (O_is_profile : Own P w K mg base "is_profile" 1 ["instance", "profile"] (pV (rIP C))) (O_loss : Own P w K mg base "loss" 3 ["instance", "agent", "profile", "kind", "other"] (pV (rLO C))) (O_has_agent : Own P w K mg base "has_agent" 1 ["instance", "agent"] (pV (rHA C))) (O_kind_count : Own P w K mg base "kind_count" 1 ["instance", "agent"] (pV (rKC C))) (F : Fun K "answer_loss" "answer_loss" s_answer_loss f fd) : FnOk P w K mg base CX0 4 f fd ["instance", "numbers", "rows"] (pL (rQL C)) := by
  refine F.ok sc_answer_loss (fun vs H Q E h => ?_) (fun cdv A outer s H vs Q E hr h => ?_)
  · obtain ⟨z, ⟨p, a, pn, i, l, pw, pr, t, rfl, _⟩, _⟩ := h
    rfl
  · obtain ⟨z, ⟨p, a, pn, i, l, pw, pr, t, rfl, ⟨I, B, J, L⟩, hrd, rfl⟩, k⟩ := h
    refine ⟨_, (pss_cons (ps_asg (pe_tup (pa_cons (pv 1) (pa_cons (pe_ix ix_list (pv 2) pe_int (fun _ _ => rfl)) pa_nil))) (pg_tup rfl (pgs_cons (pg_unl rfl (pgs_cons (pg_name (i := 3) sc_answer_loss.nd rfl (Or.inl rfl)) (pgs_cons (pg_name (i := 4) sc_answer_loss.nd rfl (Or.inl rfl)) pgs_nil))) (pgs_cons (pg_name (i := 5) sc_answer_loss.nd rfl (Or.inl rfl)) pgs_nil)))) (pss_cons (ps_if (PW.pt (pw_or (pt_not (pt_val (pe_own O_has_agent (hr.mono (by decide)) (pa_cons (pv 0) (pa_cons (pv 3) pa_nil))))) (pw_or1 (pt_cmpR op_ge (pv 4) (pe_own O_kind_count (hr.mono (by decide)) (pa_cons (pv 0) (pa_cons (pv 3) pa_nil))) (nomark _))))) (pss_one (ps_ret (pe_lst (pa_cons (pe_cst T.cNO_SUCH) pa_nil)))) pss_nil) (pss_cons (ps_if (pt_not (pt_val (pe_own O_is_profile (hr.mono (by decide)) (pa_cons (pv 0) (pa_cons (pv 5) pa_nil))))) (pss_one (ps_ret (pe_lst (pa_cons (pe_cst T.cBAD_ARGUMENT) pa_nil)))) pss_nil) (pss_one (ps_ret (pe_lst (pa_cons pe_int (pa_cons (pe_own O_loss (hr.mono (by decide)) (pa_cons (pv 0) (pa_cons (pv 3) (pa_cons (pv 5) (pa_cons (pe_ix ix_list (pv 5) (pv 3) (fun _ _ => rfl)) (pa_cons (pv 4) pa_nil)))))) pa_nil)))))))), ?_⟩
    rw [ex_loss hrd] at k
    refine q_asgT (eu_tup (ea_cons (ev_var rfl) (ea_cons (ev_at (i := 0) (ev_var rfl) ev_c J rfl) ea_nil)) (by simp)) fun q H1 hq e1 h1 => ?_
    refine ⟨q, _, rfl, st_of h1, rfl, _, _, rfl, ?_⟩
    refine ⟨pn, _, rfl, sq_of (e1 _ _ B), rfl, _, _, rfl, ?_⟩
    refine ⟨_, _, rfl, rfl, _, _, rfl, rfl, ?_⟩
    refine q_when (et_or (et_not (et_B (ev_own mo_HA (ea_cons (ev_var rfl) (ea_cons (ev_var rfl) ea_nil)) ⟨p, a, i, rfl, I.mono e1, rfl⟩))) (fun ha => et_test (ev_op (ev_var rfl) (ev_own mo_KC (ea_cons (ev_var rfl) (ea_cons (ev_var rfl) ea_nil)) ⟨p, a, i, rfl, I.mono e1, by simpa using ha, rfl⟩) rv_I0))) (fun hb H2 e2 => ?_) (fun hb H2 e2 => ?_)
    · have hc : a.agentCount ≤ i ∨ a.typeCount i ≤ l := by
        simp at hb
        omega
      rw [if_pos hc] at k
      exact s_retL (el_lst (ea_cons ev_c ea_nil) (by simp)) fun q H3 hq e3 h3 => k q H3 (fresh_back (e1.trans e2) hq) ((e1.trans e2).trans e3) h3
    · have hc : ¬ (a.agentCount ≤ i ∨ a.typeCount i ≤ l) := by
        simp at hb
        omega
      rw [if_neg hc] at k
      refine q_when (et_not (et_B (ev_own mo_IP (ea_cons (ev_var rfl) (ea_cons (ev_var rfl) ea_nil)) ⟨p, a, pr, t, rfl, ⟨I.mono (e1.trans e2), (e1.trans e2) _ _ L⟩, rfl⟩))) (fun hb2 H3 e3 => ?_) (fun hb2 H3 e3 => ?_)
      · rw [if_neg (by simpa using hb2)] at k
        exact s_retL (el_lst (ea_cons ev_c ea_nil) (by simp)) fun q H4 hq e4 h4 => k q H4 (fresh_back ((e1.trans e2).trans e3) hq) (((e1.trans e2).trans e3).trans e4) h4
      · have hpr : a.isProfile t = true := by simpa using hb2
        rw [if_pos hpr] at k
        have hp := pf_iff.mp hpr
        have e13 := (e1.trans e2).trans e3
        exact s_retL (el_lst (ea_cons ev_c (ea_cons (ev_own mo_LO (ea_cons (ev_var rfl) (ea_cons (ev_var rfl) (ea_cons (ev_var rfl) (ea_cons (ev_at (ev_var rfl) (ev_var rfl) (e13 _ _ L) (get_map (get_of (t := t) (i := i) (by rw [hp.1]; omega)))) (ea_cons (ev_var rfl) ea_nil))))) ⟨p, a, i, pr, t, _, l, rfl, ⟨I.mono e13, e13 _ _ L⟩, ⟨hp, by omega, hp.2 i (by omega), by omega⟩, rfl⟩) ea_nil)) (by simp)) fun q H4 hq e4 h4 => k q H4 (fresh_back e13 hq) (e13.trans e4) h4
end
end Tp
namespace Tp
open PySem PySem.Spec PyProof.Rows L2 Evl
section
variable {P : Program} {w : World} {K : PySem.W.Frag} {mg : Str → Option Value} {base : Heap} {C D : Addr} {f : Addr} {fd : FuncData}
def monoOut (o : Option (Nat × List Nat × List Nat)) : List V := match o with
  | none => [.int 1]
  | some (i, t, c) => .int 0 :: .int (i : Nat) :: (nl t ++ nl c)
theorem firstNeg_some {a : Su196.Instance} (o : Ok a) {size i : Nat} {t c : List Nat} (h : firstNeg a size = some (i, t, c)) : Pf a t ∧ c.length ≤ size := by
  unfold firstNeg at h
  obtain ⟨j, _, h2⟩ := List.exists_of_findSome?_eq_some h
  obtain ⟨u, h3, h4⟩ := List.exists_of_findSome?_eq_some h2
  obtain ⟨r, h5, h6⟩ := Option.map_eq_some_iff.mp h4
  cases h6
  exact ⟨baseProfiles_pf o h3, (cyup_good (List.mem_of_find?_eq_some h5)).2.1⟩
theorem mono_out {a : Su196.Instance} (o : Ok a) (size : Nat) : il (out (Su196.violationResult (firstNeg a size) a.agentCount)) = monoOut (firstNeg a size) := by
  cases h : firstNeg a size with
  | none => rfl
  | some z =>
    obtain ⟨i, t, c⟩ := z
    have ht := (firstNeg_some o h).1.1
    unfold Su196.violationResult monoOut out Su196.ok Su196.toInts
    simp [← ht]
    rfl
theorem q_par {σ : L2.St} {H : Hp} {ta : TA} {tz : TS} {Dd : Ends} {i j : Nat} {v w : V} (h : EvA ta σ H [v, w]) (k : ∀ H1, Ex H H1 → tz Dd ((σ.set i (some v)).set j (some w)) H1) : tSeq (tPar i j ta) tz Dd σ H :=
  h H (Ex.refl H) _ fun H1 e1 => ⟨v, w, rfl, k H1 e1⟩
abbrev s_answer_monotonic : Stmt := top 65
/-- 0 instance; 1 size; 2 found; 3 agent; 4 profile; 5 cycle -/
theorem sc_answer_monotonic : FnScope ["instance", "size", "found", "agent", "profile", "cycle"] ["instance", "size"] (defScope s_answer_monotonic) := ⟨rfl, rfl, rfl, by decide +kernel, rfl, by decide +kernel, by decide +kernel⟩
def rQM (C : Addr) (vs : List V) (H : Hp) (z : List V) : Prop := ∃ p a size, vs = [.ref p, .int (size : Nat)] ∧ IA C H p a ∧ (a.isReady = true ∧ 1 ≤ size ∧ size ≤ 4) ∧ z = monoOut (firstNeg a size)
theorem mo_QM : Mo (rQM C) := fun vs H H' z e ⟨p, a, n, h, I, q⟩ => ⟨p, a, n, h, I.mono e, q⟩
theorem ok_answer_monotonic (T : Txt K mg C D) (O_first_negative : Own P w K mg base "first_negative" 6 ["instance", "size"] (spFN C)) (F : Fun K "answer_monotonic" "answer_monotonic" s_answer_monotonic f fd) : FnOk P w K mg base CX0 7 f fd ["instance", "size"] (pL (rQM C)) := by
  refine F.ok sc_answer_monotonic (fun vs H Q E h => ?_) (fun cdv A outer s H vs Q E hr h => ?_)
  · obtain ⟨z, ⟨p, a, size, rfl, _⟩, _⟩ := h
    rfl
  · obtain ⟨z, ⟨p, a, size, rfl, I, ⟨hrd, hs1, hs4⟩, rfl⟩, k⟩ := h
    refine ⟨_, (pss_cons (ps_set (i := 2) sc_answer_monotonic.nd rfl (Or.inl rfl) (pe_own O_first_negative (hr.mono (by decide)) (pa_cons (pv 0) (pa_cons (pv 1) pa_nil)))) (pss_cons (ps_if (pt_cmpR op_isN (pv 2) pe_non (nomark _)) (pss_one (ps_ret (pe_lst (pa_cons pe_int pa_nil)))) pss_nil) (pss_cons (ps_asg (pv 2) (pg_tup rfl (pgs_cons (pg_name (i := 3) sc_answer_monotonic.nd rfl (Or.inl rfl)) (pgs_cons (pg_name (i := 4) sc_answer_monotonic.nd rfl (Or.inl rfl)) (pgs_cons (pg_name (i := 5) sc_answer_monotonic.nd rfl (Or.inl rfl)) pgs_nil))))) (pss_one (ps_ret (pe_op op_cat (pe_op op_cat (pe_lst (pa_cons pe_int (pa_cons (pv 3) pa_nil))) (pv 4)) (pv 5))))))), ?_⟩
    have hne := ready_ne hrd
    cases hf : firstNeg a size with
    | none =>
      rw [hf] at k
      refine q_asg (v := .non) (ev_call (ea_cons (ev_var rfl) (ea_cons (ev_var rfl) ea_nil)) fun H1 e1 Q1 q1 E1 => ⟨p, a, size, rfl, I.mono e1, ⟨hne, hs1, hs4⟩, by rw [hf]; exact q1⟩) fun H1 e1 => ?_
      refine q_when (et_test (ev_op (ev_var rfl) ev_c rv_isN)) (fun hb H2 e2 => ?_) (fun hb => absurd hb (by decide))
      exact s_retL (el_lst (ea_cons ev_c ea_nil) (by simp)) fun q H3 hq e3 h3 => k q H3 (fresh_back (e1.trans e2) hq) ((e1.trans e2).trans e3) h3
    | some z =>
      obtain ⟨i, t, c⟩ := z
      rw [hf] at k
      obtain ⟨hpt, hcl⟩ := firstNeg_some I.1 hf
      have h3 := I.1.ac3
      have ht := hpt.1
      refine ea_cons (ev_var rfl) (ea_cons (ev_var rfl) ea_nil) H (Ex.refl _) (fun vs H1 => (spFN C) (vs ++ []) H1 _ _) fun H1 e1 => ⟨p, a, size, rfl, I.mono e1, ⟨hne, hs1, hs4⟩, ?_⟩
      rw [hf]
      intro q pt pc H2 hq e2 h2 ht2 hc2
      refine q_when (et_test (ev_op (ev_var rfl) ev_c rv_isN)) (fun hb => absurd hb (by simp)) (fun hb H3 e3 => ?_)
      refine ⟨_, rfl, q, _, rfl, st_of (e3 _ _ h2), rfl, _, _, rfl, _, _, rfl, _, _, rfl, rfl, ?_⟩
      refine s_retL (el_is (el_catLV (el_catLV (el_lst (ea_cons ev_c (ea_cons (ev_var rfl) ea_nil)) (by simp)) (ev_var rfl) (e3 _ _ ht2) (by simp; omega)) (ev_var rfl) (e3 _ _ hc2) (by simp; omega)) ?_) fun r H4 hr4 e4 h4 => k r H4 (fresh_back ((e1.trans e2).trans e3) hr4) (((e1.trans e2).trans e3).trans e4) h4
      simp [monoOut]

abbrev s_answer_all_cycles : Stmt := top 71
/-- 0 instance -/
theorem sc_answer_all_cycles : FnScope ["instance"] ["instance"] (defScope s_answer_all_cycles) := ⟨rfl, rfl, rfl, by decide +kernel, rfl, by decide +kernel, by decide +kernel⟩
def rQ8 (C : Addr) (vs : List V) (H : Hp) (z : List V) : Prop := ∃ p a, vs = [.ref p] ∧ IA C H p a ∧ a.isReady = true ∧ z = ex a .isCyclicallyMonotonic
theorem mo_Q8 : Mo (rQ8 C) := fun vs H H' z e ⟨p, a, h, I, q⟩ => ⟨p, a, h, I.mono e, q⟩
theorem ok_answer_all_cycles (T : Txt K mg C D) (O_answer_monotonic : Own P w K mg base "answer_monotonic" 7 ["instance", "size"] (pL (rQM C))) (F : Fun K "answer_all_cycles" "answer_all_cycles" s_answer_all_cycles f fd) : FnOk P w K mg base CX0 8 f fd ["instance"] (pL (rQ8 C)) := by
  refine F.ok sc_answer_all_cycles (fun vs H Q E h => ?_) (fun cdv A outer s H vs Q E hr h => ?_)
  · obtain ⟨z, ⟨p, a, rfl, _⟩, _⟩ := h
    rfl
  · obtain ⟨z, ⟨p, a, rfl, I, hrd, rfl⟩, k⟩ := h
    refine ⟨_, (pss_one (ps_ret (pe_own O_answer_monotonic (hr.mono (by decide)) (pa_cons (pv 0) (pa_cons (pe_cst T.cMAX_TYPES) pa_nil))))), ?_⟩
    have e : ex a .isCyclicallyMonotonic = monoOut (firstNeg a 4) := by
      rw [← mono_out I.1, first_four I.1]
      unfold ex Su196.execute
      simp only [hrd]
      rfl
    rw [e] at k
    exact s_retL (el_own mo_QM (ea_cons (ev_var rfl) (ea_cons ev_c ea_nil)) ⟨p, a, 4, rfl, I, ⟨hrd, by omega, by omega⟩, rfl⟩) k

abbrev s_answer_short_cycles : Stmt := top 72
/-- 0 instance -/
theorem sc_answer_short_cycles : FnScope ["instance"] ["instance"] (defScope s_answer_short_cycles) := ⟨rfl, rfl, rfl, by decide +kernel, rfl, by decide +kernel, by decide +kernel⟩
def rQ9 (C : Addr) (vs : List V) (H : Hp) (z : List V) : Prop := ∃ p a, vs = [.ref p] ∧ IA C H p a ∧ a.isReady = true ∧ z = ex a .isWeaklyMonotonic
theorem mo_Q9 : Mo (rQ9 C) := fun vs H H' z e ⟨p, a, h, I, q⟩ => ⟨p, a, h, I.mono e, q⟩
theorem ok_answer_short_cycles (T : Txt K mg C D) (O_answer_monotonic : Own P w K mg base "answer_monotonic" 7 ["instance", "size"] (pL (rQM C))) (F : Fun K "answer_short_cycles" "answer_short_cycles" s_answer_short_cycles f fd) : FnOk P w K mg base CX0 8 f fd ["instance"] (pL (rQ9 C)) := by
  refine F.ok sc_answer_short_cycles (fun vs H Q E h => ?_) (fun cdv A outer s H vs Q E hr h => ?_)
  · obtain ⟨z, ⟨p, a, rfl, _⟩, _⟩ := h
    rfl
  · obtain ⟨z, ⟨p, a, rfl, I, hrd, rfl⟩, k⟩ := h
    refine ⟨_, (pss_one (ps_ret (pe_own O_answer_monotonic (hr.mono (by decide)) (pa_cons (pv 0) (pa_cons pe_int pa_nil))))), ?_⟩
    have e : ex a .isWeaklyMonotonic = monoOut (firstNeg a 2) := by
      rw [← mono_out I.1, first_two I.1]
      unfold ex Su196.execute
      simp only [hrd]
      rfl
    rw [e] at k
    exact s_retL (el_own mo_QM (ea_cons (ev_var rfl) (ea_cons ev_c ea_nil)) ⟨p, a, 2, rfl, I, ⟨hrd, by omega, by omega⟩, rfl⟩) k

abbrev s_answer_bounds : Stmt := top 66
/-- 0 instance; 1 numbers; 2 rows; 3 agent; 4 profile -/
theorem sc_answer_bounds : FnScope ["instance", "numbers", "rows", "agent", "profile"] ["instance", "numbers", "rows"] (defScope s_answer_bounds) := ⟨rfl, rfl, rfl, by decide +kernel, rfl, by decide +kernel, by decide +kernel⟩
def rQB (C : Addr) (vs : List V) (H : Hp) (z : List V) : Prop := ∃ p a pn i pw pr t, vs = [.ref p, .ref pn, .ref pw] ∧ (IA C H p a ∧ H pn = some (.lst (nl [i])) ∧ H pw = some (.lst [.ref pr]) ∧ H pr = some (.lst (nl t))) ∧ a.isReady = true ∧ z = ex a (.paymentBounds i t)
theorem mo_QB : Mo (rQB C) := fun vs H H' z e ⟨p, a, b, c, m, n, t, h, ⟨I, B, J, L⟩, q⟩ => ⟨p, a, b, c, m, n, t, h, ⟨I.mono e, e _ _ B, e _ _ J, e _ _ L⟩, q⟩
theorem ex_bounds {a : Su196.Instance} {i : Nat} {t : List Nat} (h : a.isReady = true) : ex a (.paymentBounds i t) = if a.agentCount ≤ i then [.int (-2)] else if a.isProfile t = true then (if a.negativeCycle i t = none then [.int 0, .int (a.distance i t 0 (t.getD i 0)), .int (-(a.distance i t (t.getD i 0) 0))] else [.int (-33)]) else [.int (-22)] := by
  unfold ex Su196.execute out
  simp only [h]
  by_cases c : a.agentCount ≤ i
  · rw [if_pos c]
    simp [c, Su196.error]
  · rw [if_neg c]
    simp only [c]
    cases a.isProfile t with
    | false => rfl
    | true => cases a.negativeCycle i t <;> rfl
theorem ok_answer_bounds (T : Txt K mg C D) (O_has_agent : Own P w K mg base "has_agent" 1 ["instance", "agent"] (pV (rHA C))) (O_is_profile : Own P w K mg base "is_profile" 1 ["instance", "profile"] (pV (rIP C))) (O_is_possible : Own P w K mg base "is_possible" 6 ["instance", "agent", "profile"] (pV (rIs C))) (O_greatest_payment : Own P w K mg base "greatest_payment" 7 ["instance", "agent", "profile"] (pV (rGP C))) (O_least_payment : Own P w K mg base "least_payment" 7 ["instance", "agent", "profile"] (pV (rLP C))) (F : Fun K "answer_bounds" "answer_bounds" s_answer_bounds f fd) : FnOk P w K mg base CX0 8 f fd ["instance", "numbers", "rows"] (pL (rQB C)) := by
  refine F.ok sc_answer_bounds (fun vs H Q E h => ?_) (fun cdv A outer s H vs Q E hr h => ?_)
  · obtain ⟨z, ⟨p, a, pn, i, pw, pr, t, rfl, _⟩, _⟩ := h
    rfl
  · obtain ⟨z, ⟨p, a, pn, i, pw, pr, t, rfl, ⟨I, B, J, L⟩, hrd, rfl⟩, k⟩ := h
    refine ⟨_, (pss_cons (ps_par (i := 3) (j := 4) rfl sc_answer_bounds.nd rfl rfl (by decide) rfl rfl (pa_cons (pe_ix ix_list (pv 1) pe_int (fun _ _ => rfl)) (pa_cons (pe_ix ix_list (pv 2) pe_int (fun _ _ => rfl)) pa_nil)) (by rfl)) (pss_cons (ps_if (pt_not (pt_val (pe_own O_has_agent (hr.mono (by decide)) (pa_cons (pv 0) (pa_cons (pv 3) pa_nil))))) (pss_one (ps_ret (pe_lst (pa_cons (pe_cst T.cNO_SUCH) pa_nil)))) pss_nil) (pss_cons (ps_if (pt_not (pt_val (pe_own O_is_profile (hr.mono (by decide)) (pa_cons (pv 0) (pa_cons (pv 4) pa_nil))))) (pss_one (ps_ret (pe_lst (pa_cons (pe_cst T.cBAD_ARGUMENT) pa_nil)))) pss_nil) (pss_cons (ps_if (pt_not (pt_val (pe_own O_is_possible (hr.mono (by decide)) (pa_cons (pv 0) (pa_cons (pv 3) (pa_cons (pv 4) pa_nil)))))) (pss_one (ps_ret (pe_lst (pa_cons (pe_cst T.cIMPOSSIBLE) pa_nil)))) pss_nil) (pss_one (ps_ret (pe_lst (pa_cons pe_int (pa_cons (pe_own O_greatest_payment (hr.mono (by decide)) (pa_cons (pv 0) (pa_cons (pv 3) (pa_cons (pv 4) pa_nil)))) (pa_cons (pe_own O_least_payment (hr.mono (by decide)) (pa_cons (pv 0) (pa_cons (pv 3) (pa_cons (pv 4) pa_nil)))) pa_nil)))))))))), ?_⟩
    rw [ex_bounds hrd] at k
    refine q_par (ea_cons (ev_at (i := 0) (ev_var rfl) ev_c B rfl) (ea_cons (ev_at (i := 0) (ev_var rfl) ev_c J rfl) ea_nil)) fun H1 e1 => ?_
    refine q_when (et_not (et_B (ev_own mo_HA (ea_cons (ev_var rfl) (ea_cons (ev_var rfl) ea_nil)) ⟨p, a, i, rfl, I.mono e1, rfl⟩))) (fun hb H2 e2 => ?_) (fun hb H2 e2 => ?_)
    · rw [if_pos (by simpa using hb)] at k
      exact s_retL (el_lst (ea_cons ev_c ea_nil) (by simp)) fun q H3 hq e3 h3 => k q H3 (fresh_back (e1.trans e2) hq) ((e1.trans e2).trans e3) h3
    · have hi : i < a.agentCount := by simpa using hb
      rw [if_neg (by omega)] at k
      refine q_when (et_not (et_B (ev_own mo_IP (ea_cons (ev_var rfl) (ea_cons (ev_var rfl) ea_nil)) ⟨p, a, pr, t, rfl, ⟨I.mono (e1.trans e2), (e1.trans e2) _ _ L⟩, rfl⟩))) (fun hb2 H3 e3 => ?_) (fun hb2 H3 e3 => ?_)
      · rw [if_neg (by simpa using hb2)] at k
        exact s_retL (el_lst (ea_cons ev_c ea_nil) (by simp)) fun q H4 hq e4 h4 => k q H4 (fresh_back ((e1.trans e2).trans e3) hq) (((e1.trans e2).trans e3).trans e4) h4
      · have hpr : a.isProfile t = true := by simpa using hb2
        rw [if_pos hpr] at k
        have hp := pf_iff.mp hpr
        have e13 := (e1.trans e2).trans e3
        refine q_when (et_not (et_B (ev_own mo_Is (ea_cons (ev_var rfl) (ea_cons (ev_var rfl) (ea_cons (ev_var rfl) ea_nil))) ⟨p, a, i, pr, t, rfl, ⟨I.mono e13, e13 _ _ L⟩, ⟨hp, hi⟩, rfl⟩))) (fun hb3 H4 e4 => ?_) (fun hb3 H4 e4 => ?_)
        · have hn : ¬ a.negativeCycle i t = none := by
            intro z
            rw [z] at hb3
            exact absurd hb3 (by decide)
          rw [if_neg hn] at k
          exact s_retL (el_lst (ea_cons ev_c ea_nil) (by simp)) fun q H5 hq e5 h5 => k q H5 (fresh_back (e13.trans e4) hq) ((e13.trans e4).trans e5) h5
        · have hn : a.negativeCycle i t = none := by
            cases z : a.negativeCycle i t with
            | none => rfl
            | some c =>
              rw [z] at hb3
              exact absurd hb3 (by simp)
          rw [if_pos hn] at k
          have e14 := e13.trans e4
          exact s_retL (el_lst (ea_cons ev_c (ea_cons (ev_own mo_GP (ea_cons (ev_var rfl) (ea_cons (ev_var rfl) (ea_cons (ev_var rfl) ea_nil))) ⟨p, a, i, pr, t, rfl, ⟨I.mono e14, e14 _ _ L⟩, ⟨hp, hi, hn⟩, rfl⟩) (ea_cons (ev_own mo_LP (ea_cons (ev_var rfl) (ea_cons (ev_var rfl) (ea_cons (ev_var rfl) ea_nil))) ⟨p, a, i, pr, t, rfl, ⟨I.mono e14, e14 _ _ L⟩, ⟨hp, hi, hn⟩, rfl⟩) ea_nil))) (by simp))
            fun q H5 hq e5 h5 => k q H5 (fresh_back e14 hq) (e14.trans e5) h5
end
end Tp
namespace Tp
open PySem PySem.Spec PyProof.Rows L2 Evl
section
variable {P : Program} {w : World} {K : PySem.W.Frag} {mg : Str → Option Value} {base : Heap} {C D : Addr} {f : Addr} {fd : FuncData}
theorem rc_int {b : Bool} {H : Hp} : RC (fun xs H Q => (∃ i, xs = [.int i] ∧ Q (.int i) H) ∨ ∃ k, xs = [.bl k] ∧ Q (.int (if k then 1 else 0)) H) [.bl b] H (.int (if b then 1 else 0)) := fun H1 e Q q => .inr ⟨b, rfl, q H1 (Ex.refl H1)⟩
abbrev s_answer_truthful : Stmt := top 67
/-- 0 instance; 1 numbers; 2 rows; 3 agent; 4 profile; 5 payments -/
theorem sc_answer_truthful : FnScope ["instance", "numbers", "rows", "agent", "profile", "payments"] ["instance", "numbers", "rows"] (defScope s_answer_truthful) := ⟨rfl, rfl, rfl, by decide +kernel, rfl, by decide +kernel, by decide +kernel⟩
def rQT (C : Addr) (vs : List V) (H : Hp) (z : List V) : Prop := ∃ p a pn i pw pr t py ns, vs = [.ref p, .ref pn, .ref pw] ∧ (IA C H p a ∧ H pn = some (.lst (nl [i])) ∧ H pw = some (.lst [.ref pr, .ref py]) ∧ H pr = some (.lst (nl t)) ∧ H py = some (.lst (il ns))) ∧ (a.isReady = true ∧ ns.length ≤ 1000) ∧ z = ex a (.areTruthfulPayments i t ns)
theorem mo_QT : Mo (rQT C) := fun vs H H' z e ⟨p, a, b, c, m, n, t, x, y, h, ⟨I, B, J, L, M⟩, q⟩ => ⟨p, a, b, c, m, n, t, x, y, h, ⟨I.mono e, e _ _ B, e _ _ J, e _ _ L, e _ _ M⟩, q⟩
theorem any_all (ns : List Int) (m : Int) : (ns.any fun v => decide (v < -m) || decide (m < v)) = !(ns.all fun v => decide (-m ≤ v) && decide (v ≤ m)) := by
  induction ns with
  | nil => rfl
  | cons v ns ih =>
    rw [List.any_cons, List.all_cons, ih]
    by_cases h1 : v < -m
    · have h2 : ¬ (-m ≤ v) := by omega
      simp [h1, h2]
    · by_cases h3 : m < v
      · have h4 : ¬ (v ≤ m) := by omega
        simp [h3, h4]
      · have h2 : -m ≤ v := by omega
        have h4 : v ≤ m := by omega
        simp [h1, h2, h3, h4]
theorem ex_truthful {a : Su196.Instance} {i : Nat} {t : List Nat} {ns : List Int} (h : a.isReady = true) : ex a (.areTruthfulPayments i t ns) = if a.agentCount ≤ i then [.int (-2)] else if a.isProfile t = true ∧ (decide (ns.length = a.typeCount i) && ns.all fun v => decide (-1000 ≤ v) && decide (v ≤ 1000)) = true then [.int (if a.areTruthful i t ns then 1 else 0)] else [.int (-22)] := by
  unfold ex Su196.execute out
  simp only [h]
  by_cases c : a.agentCount ≤ i
  · rw [if_pos c]
    simp [c, Su196.error]
  · rw [if_neg c]
    simp only [c]
    rw [any_all ns 1000]
    cases hp : a.isProfile t with
    | false => simp [Su196.error]
    | true =>
      cases hv : (ns.all fun v => decide (-1000 ≤ v) && decide (v ≤ 1000)) with
      | false => simp [Su196.error]
      | true =>
        by_cases hl : ns.length = a.typeCount i
        · simp [hl, Su196.ok, Su196.boolToNat]
          cases a.areTruthful i t ns <;> rfl
        · simp [hl, Su196.error]
theorem ok_answer_truthful (T : Txt K mg C D) (O_has_agent : Own P w K mg base "has_agent" 1 ["instance", "agent"] (pV (rHA C))) (O_is_profile : Own P w K mg base "is_profile" 1 ["instance", "profile"] (pV (rIP C))) (O_are_payments : Own P w K mg base "are_payments" 2 ["instance", "agent", "payments"] (pV (rAY C))) (O_are_truthful : Own P w K mg base "are_truthful" 4 ["instance", "agent", "profile", "payments"] (pV (rAT C))) (F : Fun K "answer_truthful" "answer_truthful" s_answer_truthful f fd) : FnOk P w K mg base CX0 5 f fd ["instance", "numbers", "rows"] (pL (rQT C)) := by
  refine F.ok sc_answer_truthful (fun vs H Q E h => ?_) (fun cdv A outer s H vs Q E hr h => ?_)
  · obtain ⟨z, ⟨p, a, pn, i, pw, pr, t, py, ns, rfl, _⟩, _⟩ := h
    rfl
  · obtain ⟨z, ⟨p, a, pn, i, pw, pr, t, py, ns, rfl, ⟨I, B, J, L, M⟩, ⟨hrd, hz⟩, rfl⟩, k⟩ := h
    refine ⟨_, (pss_cons (ps_asg (pe_tup (pa_cons (pe_ix ix_list (pv 1) pe_int (fun _ _ => rfl)) (pa_cons (pv 2) pa_nil))) (pg_tup rfl (pgs_cons (pg_name (i := 3) sc_answer_truthful.nd rfl (Or.inl rfl)) (pgs_cons (pg_unl rfl (pgs_cons (pg_name (i := 4) sc_answer_truthful.nd rfl (Or.inl rfl)) (pgs_cons (pg_name (i := 5) sc_answer_truthful.nd rfl (Or.inl rfl)) pgs_nil))) pgs_nil)))) (pss_cons (ps_if (pt_not (pt_val (pe_own O_has_agent (hr.mono (by decide)) (pa_cons (pv 0) (pa_cons (pv 3) pa_nil))))) (pss_one (ps_ret (pe_lst (pa_cons (pe_cst T.cNO_SUCH) pa_nil)))) pss_nil) (pss_cons (ps_if (PW.pt (pw_or (pt_not (pt_val (pe_own O_is_profile (hr.mono (by decide)) (pa_cons (pv 0) (pa_cons (pv 4) pa_nil))))) (pw_or1 (pt_not (pt_val (pe_own O_are_payments (hr.mono (by decide)) (pa_cons (pv 0) (pa_cons (pv 3) (pa_cons (pv 5) pa_nil))))))))) (pss_one (ps_ret (pe_lst (pa_cons (pe_cst T.cBAD_ARGUMENT) pa_nil)))) pss_nil) (pss_one (ps_ret (pe_lst (pa_cons (pe_callTy call_int1 (by rfl) T.int (by decide +kernel) (pa_cons (pe_own O_are_truthful (hr.mono (by decide)) (pa_cons (pv 0) (pa_cons (pv 3) (pa_cons (pv 4) (pa_cons (pv 5) pa_nil))))) pa_nil)) pa_nil))))))), ?_⟩
    rw [ex_truthful hrd] at k
    refine q_asgT (eu_tup (ea_cons (ev_at (i := 0) (ev_var rfl) ev_c B rfl) (ea_cons (ev_var rfl) ea_nil)) (by simp)) fun q H1 hq e1 h1 => ?_
    refine ⟨q, _, rfl, st_of h1, rfl, _, _, rfl, ?_⟩
    refine ⟨_, _, rfl, ?_⟩
    refine ⟨pw, _, rfl, sq_of (e1 _ _ J), rfl, _, _, rfl, ?_⟩
    refine ⟨_, _, rfl, rfl, rfl, ?_⟩
    refine q_when (et_not (et_B (ev_own mo_HA (ea_cons (ev_var rfl) (ea_cons (ev_var rfl) ea_nil)) ⟨p, a, i, rfl, I.mono e1, rfl⟩))) (fun hb H2 e2 => ?_) (fun hb H2 e2 => ?_)
    · rw [if_pos (by simpa using hb)] at k
      exact s_retL (el_lst (ea_cons ev_c ea_nil) (by simp)) fun q H3 hq e3 h3 => k q H3 (fresh_back (e1.trans e2) hq) ((e1.trans e2).trans e3) h3
    · have hi : i < a.agentCount := by simpa using hb
      rw [if_neg (by omega)] at k
      have e12 := e1.trans e2
      refine q_when (et_or (et_not (et_B (ev_own mo_IP (ea_cons (ev_var rfl) (ea_cons (ev_var rfl) ea_nil)) ⟨p, a, pr, t, rfl, ⟨I.mono e12, e12 _ _ L⟩, rfl⟩))) (fun _ => et_not (et_B (ev_own mo_AY (ea_cons (ev_var rfl) (ea_cons (ev_var rfl) (ea_cons (ev_var rfl) ea_nil))) ⟨p, a, i, py, ns, rfl, ⟨I.mono e12, e12 _ _ M⟩, ⟨hi, hz⟩, rfl⟩)))) (fun hb2 H3 e3 => ?_) (fun hb2 H3 e3 => ?_)
      · have hc : ¬ (a.isProfile t = true ∧ (decide (ns.length = a.typeCount i) && ns.all fun v => decide (-1000 ≤ v) && decide (v ≤ 1000)) = true) := by
          rintro ⟨c1, c2⟩
          rw [c1, c2] at hb2
          exact absurd hb2 (by decide)
        rw [if_neg hc] at k
        exact s_retL (el_lst (ea_cons ev_c ea_nil) (by simp)) fun q H4 hq e4 h4 => k q H4 (fresh_back (e12.trans e3) hq) ((e12.trans e3).trans e4) h4
      · have hc : a.isProfile t = true ∧ (decide (ns.length = a.typeCount i) && ns.all fun v => decide (-1000 ≤ v) && decide (v ≤ 1000)) = true := by
          rw [Bool.or_eq_false_iff] at hb2
          exact ⟨by simpa using hb2.1, Bool.not_eq_eq_eq_not.mp hb2.2⟩
        rw [if_pos hc] at k
        have hp := pf_iff.mp hc.1
        have hl : ns.length = a.typeCount i := of_decide_eq_true (Bool.and_eq_true_iff.mp hc.2).1
        have e13 := e12.trans e3
        exact s_retL (el_lst (ea_cons (ev_cb (ea_cons (ev_own mo_AT (ea_cons (ev_var rfl) (ea_cons (ev_var rfl) (ea_cons (ev_var rfl) (ea_cons (ev_var rfl) ea_nil)))) ⟨p, a, i, pr, t, py, ns, rfl, ⟨I.mono e13, e13 _ _ L, e13 _ _ M⟩, ⟨hp, hi, hl⟩, rfl⟩) ea_nil) rc_int) ea_nil) (by simp)) fun q H4 hq e4 h4 => k q H4 (fresh_back e13 hq) (e13.trans e4) h4

abbrev s_answer_pivots : Stmt := top 68
/-- 0 instance; 1 rows -/
theorem sc_answer_pivots : FnScope ["instance", "rows"] ["instance", "rows"] (defScope s_answer_pivots) := ⟨rfl, rfl, rfl, by decide +kernel, rfl, by decide +kernel, by decide +kernel⟩
def rQP (C : Addr) (vs : List V) (H : Hp) (z : List V) : Prop := ∃ p a pw pr t, vs = [.ref p, .ref pw] ∧ (IA C H p a ∧ H pw = some (.lst [.ref pr]) ∧ H pr = some (.lst (nl t))) ∧ a.isReady = true ∧ z = ex a (.pivotPayments t)
theorem mo_QP : Mo (rQP C) := fun vs H H' z e ⟨p, a, m, n, t, h, ⟨I, J, L⟩, q⟩ => ⟨p, a, m, n, t, h, ⟨I.mono e, e _ _ J, e _ _ L⟩, q⟩
theorem ex_pivots {a : Su196.Instance} {t : List Nat} (h : a.isReady = true) : ex a (.pivotPayments t) = if a.isProfile t = true then .int (a.agentCount : Nat) :: il (a.agents.map fun i => a.pivotPayment i t) else [.int (-22)] := by
  unfold ex Su196.execute out
  simp only [h]
  cases a.isProfile t <;> rfl
theorem ok_answer_pivots (T : Txt K mg C D) (O_is_profile : Own P w K mg base "is_profile" 1 ["instance", "profile"] (pV (rIP C))) (O_agent_count : Own P w K mg base "agent_count" 1 ["instance"] (pV (rAC C))) (O_pivot_payments : Own P w K mg base "pivot_payments" 5 ["instance", "profile"] (pL (rPPs C))) (F : Fun K "answer_pivots" "answer_pivots" s_answer_pivots f fd) : FnOk P w K mg base CX0 6 f fd ["instance", "rows"] (pL (rQP C)) := by
  refine F.ok sc_answer_pivots (fun vs H Q E h => ?_) (fun cdv A outer s H vs Q E hr h => ?_)
  · obtain ⟨z, ⟨p, a, pw, pr, t, rfl, _⟩, _⟩ := h
    rfl
  · obtain ⟨z, ⟨p, a, pw, pr, t, rfl, ⟨I, J, L⟩, hrd, rfl⟩, k⟩ := h
    refine ⟨_, (pss_cons (ps_if (pt_not (pt_val (pe_own O_is_profile (hr.mono (by decide)) (pa_cons (pv 0) (pa_cons (pe_ix ix_list (pv 1) pe_int (fun _ _ => rfl)) pa_nil))))) (pss_one (ps_ret (pe_lst (pa_cons (pe_cst T.cBAD_ARGUMENT) pa_nil)))) pss_nil) (pss_one (ps_ret (pe_op op_cat (pe_lst (pa_cons (pe_own O_agent_count (hr.mono (by decide)) (pa_cons (pv 0) pa_nil)) pa_nil)) (pe_own O_pivot_payments (hr.mono (by decide)) (pa_cons (pv 0) (pa_cons (pe_ix ix_list (pv 1) pe_int (fun _ _ => rfl)) pa_nil))))))), ?_⟩
    rw [ex_pivots hrd] at k
    have h3 := I.1.ac3
    refine q_when (et_not (et_B (ev_own mo_IP (ea_cons (ev_var rfl) (ea_cons (ev_at (i := 0) (ev_var rfl) ev_c J rfl) ea_nil)) ⟨p, a, pr, t, rfl, ⟨I, L⟩, rfl⟩))) (fun hb2 H3 e3 => ?_) (fun hb2 H3 e3 => ?_)
    · rw [if_neg (by simpa using hb2)] at k
      exact s_retL (el_lst (ea_cons ev_c ea_nil) (by simp)) fun q H4 hq e4 h4 => k q H4 (fresh_back e3 hq) (e3.trans e4) h4
    · have hpr : a.isProfile t = true := by simpa using hb2
      rw [if_pos hpr] at k
      have hp := pf_iff.mp hpr
      refine s_retL (el_is (el_catLL (el_lst (ea_cons (ev_own mo_AC (ea_cons (ev_var rfl) ea_nil) ⟨p, a, rfl, I.mono e3, rfl⟩) ea_nil) (by simp)) (el_own mo_PPs (ea_cons (ev_var rfl) (ea_cons (ev_at (i := 0) (ev_var rfl) ev_c (e3 _ _ J) rfl) ea_nil)) ⟨p, a, pr, t, rfl, ⟨I.mono e3, e3 _ _ L⟩, hp, rfl⟩) ?_) ?_) fun q H4 hq e4 h4 => k q H4 (fresh_back e3 hq) (e3.trans e4) h4
      · simp [Su196.Instance.agents]
        omega
      · simp

abbrev s_answer_welfare : Stmt := top 69
/-- 0 instance; 1 rows; 2 profile; 3 alternative; 4 values -/
theorem sc_answer_welfare : FnScope ["instance", "rows", "profile", "alternative", "values"] ["instance", "rows"] (defScope s_answer_welfare) := ⟨rfl, rfl, rfl, by decide +kernel, rfl, by decide +kernel, by decide +kernel⟩
def rQW (C : Addr) (vs : List V) (H : Hp) (z : List V) : Prop := ∃ p a pw pr t, vs = [.ref p, .ref pw] ∧ (IA C H p a ∧ H pw = some (.lst [.ref pr]) ∧ H pr = some (.lst (nl t))) ∧ a.isReady = true ∧ z = ex a (.welfare t)
theorem mo_QW : Mo (rQW C) := fun vs H H' z e ⟨p, a, m, n, t, h, ⟨I, J, L⟩, q⟩ => ⟨p, a, m, n, t, h, ⟨I.mono e, e _ _ J, e _ _ L⟩, q⟩
theorem ex_welfare {a : Su196.Instance} {t : List Nat} (h : a.isReady = true) : ex a (.welfare t) = if a.isProfile t = true then [.int (a.allocated t : Nat), .int (a.totalValue t (a.allocated t)), .int (a.totalValue t (Su196.argmax a.alternatives (a.totalValue t)))] else [.int (-22)] := by
  unfold ex Su196.execute out
  simp only [h]
  cases a.isProfile t <;> rfl
theorem q_parVL {σ : L2.St} {H : Hp} {ta tb : TE} {tz : TS} {Dd : Ends} {i j : Nat} {v : V} {xs : List V} (ha : Ev ta σ H v) (hb : EvL tb σ H xs) (k : ∀ l H1, H l = none → Ex H H1 → H1 l = some (.lst xs) → tz Dd ((σ.set i (some v)).set j (some (.ref l))) H1) : tSeq (tPar i j (tCons ta (tCons tb tNil))) tz Dd σ H :=
  ha H (Ex.refl H) _ fun H1 e1 => hb H1 e1 _ fun l H2 hl e2 h2 => ⟨v, .ref l, rfl, k l H2 (fresh_back e1 hl) (e1.trans e2) h2⟩
theorem ok_answer_welfare (T : Txt K mg C D) (O_is_profile : Own P w K mg base "is_profile" 1 ["instance", "profile"] (pV (rIP C))) (O_alternative_at : Own P w K mg base "alternative_at" 2 ["instance", "profile"] (pV (rAA C))) (O_total_values : Own P w K mg base "total_values" 3 ["instance", "profile"] (pL (rTVs C))) (F : Fun K "answer_welfare" "answer_welfare" s_answer_welfare f fd) : FnOk P w K mg base CX0 4 f fd ["instance", "rows"] (pL (rQW C)) := by
  refine F.ok sc_answer_welfare (fun vs H Q E h => ?_) (fun cdv A outer s H vs Q E hr h => ?_)
  · obtain ⟨z, ⟨p, a, pw, pr, t, rfl, _⟩, _⟩ := h
    rfl
  · obtain ⟨z, ⟨p, a, pw, pr, t, rfl, ⟨I, J, L⟩, hrd, rfl⟩, k⟩ := h
    refine ⟨_, (pss_cons (ps_set (i := 2) sc_answer_welfare.nd rfl (Or.inl rfl) (pe_ix ix_list (pv 1) pe_int (fun _ _ => rfl))) (pss_cons (ps_if (pt_not (pt_val (pe_own O_is_profile (hr.mono (by decide)) (pa_cons (pv 0) (pa_cons (pv 2) pa_nil))))) (pss_one (ps_ret (pe_lst (pa_cons (pe_cst T.cBAD_ARGUMENT) pa_nil)))) pss_nil) (pss_cons (ps_par (i := 3) (j := 4) rfl sc_answer_welfare.nd rfl rfl (by decide) rfl rfl (pa_cons (pe_own O_alternative_at (hr.mono (by decide)) (pa_cons (pv 0) (pa_cons (pv 2) pa_nil))) (pa_cons (pe_own O_total_values (hr.mono (by decide)) (pa_cons (pv 0) (pa_cons (pv 2) pa_nil))) pa_nil)) (by rfl)) (pss_one (ps_ret (pe_lst (pa_cons (pv 3) (pa_cons (pe_ix ix_list (pv 4) (pv 3) (fun _ _ => rfl)) (pa_cons (pe_callB (cr_max rfl) (by rfl) T.max PyProof.Rows.boot_max (pa_cons (pv 4) pa_nil)) pa_nil))))))))), ?_⟩
    rw [ex_welfare hrd] at k
    have h4 := I.1.al4
    have h2 := I.1.al2
    refine q_asg (ev_at (i := 0) (ev_var rfl) ev_c J rfl) fun H1 e1 => ?_
    refine q_when (et_not (et_B (ev_own mo_IP (ea_cons (ev_var rfl) (ea_cons (ev_var rfl) ea_nil)) ⟨p, a, pr, t, rfl, ⟨I.mono e1, e1 _ _ L⟩, rfl⟩))) (fun hb2 H3 e3 => ?_) (fun hb2 H3 e3 => ?_)
    · rw [if_neg (by simpa using hb2)] at k
      exact s_retL (el_lst (ea_cons ev_c ea_nil) (by simp)) fun q H4 hq e4 h4 => k q H4 (fresh_back (e1.trans e3) hq) ((e1.trans e3).trans e4) h4
    · have hpr : a.isProfile t = true := by simpa using hb2
      rw [if_pos hpr] at k
      have hp := pf_iff.mp hpr
      have e13 := e1.trans e3
      have hx := allocated_lt I.1 hp
      refine q_parVL (ev_own mo_AA (ea_cons (ev_var rfl) (ea_cons (ev_var rfl) ea_nil)) ⟨p, a, pr, t, rfl, ⟨I.mono e13, e13 _ _ L⟩, hp, rfl⟩) (el_own mo_TVs (ea_cons (ev_var rfl) (ea_cons (ev_var rfl) ea_nil)) ⟨p, a, pr, t, rfl, ⟨I.mono e13, e13 _ _ L⟩, hp, rfl⟩) fun l H4 hl e4 h4 => ?_
      exact s_retL (el_lst (ea_cons (ev_var rfl) (ea_cons (ev_at (ev_var rfl) (ev_var rfl) h4 (get_map (f := V.int) (a := a.totalValue t (a.allocated t)) (by rw [List.getElem?_map, List.getElem?_range hx]; rfl))) (ea_cons (ev_cb (ea_cons (ev_var rfl) ea_nil) (rc_max h4 (by simp; omega) fun m h5 h6 => max_is _ (by omega) h5 h6)) ea_nil))) (by simp)) fun q H5 hq e5 h5 => k q H5 (fresh_back (e13.trans e4) hq) ((e13.trans e4).trans e5) h5

abbrev s_answer_describe : Stmt := top 70
/-- 0 instance; 1 kinds -/
theorem sc_answer_describe : FnScope ["instance", "kinds"] ["instance"] (defScope s_answer_describe) := ⟨rfl, rfl, rfl, by decide +kernel, rfl, by decide +kernel, by decide +kernel⟩
def rQD (C : Addr) (vs : List V) (H : Hp) (z : List V) : Prop := ∃ p a, vs = [.ref p] ∧ IA C H p a ∧ z = ex a .describe
theorem mo_QD : Mo (rQD C) := fun vs H H' z e ⟨p, a, h, I, q⟩ => ⟨p, a, h, I.mono e, q⟩
theorem ok_answer_describe (T : Txt K mg C D) (O_agent_count : Own P w K mg base "agent_count" 1 ["instance"] (pV (rAC C))) (F : Fun K "answer_describe" "answer_describe" s_answer_describe f fd) : FnOk P w K mg base CX0 2 f fd ["instance"] (pL (rQD C)) := by
  refine F.ok sc_answer_describe (fun vs H Q E h => ?_) (fun cdv A outer s H vs Q E hr h => ?_)
  · obtain ⟨z, ⟨p, a, rfl, _⟩, _⟩ := h
    rfl
  · obtain ⟨z, ⟨p, a, rfl, I, rfl⟩, k⟩ := h
    refine ⟨_, (pss_one (ps_ret (pe_op op_cat (pe_lst (pa_cons (pe_own O_agent_count (hr.mono (by decide)) (pa_cons (pv 0) pa_nil)) (pa_cons (pe_fld (pv 0) rfl) pa_nil))) (pe_lc (own := [("kinds", 1)]) (g := gName 1) (tt := tYes) rfl sc_answer_describe.nd (pi_list (pe_fld (pv 0) rfl)) (blkOk_by (N := ["instance", "kinds"]) (sc := defScope s_answer_describe) (by decide +kernel)) (fun _ _ _ _ _ => pg_name (i := 1) sc_answer_describe.nd rfl (Or.inl rfl)) (fun _ _ _ _ _ => pts_nil) (fun _ _ _ _ _ => (pe_callB (call_lenB (K := K) rfl) (by rfl) T.len PySem.boot_len (pa_cons (pv 1) pa_nil))))))), ?_⟩
    have h3 := I.1.ac3
    obtain ⟨o, pk, pa, qs, rss, J⟩ := id I
    have hq3 : qs.length ≤ 3 := by rw [J.agl, o.tl]; exact h3
    refine s_retL (el_is (el_catLL (el_lst (ea_cons (ev_own mo_AC (ea_cons (ev_var rfl) ea_nil) ⟨p, a, rfl, I, rfl⟩) (ea_cons (ev_ac T I (ev_var rfl)) ea_nil)) (by simp)) (el_lcL (fun _ => true) (fun i => .int (a.typeCount i : Nat)) (ev_kd T J (ev_var rfl)) (sq_of J.kinds) (by simp; omega) (fun x => rfl) (fun i x H2 e2 hx => et_yes) (fun i x H2 e2 hx _ => ?_)) ?_) ?_) k
    · obtain ⟨q, hq, rfl⟩ := map_get hx
      have hi : i < a.agentCount := by rw [← o.tl, ← J.agl]; exact (List.getElem?_eq_some_iff.mp hq).1
      obtain ⟨q', rs, g1, g2, g3, R⟩ := (J.mono e2).agent (typesOf_get o hi)
      cases hq.symm.trans g1
      refine ev_is (ev_len (ev_var rfl) (sq_of g3)) ?_
      have := R.len
      simp at this
      simp [this, Su196.Instance.typeCount]
    · rw [given_all]
      simp
      omega
    · rw [given_all]
      unfold ex Su196.execute out Su196.ok Su196.toInts
      have e : (List.range (qs.map V.ref).length).map (fun i => V.int (a.typeCount i : Nat)) = a.types.map fun l => V.int (l.length : Nat) := by
        refine List.ext_getElem (by simp [J.agl]) fun i h1 h2 => ?_
        have hi : i < a.types.length := by simpa using h2
        have := typesOf_get o (i := i) (by rw [← o.tl]; exact hi)
        rw [List.getElem?_eq_getElem hi] at this
        simp [Su196.Instance.typeCount, ← Option.some.inj this]
      rw [e]
      simp
end
end Tp
namespace Tp
open PySem PySem.Spec PyProof.Rows L2 Evl
section
variable {P : Program} {w : World} {K : PySem.W.Frag} {mg : Str → Option Value} {base : Heap} {C D : Addr} {f : Addr} {fd : FuncData}
/-- an instance that may be changed: F holds all that is its own -/
def IMs (C : Addr) (H : Hp) (p : Addr) (a : Su196.Instance) (F : List Addr) : Prop := ∃ pk pa qs rss, In C H p pk pa qs rss a ∧ (p :: pk :: pa :: qs).Nodup ∧ (∀ rs ∈ rss, ∀ r ∈ rs, r ∉ p :: pk :: pa :: qs) ∧ (∀ b ∈ p :: pk :: pa :: qs, b ∈ F) ∧ (∀ rs ∈ rss, ∀ r ∈ rs, r ∈ F) ∧ ∀ b ∈ F, H b ≠ none
def IM (C : Addr) (H : Hp) (p : Addr) (a : Su196.Instance) (F : List Addr) : Prop := Ok a ∧ IMs C H p a F
theorem dom_mono {H H' : Hp} {F : List Addr} (h : ∀ b ∈ F, H b ≠ none) (e : Ex H H') : ∀ b ∈ F, H' b ≠ none := fun b hb z => h b hb (fresh_back e z)
theorem dom_upd {H : Hp} {F : List Addr} {p : Addr} {o : HO} (h : ∀ b ∈ F, H b ≠ none) : ∀ b ∈ F, upd H p o b ≠ none := fun b hb z => by
  by_cases q : b = p
  · rw [q, upd_same] at z
    cases z
  · rw [upd_ne q] at z
    exact h b hb z
theorem IMs.mono {H H' : Hp} {p : Addr} {a : Su196.Instance} {F : List Addr} (M : IMs C H p a F) (e : Ex H H') : IMs C H' p a F := by
  obtain ⟨pk, pa, qs, rss, I, h1, h2, h3, h4, h5⟩ := M
  exact ⟨pk, pa, qs, rss, I.mono e, h1, h2, h3, h4, dom_mono h5 e⟩
theorem IM.mono {H H' : Hp} {p : Addr} {a : Su196.Instance} {F : List Addr} (M : IM C H p a F) (e : Ex H H') : IM C H' p a F := ⟨M.1, M.2.mono e⟩
theorem IM.ia {H : Hp} {p : Addr} {a : Su196.Instance} {F : List Addr} (M : IM C H p a F) : IA C H p a := by
  obtain ⟨o, pk, pa, qs, rss, I, _⟩ := M
  exact ⟨o, pk, pa, qs, rss, I⟩
theorem IMs.dom {H : Hp} {p : Addr} {a : Su196.Instance} {F : List Addr} (M : IMs C H p a F) {b : Addr} (hb : b ∈ F) : H b ≠ none := by
  obtain ⟨pk, pa, qs, rss, I, h1, h2, h3, h4, h5⟩ := M
  exact h5 b hb
theorem IMs.out {H : Hp} {p : Addr} {a : Su196.Instance} {F : List Addr} (M : IMs C H p a F) {b : Addr} (hb : H b = none) : b ∉ F := fun z => M.dom z hb
/-- what is none of its own may change -/
theorem IMs.upd {H : Hp} {p : Addr} {a : Su196.Instance} {F : List Addr} (M : IMs C H p a F) {l : Addr} {o : HO} (hl : l ∉ F) : IMs C (upd H l o) p a F := by
  obtain ⟨pk, pa, qs, rss, I, h1, h2, h3, h4, h5⟩ := M
  obtain ⟨⟨dx, g1⟩, g2, g3, g4, g5, g6, g7⟩ := I
  have nin : ∀ b ∈ F, b ≠ l := fun b hb z => hl (z ▸ hb)
  have hm : ∀ b, b = p ∨ b = pk ∨ b = pa ∨ b ∈ qs → b ≠ l := fun b hb => nin b (h3 b (by simpa using hb))
  exact ⟨pk, pa, qs, rss, ⟨⟨dx, (upd_ne (hm p (.inl rfl))).trans g1⟩, (upd_ne (hm pk (.inr (.inl rfl)))).trans g2, (upd_ne (hm pa (.inr (.inr (.inl rfl))))).trans g3, g4, g5, fun i q rs h2 h3 => (upd_ne (hm q (.inr (.inr (.inr (List.mem_of_getElem? h2)))))).trans (g6 i q rs h2 h3),
    fun i rs ll h2 h3 => (g7 i rs ll h2 h3).upd fun z => hl (h4 rs (List.mem_of_getElem? h2) l z)⟩, h1, h2, h3, h4, dom_upd h5⟩
/-- what comes back of a change: the instance is a' at F', all else stands, a new list xs is answered -/
def RetM (C p : Addr) (a' : Su196.Instance) (F : List Addr) (xs : List V) (H : Hp) (Q : VK) : Prop := ∀ r H' F', IM C H' p a' F' → (∀ b ∈ F', b ∈ F ∨ H b = none) → (∀ b o, H b = some o → b ∉ F → H' b = some o) → H r = none → r ∉ F' → H' r = some (.lst xs) → Q (.ref r) H'
theorem RetM.go {H H' : Hp} {p : Addr} {a' : Su196.Instance} {F F' : List Addr} {xs : List V} {Q : VK} (k : RetM C p a' F xs H Q) (M : IM C H' p a' F') (h1 : ∀ b ∈ F', b ∈ F ∨ H b = none) (h2 : ∀ b o, H b = some o → b ∉ F → H' b = some o) (h3 : ∀ b, H' b = none → H b = none) : RetL xs H' Q := fun r H2 hr e h =>
  k r H2 F' (M.mono e) h1 (fun b o hb hn => e _ _ (h2 b o hb hn)) (h3 r hr) (M.2.out hr) h
theorem RetM.same {H : Hp} {p : Addr} {a : Su196.Instance} {F : List Addr} {xs : List V} {Q : VK} (k : RetM C p a F xs H Q) (M : IM C H p a F) : RetL xs H Q := k.go M (fun _ h => .inl h) (fun _ _ h _ => h) fun _ h => h
theorem ret_ex {H H' : Hp} {xs : List V} {Q : VK} (k : RetL xs H Q) (e : Ex H H') : RetL xs H' Q := fun r H2 hr e2 h => k r H2 (fresh_back e hr) (e.trans e2) h
/-- instance.allocation = a new list -/
theorem q_setAll {σ : L2.St} {H : Hp} {tv : TE} {tz : TS} {Dd : Ends} {i : Nat} {p : Addr} {a : Su196.Instance} {F : List Addr} {al : List Nat} (T : Txt K mg C D) (M : IMs C H p a F) (hv : EvL tv σ H (nl al)) (hp : σ[i]? = some (some (.ref p)))
    (k : ∀ H' F', IMs C H' p { a with allocation := al } F' → (∀ b ∈ F', b ∈ F ∨ H b = none) → (∀ b o, H b = some o → b ∉ F → H' b = some o) → (∀ b, H' b = none → H b = none) → tz Dd σ H') : tSeq (sFld K (tVar i) tv "allocation") tz Dd σ H :=
  hv H (Ex.refl H) _ fun pn H1 hpn e1 h1 => by
  have hout := M.out hpn
  obtain ⟨pk, pa, qs, rss, I, nd, hr, hF, hR, hd⟩ := M
  obtain ⟨⟨dx, hI⟩, g2, g3, g4, g5, g6, g7⟩ := I
  have hpF : p ∈ F := hF p List.mem_cons_self
  have no : ∀ b ∈ F, pn ≠ b := fun b hb z => hout (z ▸ hb)
  have nd2 := nd
  simp only [List.nodup_cons, List.mem_cons, not_or] at nd2
  obtain ⟨⟨n1, n2, n3⟩, ⟨n4, n5⟩, n6, n7⟩ := nd2
  have mpk : pk ∈ F := hF pk (by simp)
  have mqs : ∀ q ∈ qs, q ∈ F := fun q hq => hF q (by simp [hq])
  refine ⟨.ref p, hp, p, C, dx, _, rfl, e1 _ _ hI, T.cl, T.nL, (by show 3 < 1000; decide), k _ (pn :: F) ⟨pk, pn, qs, rss, ?_, ?_, fun rs h2 r h3 h4 => ?_, fun b hb => ?_, fun rs h2 r h3 => List.mem_cons_of_mem _ (hR rs h2 r h3), ?_⟩ ?_ ?_ ?_⟩
  · refine ⟨⟨dx, ?_⟩, (upd_ne (Ne.symm n1)).trans (e1 _ _ g2), (upd_ne (no p hpF)).trans h1, g4, g5, fun j q rs h2 h3 => ?_, fun j rs l h2 h3 => ?_⟩
    · rw [iF_put]
      exact upd_same
    · have : q ≠ p := fun z => n3 (z ▸ List.mem_of_getElem? h2)
      exact (upd_ne this).trans (e1 _ _ (g6 j q rs h2 h3))
    · exact ((g7 j rs l h2 h3).mono e1).upd fun z => hr rs (List.mem_of_getElem? h2) p z List.mem_cons_self
  · simp only [List.nodup_cons, List.mem_cons, not_or]
    exact ⟨⟨n1, Ne.symm (no p hpF), n3⟩, ⟨Ne.symm (no pk mpk), n5⟩, fun z => no pn (mqs pn z) rfl, n7⟩
  · have h5 := hr rs h2 r h3
    simp only [List.mem_cons, not_or] at h4 h5
    obtain ⟨o1, o2, o3, o4⟩ := h5
    rcases h4 with z | z | z | z
    · exact o1 z
    · exact o2 z
    · exact no r (hR rs h2 r h3) z.symm
    · exact o4 z
  · simp only [List.mem_cons] at hb ⊢
    rcases hb with z | z | z | z
    · exact .inr (by rw [z]; exact hpF)
    · exact .inr (by rw [z]; exact mpk)
    · exact .inl z
    · exact .inr (mqs b z)
  · intro b hb
    refine dom_upd (dom_mono (F := b :: []) (H := H1) ?_ (Ex.refl _)) b List.mem_cons_self
    intro c hc
    rw [List.mem_singleton.mp hc]
    rcases List.mem_cons.mp hb with z | z
    · rw [z, h1]
      exact fun z => nomatch z
    · exact fun q => hd b z (fresh_back e1 q)
  · intro b hb
    rcases List.mem_cons.mp hb with z | z
    · exact .inr (by rw [z]; exact hpn)
    · exact .inl z
  · intro b o hb hn
    have : b ≠ p := fun z => hn (by rw [z]; exact hpF)
    exact (upd_ne this).trans (e1 _ _ hb)
  · intro b hb
    by_cases z : b = p
    · rw [z, upd_same] at hb
      cases hb
    · rw [upd_ne z] at hb
      exact fresh_back e1 hb

/-! the rules that set the allocation -/
theorem ok_alloc {a : Su196.Instance} (o : Ok a) {al : List Nat} (h1 : al.length = cnt a.types) (h2 : ∀ x ∈ al, x < a.alternativeCount) : Ok { a with allocation := al } :=
  ⟨o.ac1, o.ac3, o.al2, o.al4, o.tl, o.t4, o.vl, o.vb, h1, h2⟩
theorem ok_rule {a : Su196.Instance} (o : Ok a) (g : List Nat → Nat → Int) : Ok (a.useRule fun t => Su196.argmax a.alternatives (g t)) := by
  refine ok_alloc o (by simp [profiles_length]) fun x hx => ?_
  obtain ⟨t, _, rfl⟩ := List.mem_map.mp hx
  have := o.al2
  exact argmax_lt _ (by omega)

abbrev s_use_welfare_maximizer : Stmt := top 39
/-- 0 instance; 1 numbers; 2 rows -/
theorem sc_use_welfare_maximizer : FnScope ["instance", "numbers", "rows"] ["instance", "numbers", "rows"] (defScope s_use_welfare_maximizer) := ⟨rfl, rfl, rfl, by decide +kernel, rfl, by decide +kernel, by decide +kernel⟩
def spUW (C : Addr) : Sp := fun vs H Q _ => ∃ p a F u v, vs = [.ref p, u, v] ∧ IM C H p a F ∧ a.isReady = true ∧ RetM C p (Su196.execute a .useWelfareMaximizer).1 F (ex a .useWelfareMaximizer) H Q
theorem ok_use_welfare_maximizer (T : Txt K mg C D) (O_welfare_allocation : Own P w K mg base "welfare_allocation" 4 ["instance"] (pL (rWA C))) (F : Fun K "use_welfare_maximizer" "use_welfare_maximizer" s_use_welfare_maximizer f fd) : FnOk P w K mg base CX0 5 f fd ["instance", "numbers", "rows"] (spUW C) := by
  refine F.ok sc_use_welfare_maximizer (fun vs H Q E h => ?_) (fun cdv A outer s H vs Q E hr h => ?_)
  · obtain ⟨p, a, F, u, v, rfl, _⟩ := h
    rfl
  · obtain ⟨p, a, F, u, v, rfl, M, hrd, k⟩ := h
    refine ⟨_, (pss_cons (ps_fld (pv 0) (pe_own O_welfare_allocation (hr.mono (by decide)) (pa_cons (pv 0) pa_nil)) rfl) (pss_one (ps_ret (pe_lst (pa_cons pe_int pa_nil))))), ?_⟩
    refine q_setAll T M.2 (el_own mo_WA (ea_cons (ev_var rfl) ea_nil) ⟨p, a, rfl, M.ia, ready_ne hrd, rfl⟩) rfl fun H' F' M' h1 h2 h3 => ?_
    have e1 : (Su196.execute a .useWelfareMaximizer).1 = a.welfareMaximizer := by unfold Su196.execute; simp only [hrd]; rfl
    have e2 : ex a .useWelfareMaximizer = [.int 0] := by unfold ex Su196.execute; simp only [hrd]; rfl
    rw [e1, e2] at k
    exact s_retL (el_lst (ea_cons ev_c ea_nil) (by simp)) (k.go ⟨ok_rule M.1 _, M'⟩ h1 h2 h3)

abbrev s_use_affine_maximizer : Stmt := top 40
/-- 0 instance; 1 numbers; 2 rows; 3 agents -/
theorem sc_use_affine_maximizer : FnScope ["instance", "numbers", "rows", "agents"] ["instance", "numbers", "rows"] (defScope s_use_affine_maximizer) := ⟨rfl, rfl, rfl, by decide +kernel, rfl, by decide +kernel, by decide +kernel⟩
def spUF (C : Addr) : Sp := fun vs H Q _ => ∃ p a F u pw pr l, vs = [.ref p, u, .ref pw] ∧ (IM C H p a F ∧ H pw = some (.lst [.ref pr]) ∧ H pr = some (.lst (nl l))) ∧ a.isReady = true ∧ RetM C p (Su196.execute a (.useAffineMaximizer l)).1 F (ex a (.useAffineMaximizer l)) H Q
theorem max_gt (l : List Nat) (h : l ≠ []) (m : Int) (hm : m ∈ l.map fun x => ((x : Nat) : Int)) (hg : ∀ y, y ∈ (l.map fun x => ((x : Nat) : Int)) → y ≤ m) : decide (99 < m) = l.any fun v => decide (99 < v) := by
  obtain ⟨x, hx, rfl⟩ := List.mem_map.mp hm
  cases e : l.any fun v => decide (99 < v) with
  | true =>
    obtain ⟨y, hy, h2⟩ := List.any_eq_true.mp e
    have := hg _ (List.mem_map_of_mem (f := fun x => ((x : Nat) : Int)) hy)
    have := of_decide_eq_true h2
    exact decide_eq_true (by omega)
  | false =>
    have := List.any_eq_false.mp e x hx
    simp at this
    exact decide_eq_false (by omega)
theorem el_ownVLL {σ : L2.St} {H : Hp} {ta tb tc : TE} {E : XK} {R : List V → Hp → List V → Prop} {x : V} {xs ys zs : List V} (ha : Ev ta σ H x) (hb : EvL tb σ H xs) (hc : EvL tc σ H ys) (h : ∀ p q H1, Ex H H1 → H1 p = some (.lst xs) → H1 q = some (.lst ys) → R [x, .ref p, .ref q] H1 zs) :
    EvL (tCall (pL R) [] E (tCons ta (tCons tb (tCons tc tNil)))) σ H zs := fun H1 e Q k =>
  ha H1 e _ fun H2 e2 => hb H2 (e.trans e2) _ fun p H3 _ e3 h3 => hc H3 ((e.trans e2).trans e3) _ fun q H4 _ e4 h4 => ⟨zs, h p q H4 (((e.trans e2).trans e3).trans e4) (e4 _ _ h3) h4, fun r H5 hr e5 h5 => k r H5 (fresh_back ((e2.trans e3).trans e4) hr) (((e2.trans e3).trans e4).trans e5) h5⟩
theorem ex_max : ∀ ns : List Int, ns ≠ [] → ∃ m, m ∈ ns ∧ ∀ y, y ∈ ns → y ≤ m
  | [x], _ => ⟨x, by simp, by simp⟩
  | x :: y :: ns, _ => by
    obtain ⟨m, h1, h2⟩ := ex_max (y :: ns) (by simp)
    by_cases h : x ≤ m
    · exact ⟨m, List.mem_cons_of_mem _ h1, fun z hz => by
        rcases List.mem_cons.mp hz with e | hz
        · rw [e]; exact h
        · exact h2 z hz⟩
    · exact ⟨x, List.mem_cons_self, fun z hz => by
        rcases List.mem_cons.mp hz with e | hz
        · rw [e]; exact Int.le_refl _
        · have := h2 z hz
          omega⟩
theorem ok_use_affine_maximizer (T : Txt K mg C D) (O_agent_count : Own P w K mg base "agent_count" 1 ["instance"] (pV (rAC C))) (O_affine_allocation : Own P w K mg base "affine_allocation" 4 ["instance", "weights", "boosts"] (pL (rFA C))) (F : Fun K "use_affine_maximizer" "use_affine_maximizer" s_use_affine_maximizer f fd) : FnOk P w K mg base CX0 5 f fd ["instance", "numbers", "rows"] (spUF C) := by
  refine F.ok sc_use_affine_maximizer (fun vs H Q E h => ?_) (fun cdv A outer s H vs Q E hr h => ?_)
  · obtain ⟨p, a, F, u, pw, pr, l, rfl, _⟩ := h
    rfl
  · obtain ⟨p, a, F, u, pw, pr, l, rfl, ⟨M, J, L⟩, hrd, k⟩ := h
    refine ⟨_, (pss_cons (ps_set (i := 3) sc_use_affine_maximizer.nd rfl (Or.inl rfl) (pe_own O_agent_count (hr.mono (by decide)) (pa_cons (pv 0) pa_nil))) (pss_cons (ps_if (PW.pt (pw_or (pt_cmpR op_ne (pe_callB call_len_seq (by rfl) T.len PySem.boot_len (pa_cons (pe_ix ix_list (pv 2) pe_int (fun _ _ => rfl)) pa_nil)) (pe_op op_add (pv 3) (pe_fld (pv 0) rfl)) (nomark _)) (pw_or1 (pt_cmpR op_gt (pe_callB (cr_max rfl) (by rfl) T.max PyProof.Rows.boot_max (pa_cons (pe_ix ix_list (pv 2) pe_int (fun _ _ => rfl)) pa_nil)) (pe_cst T.cMAX_WEIGHT) (nomark _))))) (pss_one (ps_ret (pe_lst (pa_cons (pe_cst T.cBAD_ARGUMENT) pa_nil)))) pss_nil) (pss_cons (ps_fld (pv 0) (pe_own O_affine_allocation (hr.mono (by decide)) (pa_cons (pv 0) (pa_cons (pe_slice sl_list (pe_ix ix_list (pv 2) pe_int (fun _ _ => rfl)) po_none (po_some (pv 3))) (pa_cons (pe_slice sl_list (pe_ix ix_list (pv 2) pe_int (fun _ _ => rfl)) (po_some (pv 3)) po_none) pa_nil)))) rfl) (pss_one (ps_ret (pe_lst (pa_cons pe_int pa_nil))))))), ?_⟩
    have I := M.ia
    have ne : Su196.execute a (.useAffineMaximizer l) = if l.length ≠ a.agentCount + a.alternativeCount ∨ (l.any fun v => decide (99 < v)) = true then (a, Su196.error (-22)) else (a.affineMaximizer (l.take a.agentCount) (l.drop a.agentCount), Su196.ok 0 []) := by
      unfold Su196.execute
      simp only [hrd]
      rfl
    have hil : nl l = il (l.map fun x => ((x : Nat) : Int)) := by simp
    refine q_asg (ev_own mo_AC (ea_cons (ev_var rfl) ea_nil) ⟨p, a, rfl, I, rfl⟩) fun H1 e1 => ?_
    have rw0 : ∀ {σ : L2.St} {H' : Hp}, σ[2]? = some (some (.ref pw)) → Ex H H' → Ev (tOp (rIxL K) (tVar 2) (tC (.int 0))) σ H' (.ref pr) := fun hs e => ev_at (i := 0) (ev_var hs) ev_c (e _ _ J) rfl
    refine q_when (et_or (b := l.any fun v => decide (99 < v)) (et_test (ev_op (ev_len (rw0 rfl e1) (sq_of (e1 _ _ L))) (ev_op (ev_var rfl) (ev_ac T (I.mono e1) (ev_var rfl)) rv_I0) (rv_ne rfl))) (fun ha => ?_)) (fun hb H2 e2 => ?_) (fun hb H2 e2 => ?_)
    · have hl : l.length = a.agentCount + a.alternativeCount := by
        simp at ha
        omega
      have hlne : (l.map fun x => ((x : Nat) : Int)) ≠ [] := fun z => by
        have h0 := congrArg List.length z
        rw [List.length_map, List.length_nil] at h0
        have := I.1.al2
        omega
      obtain ⟨m, hm, hg⟩ := ex_max _ hlne
      have hl0 : l ≠ [] := fun z => by rw [z] at hlne; exact hlne rfl
      refine et_is (et_test (ev_op (ev_cb (ea_cons (rw0 rfl e1) ea_nil) (rc_max (by rw [← hil]; exact e1 _ _ L) (List.length_pos_iff.mpr hlne) fun k h1 h2 => ?_)) ev_c rv_I0)) (max_gt l hl0 m hm hg)
      have := h2 m hm
      have := hg k h1
      omega
    · have hc : l.length ≠ a.agentCount + a.alternativeCount ∨ (l.any fun v => decide (99 < v)) = true := by
        rcases Bool.or_eq_true_iff.mp hb with z | z
        · refine .inl fun q => ?_
          rw [List.length_map, q] at z
          simp at z
        · exact .inr z
      unfold ex at k
      rw [ne, if_pos hc] at k
      exact s_retL (el_lst (ea_cons ev_c ea_nil) (by simp)) (ret_ex (k.same M) (e1.trans e2))
    · rw [Bool.or_eq_false_iff] at hb
      have hl : l.length = a.agentCount + a.alternativeCount := by
        have := hb.1
        simp at this
        omega
      have hc : ¬ (l.length ≠ a.agentCount + a.alternativeCount ∨ (l.any fun v => decide (99 < v)) = true) := by
        rintro (z | z)
        · exact z hl
        · rw [hb.2] at z
          cases z
      unfold ex at k
      rw [ne, if_neg hc] at k
      have e12 := e1.trans e2
      have h99 : ∀ y ∈ l, y ≤ 99 := fun y hy => by
        have := List.any_eq_false.mp hb.2 y hy
        simp at this
        omega
      refine q_setAll T (M.2.mono e12) (al := (a.affineMaximizer (l.take a.agentCount) (l.drop a.agentCount)).allocation) (el_ownVLL (ev_var rfl) (el_sl (rw0 rfl e12) eo_none (eo_some (ev_var rfl)) (sq_of (e12 _ _ L))) (el_sl (rw0 rfl e12) (eo_some (ev_var rfl)) eo_none (sq_of (e12 _ _ L))) fun pw1 pb1 H3 e3 h5 h6 =>
        ⟨p, a, pw1, l.take a.agentCount, pb1, l.drop a.agentCount, rfl, ⟨I.mono (e12.trans e3), h5.trans ?_, h6.trans ?_⟩, ⟨ready_ne hrd, by simp; omega, fun y hy => h99 y (List.mem_of_mem_take hy), by simp; omega⟩, rfl⟩) rfl fun H' F' M' h1 h2 h3 => ?_
      · rw [cutV_to]
        simp [List.map_take]
      · rw [cutV_from]
        simp [List.map_drop]
      · refine s_retL (el_lst (ea_cons ev_c ea_nil) (by simp)) (k.go ⟨ok_rule M.1 _, M'⟩ (fun b hb => ?_) (fun b o hb hn => h2 b o (e12 _ _ hb) hn) fun b hb => fresh_back e12 (h3 b hb))
        rcases h1 b hb with z | z
        · exact .inl z
        · exact .inr (fresh_back e12 z)

abbrev s_use_agent_maximizer : Stmt := top 41
/-- 0 instance; 1 numbers; 2 rows; 3 agent -/
theorem sc_use_agent_maximizer : FnScope ["instance", "numbers", "rows", "agent"] ["instance", "numbers", "rows"] (defScope s_use_agent_maximizer) := ⟨rfl, rfl, rfl, by decide +kernel, rfl, by decide +kernel, by decide +kernel⟩
def spUG (C : Addr) : Sp := fun vs H Q _ => ∃ p a F pn i u, vs = [.ref p, .ref pn, u] ∧ (IM C H p a F ∧ H pn = some (.lst (nl [i]))) ∧ a.isReady = true ∧ RetM C p (Su196.execute a (.useAgentMaximizer i)).1 F (ex a (.useAgentMaximizer i)) H Q
theorem ok_use_agent_maximizer (T : Txt K mg C D) (O_has_agent : Own P w K mg base "has_agent" 1 ["instance", "agent"] (pV (rHA C))) (O_agent_allocation : Own P w K mg base "agent_allocation" 3 ["instance", "agent"] (pL (rGA C))) (F : Fun K "use_agent_maximizer" "use_agent_maximizer" s_use_agent_maximizer f fd) : FnOk P w K mg base CX0 4 f fd ["instance", "numbers", "rows"] (spUG C) := by
  refine F.ok sc_use_agent_maximizer (fun vs H Q E h => ?_) (fun cdv A outer s H vs Q E hr h => ?_)
  · obtain ⟨p, a, F, pn, i, u, rfl, _⟩ := h
    rfl
  · obtain ⟨p, a, F, pn, i, u, rfl, ⟨M, B⟩, hrd, k⟩ := h
    refine ⟨_, (pss_cons (ps_set (i := 3) sc_use_agent_maximizer.nd rfl (Or.inl rfl) (pe_ix ix_list (pv 1) pe_int (fun _ _ => rfl))) (pss_cons (ps_if (pt_not (pt_val (pe_own O_has_agent (hr.mono (by decide)) (pa_cons (pv 0) (pa_cons (pv 3) pa_nil))))) (pss_one (ps_ret (pe_lst (pa_cons (pe_cst T.cNO_SUCH) pa_nil)))) pss_nil) (pss_cons (ps_fld (pv 0) (pe_own O_agent_allocation (hr.mono (by decide)) (pa_cons (pv 0) (pa_cons (pv 3) pa_nil))) rfl) (pss_one (ps_ret (pe_lst (pa_cons pe_int pa_nil))))))), ?_⟩
    have ne : Su196.execute a (.useAgentMaximizer i) = if a.agentCount ≤ i then (a, Su196.error (-2)) else (a.useRule fun t => Su196.argmax a.alternatives fun x => a.reportedValue i x t, Su196.ok 0 []) := by
      unfold Su196.execute
      simp only [hrd]
      rfl
    unfold ex at k
    rw [ne] at k
    refine q_asg (ev_at (i := 0) (ev_var rfl) ev_c B rfl) fun H1 e1 => ?_
    refine q_when (et_not (et_B (ev_own mo_HA (ea_cons (ev_var rfl) (ea_cons (ev_var rfl) ea_nil)) ⟨p, a, i, rfl, M.ia.mono e1, rfl⟩))) (fun hb H2 e2 => ?_) (fun hb H2 e2 => ?_)
    · rw [if_pos (by simpa using hb)] at k
      exact s_retL (el_lst (ea_cons ev_c ea_nil) (by simp)) (ret_ex (k.same M) (e1.trans e2))
    · have hi : i < a.agentCount := by simpa using hb
      rw [if_neg (by omega)] at k
      have e12 := e1.trans e2
      refine q_setAll T (M.2.mono e12) (el_own mo_GA (ea_cons (ev_var rfl) (ea_cons (ev_var rfl) ea_nil)) ⟨p, a, i, rfl, M.ia.mono e12, ⟨ready_ne hrd, hi⟩, rfl⟩) rfl fun H' F' M' h1 h2 h3 => ?_
      refine s_retL (el_lst (ea_cons ev_c ea_nil) (by simp)) (k.go ⟨ok_rule M.1 _, M'⟩ (fun b hb => ?_) (fun b o hb hn => h2 b o (e12 _ _ hb) hn) fun b hb => fresh_back e12 (h3 b hb))
      rcases h1 b hb with z | z
      · exact .inl z
      · exact .inr (fresh_back e12 z)
end
end Tp
namespace Tp
open PySem PySem.Spec PyProof.Rows L2 Evl
section
variable {P : Program} {w : World} {K : PySem.W.Frag} {mg : Str → Option Value} {base : Heap} {C D : Addr} {f : Addr} {fd : FuncData}
/-! one place of the allocation is set -/
theorem setAt_im {H H1 : Hp} {p : Addr} {a : Su196.Instance} {F : List Addr} {pk pa : Addr} {qs : List Addr} {rss : List (List Addr)} (I : In C H p pk pa qs rss a) (nd : (p :: pk :: pa :: qs).Nodup) (hr : ∀ rs ∈ rss, ∀ r ∈ rs, r ∉ p :: pk :: pa :: qs) (hF : ∀ b ∈ p :: pk :: pa :: qs, b ∈ F) (hR : ∀ rs ∈ rss, ∀ r ∈ rs, r ∈ F) (hd : ∀ b ∈ F, H b ≠ none) (e1 : Ex H H1) (al : List Nat) :
    IMs C (upd H1 pa (.lst (nl al))) p { a with allocation := al } F ∧ pa ∈ F ∧ (∀ b, upd H1 pa (.lst (nl al)) b = none → H b = none) := by
  obtain ⟨⟨dx, hI⟩, g2, g3, g4, g5, g6, g7⟩ := I
  have nd0 := nd
  simp only [List.nodup_cons, List.mem_cons, not_or] at nd
  obtain ⟨⟨n1, n2, n3⟩, ⟨n4, n5⟩, n6, n7⟩ := nd
  refine ⟨⟨pk, pa, qs, rss, ⟨⟨dx, (upd_ne n2).trans (e1 _ _ hI)⟩, (upd_ne n4).trans (e1 _ _ g2), upd_same, g4, g5, fun j q rs h2 h3 => ?_, fun j rs l h2 h3 => ?_⟩, nd0, hr, hF, hR, dom_upd (dom_mono hd e1)⟩, hF pa (by simp), fun b hb => ?_⟩
  · have : q ≠ pa := fun z => n6 (z ▸ List.mem_of_getElem? h2)
    exact (upd_ne this).trans (e1 _ _ (g6 j q rs h2 h3))
  · exact ((g7 j rs l h2 h3).mono e1).upd fun z => hr rs (List.mem_of_getElem? h2) pa z (by simp)
  · by_cases z : b = pa
    · rw [z, upd_same] at hb
      cases hb
    · rw [upd_ne z] at hb
      exact fresh_back e1 hb

abbrev s_set_allocation : Stmt := top 38
/-- 0 instance; 1 numbers; 2 rows; 3 alternative; 4 profile; 5 previous -/
theorem sc_set_allocation : FnScope ["instance", "numbers", "rows", "alternative", "profile", "previous"] ["instance", "numbers", "rows"] (defScope s_set_allocation) := ⟨rfl, rfl, rfl, by decide +kernel, rfl, by decide +kernel, by decide +kernel⟩
def spSA (C : Addr) : Sp := fun vs H Q _ => ∃ p a F pn x pw pr t, vs = [.ref p, .ref pn, .ref pw] ∧ (IM C H p a F ∧ H pn = some (.lst (nl [x])) ∧ H pw = some (.lst [.ref pr]) ∧ H pr = some (.lst (nl t))) ∧ a.isReady = true ∧ RetM C p (Su196.execute a (.setAllocation x t)).1 F (ex a (.setAllocation x t)) H Q
theorem ok_set_allocation (T : Txt K mg C D) (O_alternative_at : Own P w K mg base "alternative_at" 2 ["instance", "profile"] (pV (rAA C))) (O_number_of : Own P w K mg base "number_of" 1 ["instance", "profile"] (pV (rNO C))) (O_is_profile : Own P w K mg base "is_profile" 1 ["instance", "profile"] (pV (rIP C))) (F : Fun K "set_allocation" "set_allocation" s_set_allocation f fd) : FnOk P w K mg base CX0 3 f fd ["instance", "numbers", "rows"] (spSA C) := by
  refine F.ok sc_set_allocation (fun vs H Q E h => ?_) (fun cdv A outer s H vs Q E hr h => ?_)
  · obtain ⟨p, a, F, pn, x, pw, pr, t, rfl, _⟩ := h
    rfl
  · obtain ⟨p, a, F, pn, x, pw, pr, t, rfl, ⟨M, B, J, L⟩, hrd, k⟩ := h
    refine ⟨_, (pss_cons (ps_par (i := 3) (j := 4) rfl sc_set_allocation.nd rfl rfl (by decide) rfl rfl (pa_cons (pe_ix ix_list (pv 1) pe_int (fun _ _ => rfl)) (pa_cons (pe_ix ix_list (pv 2) pe_int (fun _ _ => rfl)) pa_nil)) (by rfl)) (pss_cons (ps_if (PW.pt (pw_or (pt_cmpR op_ge (pv 3) (pe_fld (pv 0) rfl) (nomark _)) (pw_or1 (pt_not (pt_val (pe_own O_is_profile (hr.mono (by decide)) (pa_cons (pv 0) (pa_cons (pv 4) pa_nil)))))))) (pss_one (ps_ret (pe_lst (pa_cons (pe_cst T.cBAD_ARGUMENT) pa_nil)))) pss_nil) (pss_cons (ps_set (i := 5) sc_set_allocation.nd rfl (Or.inl rfl) (pe_own O_alternative_at (hr.mono (by decide)) (pa_cons (pv 0) (pa_cons (pv 4) pa_nil)))) (pss_cons (ps_asg (pv 3) (pg_sub (pe_fld (pv 0) rfl) (pe_own O_number_of (hr.mono (by decide)) (pa_cons (pv 0) (pa_cons (pv 4) pa_nil))) set_list)) (pss_one (ps_ret (pe_lst (pa_cons (pv 5) pa_nil)))))))), ?_⟩
    have I := M.ia
    have ne : Su196.execute a (.setAllocation x t) = if a.alternativeCount ≤ x ∨ a.isProfile t = false then (a, Su196.error (-22)) else ({ a with allocation := a.allocation.set (a.profileIndex t) x }, Su196.ok (a.allocated t) []) := by
      unfold Su196.execute
      simp only [hrd]
      rfl
    unfold ex at k
    rw [ne] at k
    refine q_par (ea_cons (ev_at (i := 0) (ev_var rfl) ev_c B rfl) (ea_cons (ev_at (i := 0) (ev_var rfl) ev_c J rfl) ea_nil)) fun H1 e1 => ?_
    refine q_when (et_or (et_test (ev_op (ev_var rfl) (ev_ac T (I.mono e1) (ev_var rfl)) rv_I0)) (fun _ => et_not (et_B (ev_own mo_IP (ea_cons (ev_var rfl) (ea_cons (ev_var rfl) ea_nil)) ⟨p, a, pr, t, rfl, ⟨I.mono e1, e1 _ _ L⟩, rfl⟩)))) (fun hb H2 e2 => ?_) (fun hb H2 e2 => ?_)
    · have hc : a.alternativeCount ≤ x ∨ a.isProfile t = false := by
        rcases Bool.or_eq_true_iff.mp hb with z | z
        · have := of_decide_eq_true z
          exact .inl (by omega)
        · exact .inr (by simpa using z)
      rw [if_pos hc] at k
      exact s_retL (el_lst (ea_cons ev_c ea_nil) (by simp)) (ret_ex (k.same M) (e1.trans e2))
    · rw [Bool.or_eq_false_iff] at hb
      have hx : x < a.alternativeCount := by
        have := of_decide_eq_false hb.1
        omega
      have hpr : a.isProfile t = true := by simpa using hb.2
      have hc : ¬ (a.alternativeCount ≤ x ∨ a.isProfile t = false) := by
        rintro (z | z)
        · omega
        · rw [hpr] at z
          cases z
      rw [if_neg hc] at k
      have hp := pf_iff.mp hpr
      have e12 := e1.trans e2
      refine q_asg (ev_own mo_AA (ea_cons (ev_var rfl) (ea_cons (ev_var rfl) ea_nil)) ⟨p, a, pr, t, rfl, ⟨I.mono e12, e12 _ _ L⟩, hp, rfl⟩) fun H3 e3 => ?_
      have e13 := e12.trans e3
      obtain ⟨o, pk, pa, qs, rss, J0, nd, hrs, hF, hR, hdm⟩ := M.mono e13
      refine q_setL (j := idx t a.types) J0.all (ev_var rfl) (ev_al T J0 (ev_var rfl)) (ev_own mo_NO (ea_cons (ev_var rfl) (ea_cons (ev_var rfl) ea_nil)) ⟨p, a, pr, t, rfl, ⟨I.mono e13, e13 _ _ L⟩, hp.1, rfl⟩) (by rw [List.length_map, o.al]; exact idx_lt o hp) fun H4 e4 => ?_
      have es : (nl a.allocation).set (idx t a.types) (.int (x : Nat)) = nl (a.allocation.set (a.profileIndex t) x) := by
        rw [profileIndex_eq o hp.1]
        simp [List.map_set]
      rw [es]
      obtain ⟨M4, hpa, h3⟩ := setAt_im J0 nd hrs hF hR hdm e4 (a.allocation.set (a.profileIndex t) x)
      have o4 : Ok { a with allocation := a.allocation.set (a.profileIndex t) x } := ok_alloc o (by rw [List.length_set]; exact o.al) fun y hy => by
        rcases List.mem_or_eq_of_mem_set hy with z | z
        · exact o.ab y z
        · rw [z]; exact hx
      exact s_retL (el_lst (ea_cons (ev_var rfl) ea_nil) (by simp)) (k.go ⟨o4, M4⟩ (fun b hb => .inl hb) (fun b o hb hn => (upd_ne fun z => hn (by rw [z]; exact hpa)).trans (e4 _ _ (e13 _ _ hb))) fun b hb => fresh_back e13 (h3 b hb))

/-! a kind is added -/
theorem addKind_im {H H1 : Hp} {p : Addr} {a : Su196.Instance} {F : List Addr} (o : Ok a) {i : Nat} (hi : i < a.agentCount) {v : List Int} {r : Addr} (hr0 : H r = none) (e1 : Ex H H1) (hr1 : H1 r = some (.lst (il v))) {pk pa : Addr} {qs : List Addr} {rss : List (List Addr)} (I : In C H p pk pa qs rss a)
    (nd : (p :: pk :: pa :: qs).Nodup) (hr : ∀ rs ∈ rss, ∀ r ∈ rs, r ∉ p :: pk :: pa :: qs) (hF : ∀ b ∈ p :: pk :: pa :: qs, b ∈ F) (hR : ∀ rs ∈ rss, ∀ r ∈ rs, r ∈ F) (hd : ∀ b ∈ F, H b ≠ none) {q : Addr} {rs : List Addr} (hq : qs[i]? = some q) (hrs : rss[i]? = some rs) :
    IMs C (upd H1 q (.lst (rs.map V.ref ++ [.ref r]))) p { a with types := a.types.set i (a.typesOf i ++ [v]) } (r :: F) := by
  have hout : r ∉ F := fun z => hd r z hr0
  have hti : i < a.types.length := by rw [o.tl]; exact hi
  obtain ⟨⟨dx, hI⟩, g2, g3, g4, g5, g6, g7⟩ := I
  have nd0 := nd
  simp only [List.nodup_cons, List.mem_cons, not_or] at nd
  obtain ⟨⟨n1, n2, n3⟩, ⟨n4, n5⟩, n6, n7⟩ := nd
  have mq := List.mem_of_getElem? hq
  have mq4 : q ∈ p :: pk :: pa :: qs := List.mem_cons_of_mem _ (List.mem_cons_of_mem _ (List.mem_cons_of_mem _ mq))
  have nq : ∀ b, b ∉ qs → b ≠ q := fun b h z => h (z ▸ mq)
  refine ⟨pk, pa, qs, rss.set i (rs ++ [r]), ⟨⟨dx, (upd_ne (nq _ n3)).trans (e1 _ _ hI)⟩, (upd_ne (nq _ n5)).trans (e1 _ _ g2), (upd_ne (nq _ n6)).trans (e1 _ _ g3), by simp [g4], by simp [g5], fun j q' rs' h2 h3 => ?_, fun j rs' l h2 h3 => ?_⟩, nd0, ?_, fun b hb => List.mem_cons_of_mem _ (hF b hb), ?_, ?_⟩
  · by_cases ej : j = i
    · subst ej
      rw [hq] at h2
      cases h2
      rw [List.getElem?_set_self (by rw [g5]; exact hti)] at h3
      cases h3
      rw [List.map_append]
      exact upd_same
    · rw [List.getElem?_set_ne (Ne.symm ej)] at h3
      have : q' ≠ q := fun z => by
        subst z
        exact ej (nd_ix n7 h2 hq)
      exact (upd_ne this).trans (e1 _ _ (g6 j q' rs' h2 h3))
  · by_cases ej : j = i
    · subst ej
      rw [List.getElem?_set_self (by rw [g5]; exact hti)] at h2
      cases h2
      have h3 : (a.types.set j (a.typesOf j ++ [v]))[j]? = some l := h3
      rw [List.getElem?_set_self hti] at h3
      cases h3
      rw [List.map_append]
      have R := g7 j rs _ hrs (typesOf_get o hi)
      have nrq : r ≠ q := fun z => hout (by rw [z]; exact hF q mq4)
      exact ((R.mono e1).upd fun z => hr rs (List.mem_of_getElem? hrs) q z mq4).snoc ((upd_ne nrq).trans hr1)
    · rw [List.getElem?_set_ne (Ne.symm ej)] at h2
      have h3 : (a.types.set i (a.typesOf i ++ [v]))[j]? = some l := h3
      rw [List.getElem?_set_ne (Ne.symm ej)] at h3
      exact ((g7 j rs' l h2 h3).mono e1).upd fun z => hr rs' (List.mem_of_getElem? h2) q z mq4
  · intro rs' h2 y hy
    rcases List.mem_or_eq_of_mem_set h2 with z | z
    · exact hr rs' z y hy
    · rw [z] at hy
      rcases List.mem_append.mp hy with hy | hy
      · exact hr rs (List.mem_of_getElem? hrs) y hy
      · simp at hy
        rw [hy]
        exact fun q => hout (hF r q)
  · intro rs' h2 y hy
    rcases List.mem_or_eq_of_mem_set h2 with z | z
    · exact List.mem_cons_of_mem _ (hR rs' z y hy)
    · rw [z] at hy
      rcases List.mem_append.mp hy with hy | hy
      · exact List.mem_cons_of_mem _ (hR rs (List.mem_of_getElem? hrs) y hy)
      · simp at hy
        rw [hy]
        exact List.mem_cons_self
  · refine dom_upd fun b hb => ?_
    rcases List.mem_cons.mp hb with z | z
    · rw [z, hr1]
      exact fun z => nomatch z
    · exact fun q => hd b z (fresh_back e1 q)
/-- the specification's state behind an added kind -/
def added (a : Su196.Instance) (i : Nat) (v : List Int) : Su196.Instance := { a with types := a.types.set i (a.typesOf i ++ [v]) }
theorem ok_added {a : Su196.Instance} (o : Ok a) {i : Nat} (hi : i < a.agentCount) {v : List Int} (hl : v.length = a.alternativeCount) (hb : ∀ z ∈ v, -50 ≤ z ∧ z ≤ 50) (h4 : a.typeCount i < 4) : Ok ((added a i v).resetAllocation) := by
  have hm : ∀ l ∈ a.types.set i (a.typesOf i ++ [v]), l ∈ a.types ∨ l = a.typesOf i ++ [v] := fun l h => List.mem_or_eq_of_mem_set h
  have ht := typesOf_mem o hi
  refine ⟨o.ac1, o.ac3, o.al2, o.al4, ?_, fun l h => ?_, fun l h w hw => ?_, fun l h w hw => ?_, ?_, ?_⟩
  · show (a.types.set i _).length = a.agentCount
    rw [List.length_set]
    exact o.tl
  · rcases hm l h with z | z
    · exact o.t4 l z
    · rw [z, List.length_append]
      exact h4
  · rcases hm l h with z | z
    · exact o.vl l z w hw
    · rw [z] at hw
      rcases List.mem_append.mp hw with hw | hw
      · exact o.vl _ ht w hw
      · rw [List.mem_singleton.mp hw]
        exact hl
  · rcases hm l h with z | z
    · exact o.vb l z w hw
    · rw [z] at hw
      rcases List.mem_append.mp hw with hw | hw
      · exact o.vb _ ht w hw
      · rw [List.mem_singleton.mp hw]
        exact hb
  · show (List.replicate _ 0).length = _
    rw [List.length_replicate]
    exact profiles_length (added a i v)
  · intro x hx
    rw [(List.mem_replicate.mp hx).2]
    have := o.al2
    show 0 < a.alternativeCount
    omega
theorem added_count {a : Su196.Instance} (o : Ok a) {i : Nat} (hi : i < a.agentCount) (v : List Int) : ((added a i v).resetAllocation).typeCount i = a.typeCount i + 1 := by
  have hti : i < a.types.length := by rw [o.tl]; exact hi
  show (((a.types.set i (a.typesOf i ++ [v]))).getD i []).length = (a.typesOf i).length + 1
  rw [List.getD_eq_getElem?_getD, List.getElem?_set_self hti]
  simp
theorem ex_add {a : Su196.Instance} {i : Nat} {v : List Int} : Su196.execute a (.addType i v) = if a.agentCount ≤ i then (a, Su196.error (-2)) else if (decide (v.length = a.alternativeCount) && v.all fun x => decide (-50 ≤ x) && decide (x ≤ 50)) = false then (a, Su196.error (-22)) else if 4 ≤ a.typeCount i then (a, Su196.error (-28)) else ((added a i v).resetAllocation, Su196.ok (a.typeCount i) []) := by
  unfold Su196.execute
  by_cases c : a.agentCount ≤ i
  · simp only [if_pos c]
  · simp only [if_neg c]
    have e := any_all v 50
    unfold Su196.maxValue
    rw [e]
    cases hv : (v.all fun x => decide (-50 ≤ x) && decide (x ≤ 50)) with
    | false => simp
    | true =>
      by_cases hl : v.length = a.alternativeCount
      · simp [hl]
        rfl
      · simp [hl]
end
end Tp
namespace Tp
open PySem PySem.Spec PyProof.Rows L2 Evl
section
variable {P : Program} {w : World} {K : PySem.W.Frag} {mg : Str → Option Value} {base : Heap} {C D : Addr} {f : Addr} {fd : FuncData}
theorem el_rep {σ : L2.St} {H : Hp} {ta tb : TE} {n : Nat} {xs : List V} (ha : EvL ta σ H xs) (hb : Ev tb σ H (.int (n : Nat))) (hz : xs.length * n ≤ 100000) (hn : n ≤ 100000) : EvL (tOp rRep ta tb) σ H (List.replicate n xs).flatten := fun H1 e Q q =>
  ha H1 e _ fun l H2 _ e2 h2 => hb H2 (e.trans e2) _ fun H3 e3 => ⟨l, (n : Nat), xs, rfl, rfl, e3 _ _ h2, by omega, by omega, by rw [Int.toNat_natCast]; exact sz_of hz, fun r hr => q r _ (fresh_back (e2.trans e3) hr) ((e2.trans e3).trans (Ex.new hr)) (by rw [Int.toNat_natCast]; exact upd_same)⟩
theorem flat_one (n : Nat) (x : V) : (List.replicate n [x]).flatten = List.replicate n x := by
  induction n with
  | zero => rfl
  | succ n ih => rw [List.replicate_succ, List.flatten_cons, ih]; rfl

abbrev s_add_kind : Stmt := top 37
/-- 0 instance; 1 numbers; 2 rows; 3 agent; 4 values -/
theorem sc_add_kind : FnScope ["instance", "numbers", "rows", "agent", "values"] ["instance", "numbers", "rows"] (defScope s_add_kind) := ⟨rfl, rfl, rfl, by decide +kernel, rfl, by decide +kernel, by decide +kernel⟩
def spAK (C : Addr) : Sp := fun vs H Q _ => ∃ p a F pn i pw pr v, vs = [.ref p, .ref pn, .ref pw] ∧ (IM C H p a F ∧ H pn = some (.lst (nl [i])) ∧ H pw = some (.lst [.ref pr]) ∧ H pr = some (.lst (il v))) ∧ v.length ≤ 1000 ∧ RetM C p (Su196.execute a (.addType i v)).1 F (ex a (.addType i v)) H Q
theorem ok_add_kind (T : Txt K mg C D) (O_has_agent : Own P w K mg base "has_agent" 1 ["instance", "agent"] (pV (rHA C))) (O_are_values : Own P w K mg base "are_values" 1 ["instance", "numbers"] (pV (rAV C))) (O_kind_count : Own P w K mg base "kind_count" 1 ["instance", "agent"] (pV (rKC C))) (O_is_ready : Own P w K mg base "is_ready" 1 ["instance"] (pV (rIR C))) (O_profile_count : Own P w K mg base "profile_count" 1 ["instance"] (pV (rPC C))) (F : Fun K "add_kind" "add_kind" s_add_kind f fd) : FnOk P w K mg base CX0 2 f fd ["instance", "numbers", "rows"] (spAK C) := by
  refine F.ok sc_add_kind (fun vs H Q E h => ?_) (fun cdv A outer s H vs Q E hr h => ?_)
  · obtain ⟨p, a, F, pn, i, pw, pr, v, rfl, _⟩ := h
    rfl
  · obtain ⟨p, a, F, pn, i, pw, pr, v, rfl, ⟨M, B, J, L⟩, hz, k⟩ := h
    refine ⟨_, (pss_cons (ps_par (i := 3) (j := 4) rfl sc_add_kind.nd rfl rfl (by decide) rfl rfl (pa_cons (pe_ix ix_list (pv 1) pe_int (fun _ _ => rfl)) (pa_cons (pe_ix ix_list (pv 2) pe_int (fun _ _ => rfl)) pa_nil)) (by rfl)) (pss_cons (ps_if (pt_not (pt_val (pe_own O_has_agent (hr.mono (by decide)) (pa_cons (pv 0) (pa_cons (pv 3) pa_nil))))) (pss_one (ps_ret (pe_lst (pa_cons (pe_cst T.cNO_SUCH) pa_nil)))) pss_nil) (pss_cons (ps_if (pt_not (pt_val (pe_own O_are_values (hr.mono (by decide)) (pa_cons (pv 0) (pa_cons (pv 4) pa_nil))))) (pss_one (ps_ret (pe_lst (pa_cons (pe_cst T.cBAD_ARGUMENT) pa_nil)))) pss_nil) (pss_cons (ps_if (pt_cmpR op_eq (pe_own O_kind_count (hr.mono (by decide)) (pa_cons (pv 0) (pa_cons (pv 3) pa_nil))) (pe_cst T.cMAX_TYPES) (nomark _)) (pss_one (ps_ret (pe_lst (pa_cons (pe_cst T.cFULL) pa_nil)))) pss_nil) (pss_cons (ps_expr (pe_bm PySem.F.plainAttrs_list PySem.F.slot_list_append PySem.F.type_list_append mt_append (pe_ix ix_list (pe_fld (pv 0) rfl) (pv 3) (fun _ _ => rfl)) (pa_cons (pe_callTy call_list_of (by rfl) T.list (by decide +kernel) (pa_cons (pv 4) pa_nil)) pa_nil))) (pss_cons (ps_fld (pv 0) (pe_ifExp (pt_val (pe_own O_is_ready (hr.mono (by decide)) (pa_cons (pv 0) pa_nil))) (pe_op op_rep (pe_lst (pa_cons pe_int pa_nil)) (pe_own O_profile_count (hr.mono (by decide)) (pa_cons (pv 0) pa_nil))) (pe_lst pa_nil)) rfl) (pss_one (ps_ret (pe_lst (pa_cons (pe_op op_sub (pe_own O_kind_count (hr.mono (by decide)) (pa_cons (pv 0) (pa_cons (pv 3) pa_nil))) pe_int) pa_nil)))))))))), ?_⟩
    have I := M.ia
    unfold ex at k
    rw [ex_add] at k
    refine q_par (ea_cons (ev_at (i := 0) (ev_var rfl) ev_c B rfl) (ea_cons (ev_at (i := 0) (ev_var rfl) ev_c J rfl) ea_nil)) fun H1 e1 => ?_
    refine q_when (et_not (et_B (ev_own mo_HA (ea_cons (ev_var rfl) (ea_cons (ev_var rfl) ea_nil)) ⟨p, a, i, rfl, I.mono e1, rfl⟩))) (fun hb H2 e2 => ?_) (fun hb H2 e2 => ?_)
    · rw [if_pos (by simpa using hb)] at k
      exact s_retL (el_lst (ea_cons ev_c ea_nil) (by simp)) (ret_ex (k.same M) (e1.trans e2))
    have hi : i < a.agentCount := by simpa using hb
    rw [if_neg (by omega)] at k
    have e12 := e1.trans e2
    refine q_when (et_not (et_B (ev_own mo_AV (ea_cons (ev_var rfl) (ea_cons (ev_var rfl) ea_nil)) ⟨p, a, pr, v, rfl, ⟨I.mono e12, e12 _ _ L⟩, hz, rfl⟩))) (fun hb2 H3 e3 => ?_) (fun hb2 H3 e3 => ?_)
    · have hb3 : (decide (v.length = a.alternativeCount) && v.all fun x => decide (-50 ≤ x) && decide (x ≤ 50)) = false := Bool.not_eq_eq_eq_not.mp hb2
      rw [if_pos hb3] at k
      exact s_retL (el_lst (ea_cons ev_c ea_nil) (by simp)) (ret_ex (k.same M) (e12.trans e3))
    have hv : (decide (v.length = a.alternativeCount) && v.all fun x => decide (-50 ≤ x) && decide (x ≤ 50)) = true := Bool.not_eq_eq_eq_not.mp hb2
    rw [if_neg (by rw [hv]; decide)] at k
    have e13 := e12.trans e3
    have h4 := typeCount_le M.1 hi
    refine q_when (et_test (ev_op (ev_own mo_KC (ea_cons (ev_var rfl) (ea_cons (ev_var rfl) ea_nil)) ⟨p, a, i, rfl, I.mono e13, hi, rfl⟩) ev_c (rv_eq rfl))) (fun hb3 H4 e4 => ?_) (fun hb3 H4 e4 => ?_)
    · have hc : 4 ≤ a.typeCount i := by
        simp at hb3
        omega
      rw [if_pos hc] at k
      exact s_retL (el_lst (ea_cons ev_c ea_nil) (by simp)) (ret_ex (k.same M) (e13.trans e4))
    have hc : a.typeCount i < 4 := by
      simp at hb3
      omega
    rw [if_neg (by omega)] at k
    have e14 := e13.trans e4
    obtain ⟨o, pk, pa, qs, rss, J0, nd, hrs, hF, hR, hdm⟩ := M.mono e14
    obtain ⟨q, rs, g1, g2, g3, R⟩ := J0.agent (typesOf_get o hi)
    have hrl : rs.length = a.typeCount i := by have := R.len; simpa [Su196.Instance.typeCount] using this
    refine q_appL g3 (ev_at (ev_kd T J0 (ev_var rfl)) (ev_var rfl) J0.kinds (get_map g1)) (el_list (ev_var rfl) (sq_of (e14 _ _ L))) (by simp [hrl]; omega) fun r H5 hr5 e5 h5 => ?_
    have M5 : IMs C (upd H5 q (.lst (rs.map V.ref ++ [.ref r]))) p (added a i v) (r :: F) := addKind_im o hi hr5 e5 h5 J0 nd hrs hF hR hdm g1 g2
    have hqF : q ∈ F := hF q (List.mem_cons_of_mem _ (List.mem_cons_of_mem _ (List.mem_cons_of_mem _ (List.mem_of_getElem? g1))))
    have hr0 : H r = none := fresh_back e14 hr5
    generalize hH6 : upd H5 q (.lst (rs.map V.ref ++ [.ref r])) = H6 at M5
    have oa := ok_added o hi (v := v) (of_decide_eq_true (Bool.and_eq_true_iff.mp hv).1) (fun z hz => by
      have := List.all_eq_true.mp (Bool.and_eq_true_iff.mp hv).2 z hz
      simpa using this) hc
    have I6 : IA0 C H6 p (added a i v) := by
      obtain ⟨pk, pa, qs, rss, I, _⟩ := M5
      exact ⟨⟨oa.tl, oa.t4⟩, pk, pa, qs, rss, I⟩
    have fr6 : ∀ b o, H b = some o → b ∉ F → H6 b = some o := fun b o hb hn => by
      rw [← hH6]
      exact (upd_ne fun z => hn (by rw [z]; exact hqF)).trans (e5 _ _ (e14 _ _ hb))
    have fb6 : ∀ b, H6 b = none → H b = none := fun b hb => by
      rw [← hH6] at hb
      by_cases z : b = q
      · rw [z, upd_same] at hb
        cases hb
      · rw [upd_ne z] at hb
        exact fresh_back (e14.trans e5) hb
    have c64 : cnt (added a i v).types ≤ 64 := by
      have := cnt_le64 oa
      exact this
    refine q_setAll T M5 (al := List.replicate (added a i v).profiles.length 0) (el_if (b := (added a i v).isReady) (et_B (ev_own mo_IR (ea_cons (ev_var rfl) ea_nil) ⟨p, _, rfl, I6, rfl⟩)) (fun hb => ?_) (fun hb => ?_)) rfl fun H7 F7 M7 f1 f2 f3 => ?_
    · refine el_is (el_rep (el_lst (ea_cons ev_c ea_nil) (by simp)) (ev_own mo_PC (ea_cons (ev_var rfl) ea_nil) ⟨p, _, rfl, I6, rfl⟩) (by simp; omega) (by omega)) ?_
      rw [flat_one, profiles_length]
      simp
    · refine el_is (el_lst ea_nil (by simp)) ?_
      have h0 : cnt (added a i v).types = 0 := by
        have hne : [] ∈ (added a i v).types := by
          unfold Su196.Instance.isReady at hb
          obtain ⟨l, hl, e⟩ := List.all_eq_false.mp hb
          have : l = [] := by simpa using e
          rw [← this]
          exact hl
        exact cnt_zero hne
      rw [profiles_length, h0]
      rfl
    · have M7' : IM C H7 p ((added a i v).resetAllocation) F7 := ⟨oa, M7⟩
      refine s_retL (el_lst (ea_cons (ev_is (ev_op (ev_own mo_KC (ea_cons (ev_var rfl) (ea_cons (ev_var rfl) ea_nil)) ⟨p, _, i, rfl, M7'.ia, hi, rfl⟩) ev_c rv_I0) (w := .int (a.typeCount i : Nat)) ?_) ea_nil) (by simp)) (k.go M7' (fun b hb => ?_) (fun b o hb hn => f2 b o (fr6 b o hb hn) fun z => (List.mem_cons.mp z).elim (fun z => by rw [z, hr0] at hb; cases hb) hn) fun b hb => fb6 b (f3 b hb))
      · rw [added_count o hi]
        congr 1
        omega
      · rcases f1 b hb with z | z
        · rcases List.mem_cons.mp z with z | z
          · exact .inr (by rw [z]; exact hr0)
          · exact .inl z
        · exact .inr (fb6 b z)

/-- a new list of new lists, no two of them one -/
def EvLN (te : TE) (σ : L2.St) (H : Hp) (xss : List (List V)) : Prop := ∀ H1, Ex H H1 → ∀ Q : VK, (∀ p rs H2, H1 p = none → (∀ r ∈ rs, H1 r = none) → p ∉ rs → rs.Nodup → Ex H1 H2 → H2 p = some (.lst (rs.map V.ref)) → Rws H2 rs xss → Q (.ref p) H2) → te σ H1 Q
def CLN (H1 : Hp) (xss : List (List V)) (Dl : Addr) (H' : Hp) : Prop := ∃ rs : List Addr, (Ex H1 H' ∧ H' Dl = some (.lst (rs.map V.ref)) ∧ Rws H' rs xss) ∧ Dl ∉ rs ∧ (∀ r ∈ rs, H1 r = none) ∧ rs.Nodup
theorem CLN.snoc {H1 H' H3 H4 : Hp} {Dl r : Addr} {xss : List (List V)} {xs : List V} (hD : H1 Dl = none) (hz : xss.length < 50000) (p : CLN H1 xss Dl H') (e3 : Ex H' H3) (hr : H3 r = none) (e4 : Ex H3 H4) (h4 : H4 r = some (.lst xs)) :
    ∃ acc, H4 Dl = some (.lst acc) ∧ acc.length < sizeLine ∧ CLN H1 (xss ++ [xs]) Dl (upd H4 Dl (.lst (acc ++ [.ref r]))) := by
  obtain ⟨rs, ⟨p1, p2, p3⟩, p4, p5, p6⟩ := p
  have hne : r ≠ Dl := fun z => by subst z; rw [e3 _ _ p2] at hr; cases hr
  have hnr : r ∉ rs := fun z => by
    obtain ⟨i, hi, e⟩ := List.getElem_of_mem z
    have h1 : rs[i]? = some r := by rw [List.getElem?_eq_getElem hi, e]
    have h2 := p3.at_ i r _ h1 (List.getElem?_eq_getElem (by rw [← p3.len]; exact hi))
    rw [e3 _ _ h2] at hr
    cases hr
  refine ⟨rs.map V.ref, e4 _ _ (e3 _ _ p2), ?_, rs ++ [r], ⟨((p1.trans e3).trans e4).mut hD, ?_, ?_⟩, ?_, ?_, ?_⟩
  · rw [List.length_map, p3.len]
    exact Nat.lt_of_lt_of_le hz (by decide)
  · rw [List.map_append]
    exact upd_same
  · exact ((p3.mono (e3.trans e4)).upd p4).snoc ((upd_ne hne).trans h4)
  · simp [p4]
    exact fun z => hne z.symm
  · intro y hy
    rcases List.mem_append.mp hy with hy | hy
    · exact p5 y hy
    · simp at hy
      subst hy
      exact fresh_back (p1.trans e3) hr
  · rw [List.nodup_append]
    exact ⟨p6, by simp, fun x hx y hy => by
      simp at hy
      subst hy
      exact fun z => hnr (z ▸ hx)⟩
theorem eln_lcR1 {σ : L2.St} {H : Hp} {te : TE} {ta : TA} {j : Nat} {vs : List Nat} {n : Int} (v : Nat → List V) (h : EvA ta σ H [.int n]) (hn : 0 ≤ n ∧ n ≤ 40000) (hw : ∀ x, wipe ((wipe σ vs).set j (some x)) vs = wipe σ vs)
    (he : ∀ (i : Nat) H1, Ex H H1 → (i : Int) < n → EvL te ((wipe σ vs).set j (some (.int (i : Int)))) H1 (v i)) :
    EvLN (tLc (iRng1 ta) (gName j) tYes te vs) σ H ((List.range n.toNat).map v) := fun H0 e Q q => h H0 e _ fun H1 e1 => ⟨n, rfl, by omega, by omega, fun Dl hD =>
  lc_range (lo := 0) (n := n.toNat) (fun i H' => CLN H1 ((List.range i).map v) Dl H') ⟨[], ⟨Ex.new hD, upd_same, Rws.nil⟩, by simp, by simp, by simp⟩ (fun i H' hi p => by
    have e0 : (0 : Int) + (i : Int) = (i : Int) := Int.zero_add _
    show wipe ((wipe σ vs).set j (some (.int ((0 : Int) + (i : Int))))) vs = wipe σ vs ∧ te ((wipe σ vs).set j (some (.int ((0 : Int) + (i : Int))))) H' fun y H4 => ∃ acc, H4 Dl = some (.lst acc) ∧ acc.length < sizeLine ∧ CLN H1 ((List.range (i + 1)).map v) Dl (upd H4 Dl (.lst (acc ++ [y])))
    rw [e0]
    refine ⟨hw _, he i H' ((e.trans e1).trans p.choose_spec.1.1) (by omega) H' (Ex.refl _) _ fun r H3 hr e3 h3 => ?_⟩
    have q := p.snoc hD (by simp; omega) (Ex.refl _) hr e3 h3
    rw [List.range_succ, List.map_append]
    exact q) (fun H' ⟨rs, ⟨p1, p2, p3⟩, p4, p5, p6⟩ => q Dl rs H' (fresh_back e1 hD) (fun r hr => fresh_back e1 (p5 r hr)) p4 p6 (e1.trans p1) p2 p3)⟩
theorem q_fldLN {σ : L2.St} {H : Hp} {tv : TE} {tz : TS} {Dd : Ends} {i : Nat} {p dx : Addr} {fs : List (Str × V)} {ff : Str} {xss : List (List V)} (hv : EvLN tv σ H xss) (hp : σ[i]? = some (some (.ref p))) (ho : H p = some (.ins C dx fs)) (cl : Cls K C) (na : NoAttr K C ff) (hl : fs.length < 1000)
    (k : ∀ pk rs H1, H pk = none → (∀ r ∈ rs, H r = none) → pk ∉ rs → rs.Nodup → Ex H H1 → H1 pk = some (.lst (rs.map V.ref)) → Rws H1 rs xss → tz Dd σ (upd H1 p (.ins C dx (putF ff (.ref pk) fs)))) : tSeq (sFld K (tVar i) tv ff) tz Dd σ H :=
  hv H (Ex.refl H) _ fun pk rs H1 h1 h2 h3 h4 e h5 R => ⟨.ref p, hp, p, C, dx, fs, rfl, e _ _ ho, cl, na, hl, k pk rs H1 h1 h2 h3 h4 e h5 R⟩
abbrev s_Instance_init : Stmt := inClass (top 6) 0
/-- 0 self; 1 agent_count; 2 alternative_count; 3 agent -/
theorem sc_Instance_init : FnScope ["self", "agent_count", "alternative_count", "agent"] ["self", "agent_count", "alternative_count"] (defScope s_Instance_init) := ⟨rfl, rfl, rfl, by decide +kernel, rfl, by decide +kernel, by decide +kernel⟩
def spII (C : Addr) : Sp := fun vs H Q _ => ∃ p dx n m, vs = [.ref p, .int (n : Nat), .int (m : Nat)] ∧ H p = some (.ins C dx []) ∧ (1 ≤ n ∧ n ≤ 3 ∧ 2 ≤ m ∧ m ≤ 4) ∧ ∀ H' F, IM C H' p (Su196.create n m) F → (∀ b ∈ F, b = p ∨ H b = none) → (∀ b o, H b = some o → b ≠ p → H' b = some o) → Q .non H'
theorem ok_create {n m : Nat} (h : 1 ≤ n ∧ n ≤ 3 ∧ 2 ≤ m ∧ m ≤ 4) : Ok (Su196.create n m) := by
  obtain ⟨h1, h2, h3, h4⟩ := h
  refine ⟨h1, h2, h3, h4, by simp [Su196.create], fun l hl => ?_, fun l hl v hv => ?_, fun l hl v hv => ?_, ?_, fun x hx => ?_⟩
  · rw [(List.mem_replicate.mp hl).2]
    simp
  · rw [(List.mem_replicate.mp hl).2] at hv
    cases hv
  · rw [(List.mem_replicate.mp hl).2] at hv
    cases hv
  · have : [] ∈ (Su196.create n m).types := List.mem_replicate.mpr ⟨by omega, rfl⟩
    rw [cnt_zero this]
    rfl
  · cases hx
theorem ok_Instance_init (T : Txt K mg C D) (F : Fun K "__init__" "Instance.__init__" s_Instance_init f fd) : FnOk P w K mg base CX0 1 f fd ["self", "agent_count", "alternative_count"] (spII C) := by
  refine F.ok sc_Instance_init (fun vs H Q E h => ?_) (fun cdv A outer s H vs Q E hr h => ?_)
  · obtain ⟨p, dx, n, m, rfl, _⟩ := h
    rfl
  · obtain ⟨p, dx, n, m, rfl, hp, hnm, k⟩ := h
    refine ⟨_, (pss_cons (ps_fld (pv 0) (pv 2) rfl) (pss_cons (ps_fld (pv 0) (pe_lc (own := [("agent", 3)]) (g := gName 3) (tt := tYes) rfl sc_Instance_init.nd (pi_range1 rfl T.range (pa_cons (pv 1) pa_nil)) (blkOk_by (N := ["self", "agent_count", "alternative_count", "agent"]) (sc := defScope s_Instance_init) (by decide +kernel)) (fun _ _ _ _ _ => pg_name (i := 3) sc_Instance_init.nd rfl (Or.inl rfl)) (fun _ _ _ _ _ => pts_nil) (fun _ _ _ _ _ => (pe_lst pa_nil))) rfl) (pss_one (ps_fld (pv 0) (pe_lst pa_nil) rfl)))), ?_⟩
    refine ⟨_, rfl, _, rfl, p, C, dx, [], rfl, hp, T.cl, T.nA, (by show 0 < 1000; decide), ?_⟩
    refine q_fldLN (eln_lcR1 (n := (n : Nat)) (fun _ => []) (ea_cons (ev_var rfl) ea_nil) (by omega) (fun x => rfl) (fun i H1 e1 hi => el_lst ea_nil (by simp))) rfl upd_same T.cl T.nK (by show 1 < 1000; decide) fun pk rs H1 hpk hrs hn hnd e1 h1 R => ?_
    refine ⟨Nat.zero_le _, fun pa hpa => ⟨_, rfl, p, C, dx, putF "kinds" (.ref pk) (putF "alternative_count" (.int (m : Nat)) []), rfl, ?_, T.cl, T.nL, (by show 2 < 1000; decide), ?_⟩⟩
    · refine (upd_ne fun z => ?_).trans upd_same
      rw [z, upd_same] at hpa
      cases hpa
    have hpp : p ≠ pa := fun z => by rw [← z, upd_same] at hpa; cases hpa
    have hpkp : pk ≠ p := fun z => by rw [z, upd_same] at hpk; cases hpk
    have hpa1 : H1 pa = none := by rwa [upd_ne (Ne.symm hpp)] at hpa
    have hpkpa : pk ≠ pa := fun z => by rw [← z, h1] at hpa1; cases hpa1
    have hrp : ∀ r ∈ rs, r ≠ p := fun r hr z => by
      have := hrs r hr
      rw [z, upd_same] at this
      cases this
    have hrl : rs.length = n := by
      have := R.len
      rw [Int.toNat_natCast] at this
      simpa using this
    have hrg : ∀ (i : Nat) r, rs[i]? = some r → H1 r = some (.lst []) := fun i r hr => by
      refine R.at_ i r [] hr ?_
      have hi := (List.getElem?_eq_some_iff.mp hr).1
      rw [List.getElem?_map, List.getElem?_range (by rw [Int.toNat_natCast]; omega)]
      rfl
    have hrpa : ∀ r ∈ rs, r ≠ pa := fun r hr z => by
      obtain ⟨i, hi, e⟩ := List.getElem_of_mem hr
      have := hrg i r (by rw [List.getElem?_eq_getElem hi, e])
      rw [z, hpa1] at this
      cases this
    have hpkn : pk ∉ rs := hn
    have ef : putF "allocation" (.ref pa) (putF "kinds" (.ref pk) (putF "alternative_count" (.int (m : Nat)) [])) = iF m pk pa := by
      refine Eq.trans (congrArg (putF "allocation" (.ref pa)) ((put_past (by decide +kernel)).trans rfl)) ?_
      exact (put_past (by decide +kernel)).trans (congrArg _ ((put_past (by decide +kernel)).trans rfl))
    refine k _ (p :: pk :: pa :: rs) ⟨ok_create hnm, pk, pa, rs, List.replicate n [], ⟨⟨dx, ?_⟩, ?_, ?_, by simp [Su196.create, hrl], by simp [Su196.create], fun i q rs' h2 h3 => ?_, fun i rs' l h2 h3 => ?_⟩, ?_, fun rs' h2 r h3 => ?_, fun b hb => hb, fun rs' h2 r h3 => ?_, ?_⟩ ?_ ?_
    · rw [ef]
      exact upd_same
    · exact (upd_ne hpkp).trans ((upd_ne hpkpa).trans ((upd_ne hpkp).trans h1))
    · exact (upd_ne (Ne.symm hpp)).trans upd_same
    · have hq := List.mem_of_getElem? h2
      rw [(List.mem_replicate.mp (List.mem_of_getElem? h3)).2]
      exact (upd_ne (hrp q hq)).trans ((upd_ne (hrpa q hq)).trans ((upd_ne (hrp q hq)).trans (hrg i q h2)))
    · have h3 : (List.replicate n ([] : List (List Int)))[i]? = some l := h3
      rw [(List.mem_replicate.mp (List.mem_of_getElem? h2)).2, (List.mem_replicate.mp (List.mem_of_getElem? h3)).2]
      exact Rws.nil
    · simp only [List.nodup_cons, List.mem_cons, not_or]
      exact ⟨⟨Ne.symm hpkp, hpp, fun z => hrp p z rfl⟩, ⟨hpkpa, hpkn⟩, fun z => hrpa pa z rfl, hnd⟩
    · rw [(List.mem_replicate.mp h2).2] at h3
      cases h3
    · rw [(List.mem_replicate.mp h2).2] at h3
      cases h3
    · refine dom_upd fun b hb => ?_
      simp only [List.mem_cons] at hb
      rcases hb with z | z | z | z
      · rw [z, upd_ne hpp, upd_same]
        exact fun z => nomatch z
      · rw [z, upd_ne hpkpa, upd_ne hpkp, h1]
        exact fun z => nomatch z
      · rw [z, upd_same]
        exact fun z => nomatch z
      · obtain ⟨i, hi, e⟩ := List.getElem_of_mem z
        rw [upd_ne (hrpa b z), upd_ne (hrp b z), hrg i b (by rw [List.getElem?_eq_getElem hi, e])]
        exact fun z => nomatch z
    · intro b hb
      simp only [List.mem_cons] at hb
      have ea : Ex (upd H p (.ins C dx (putF "alternative_count" (.int (m : Nat)) []))) H1 := e1
      have back : ∀ b, b ≠ p → upd H p (.ins C dx (putF "alternative_count" (.int (m : Nat)) [])) b = none → H b = none := fun b hb h => by rwa [upd_ne hb] at h
      rcases hb with z | z | z | z
      · exact .inl z
      · rw [z]
        exact .inr (back _ hpkp hpk)
      · rw [z]
        exact .inr (back _ (Ne.symm hpp) (fresh_back ea hpa1))
      · exact .inr (back _ (hrp b z) (hrs b z))
    · intro b o hb hbp
      have h5 := e1 b o ((upd_ne hbp).trans hb)
      have hbpa : b ≠ pa := fun z => by rw [z, hpa1] at h5; cases h5
      exact (upd_ne hbp).trans ((upd_ne hbpa).trans ((upd_ne hbp).trans h5))
end
end Tp
namespace Tp
open PySem PySem.Spec PyProof.Rows L2 Evl
section
variable {P : Program} {w : World} {K : PySem.W.Frag} {mg : Str → Option Value} {base : Heap} {C D : Addr} {f : Addr} {fd : FuncData}
/-- a call, its numbers and rows, and the specification's operation -/
inductive Req : Nat → List Nat → List (List V) → Su196.Operation → Prop
  | create (n m : Nat) : Req 0 [n, m] [] (.create n m)
  | add (i : Nat) (v : List Int) : v.length ≤ 1000 → Req 1 [i] [il v] (.addType i v)
  | set (x : Nat) (t : List Nat) : Req 2 [x] [nl t] (.setAllocation x t)
  | alloc (t : List Nat) : Req 3 [] [nl t] (.allocation t)
  | wmax : Req 4 [] [] .useWelfareMaximizer
  | amax (l : List Nat) : Req 5 [] [nl l] (.useAffineMaximizer l)
  | gmax (i : Nat) : Req 6 [i] [] (.useAgentMaximizer i)
  | loss (i l : Nat) (t : List Nat) : Req 7 [i, l] [nl t] (.misreportLoss i l t)
  | cyc : Req 8 [] [] .isCyclicallyMonotonic
  | weak : Req 9 [] [] .isWeaklyMonotonic
  | bounds (i : Nat) (t : List Nat) : Req 10 [i] [nl t] (.paymentBounds i t)
  | truth (i : Nat) (t : List Nat) (ns : List Int) : ns.length ≤ 1000 → Req 11 [i] [nl t, il ns] (.areTruthfulPayments i t ns)
  | piv (t : List Nat) : Req 12 [] [nl t] (.pivotPayments t)
  | welf (t : List Nat) : Req 13 [] [nl t] (.welfare t)
  | desc : Req 14 [] [] .describe
/-- where a call's numbers and rows lie -/
structure Dat (H : Hp) (pn pw : Addr) (nums : List Nat) (rows : List (List V)) : Prop where
  n : H pn = some (.lst (nl nums))
  w : ∃ rs : List Addr, H pw = some (.lst (rs.map V.ref)) ∧ Rws H rs rows
theorem Dat.mono {H H' : Hp} {pn pw : Addr} {nums : List Nat} {rows : List (List V)} (d : Dat H pn pw nums rows) (e : Ex H H') : Dat H' pn pw nums rows := by
  obtain ⟨h1, rs, h2, h3⟩ := d
  exact ⟨e _ _ h1, rs, e _ _ h2, h3.mono e⟩
theorem Dat.one {H : Hp} {pn pw : Addr} {nums : List Nat} {xs : List V} (d : Dat H pn pw nums [xs]) : ∃ r, H pw = some (.lst [.ref r]) ∧ H r = some (.lst xs) := by
  obtain ⟨h1, rs, h2, h3⟩ := d
  match rs, h3.len with
  | [r], _ => exact ⟨r, h2, h3.at_ 0 r xs rfl rfl⟩
theorem Dat.two {H : Hp} {pn pw : Addr} {nums : List Nat} {xs ys : List V} (d : Dat H pn pw nums [xs, ys]) : ∃ r s, H pw = some (.lst [.ref r, .ref s]) ∧ H r = some (.lst xs) ∧ H s = some (.lst ys) := by
  obtain ⟨h1, rs, h2, h3⟩ := d
  match rs, h3.len with
  | [r, s], _ => exact ⟨r, s, h2, h3.at_ 0 r xs rfl rfl, h3.at_ 1 s ys rfl rfl⟩

/-! if number == m: .. -/
theorem q_skip {σ : L2.St} {H : Hp} {tu tz : TS} {Dd : Ends} {i : Nat} {q m : Int} (h : q ≠ m) (hv : σ[i]? = some (some (.int q))) (k : ∀ H1, Ex H H1 → tz Dd σ H1) : tSeq (tIfS (tTest (tOp rEq (tVar i) (tC (.int m)))) tu tNext) tz Dd σ H :=
  q_when (et_test (ev_op (ev_var hv) ev_c (rv_eq rfl))) (fun hb => absurd (of_decide_eq_true hb) fun z => h (by injection z)) fun _ H1 e => k H1 e
theorem q_take {σ : L2.St} {H : Hp} {tu tz : TS} {Dd : Ends} {i : Nat} {m : Int} (hv : σ[i]? = some (some (.int m))) (k : ∀ H1, Ex H H1 → tu { Dd with nx := tz Dd } σ H1) : tSeq (tIfS (tTest (tOp rEq (tVar i) (tC (.int m)))) tu tNext) tz Dd σ H :=
  q_when (et_test (ev_op (ev_var hv) ev_c (rv_eq rfl))) (fun _ H1 e => k H1 e) fun hb => absurd (of_decide_eq_false hb) fun z => z rfl
/-- return f(..), the promise as it stands -/
theorem s_retC {σ : L2.St} {H : Hp} {Dd : Ends} {sp : Sp} {E : XK} {ta : TA} {vs : List V} (h : EvA ta σ H vs) (k : ∀ H1, Ex H H1 → sp vs H1 Dd.rt E) : tRet (tCall sp [] E ta) Dd σ H :=
  h H (Ex.refl H) _ fun H1 e1 => by
    rw [List.append_nil]
    exact k H1 e1
theorem retM_ex {H H1 : Hp} {p : Addr} {a' : Su196.Instance} {F : List Addr} {xs : List V} {Q : VK} (k : RetM C p a' F xs H Q) (e : Ex H H1) : RetM C p a' F xs H1 Q := fun r H' F' M h1 h2 hr hn h =>
  k r H' F' M (fun b hb => (h1 b hb).imp id (fresh_back e)) (fun b o hb hn => h2 b o (e b o hb) hn) (fresh_back e hr) hn h
theorem same_of {a : Su196.Instance} {op : Su196.Operation} {q : Nat} {nums : List Nat} {rows : List (List V)} (r : Req q nums rows op) (h : q = 3 ∨ 7 ≤ q) : (Su196.execute a op).1 = a := by
  cases r <;> first | (exfalso; omega) | skip
  all_goals (simp only [Su196.execute]; repeat' split) <;> rfl
theorem notready {a : Su196.Instance} {op : Su196.Operation} {q : Nat} {nums : List Nat} {rows : List (List V)} (r : Req q nums rows op) (h : 2 ≤ q ∧ q ≤ 13) (hr : a.isReady = false) : Su196.execute a op = (a, Su196.error (-16)) := by
  cases r <;> first | (exfalso; omega) | skip
  all_goals (unfold Su196.execute; simp only [hr]; rfl)

abbrev s_first_answer : Stmt := top 81
/-- 0 number; 1 instance; 2 numbers; 3 rows -/
theorem sc_first_answer : FnScope ["number", "instance", "numbers", "rows"] ["number", "instance", "numbers", "rows"] (defScope s_first_answer) := ⟨rfl, rfl, rfl, by decide +kernel, rfl, by decide +kernel, by decide +kernel⟩
def spFA (C : Addr) : Sp := fun vs H Q _ => ∃ p a F q pn pw nums rows op, vs = [.int (q : Nat), .ref p, .ref pn, .ref pw] ∧ (IM C H p a F ∧ Dat H pn pw nums rows ∧ Req q nums rows op) ∧ (a.isReady = true ∧ 2 ≤ q ∧ q ≤ 7) ∧ RetM C p (Su196.execute a op).1 F (ex a op) H Q
theorem ok_first_answer (T : Txt K mg C D) (O_set_allocation : Own P w K mg base "set_allocation" 3 ["instance", "numbers", "rows"] (spSA C)) (O_answer_allocation : Own P w K mg base "answer_allocation" 3 ["instance", "rows"] (pL (rQA C))) (O_use_welfare_maximizer : Own P w K mg base "use_welfare_maximizer" 5 ["instance", "numbers", "rows"] (spUW C)) (O_use_affine_maximizer : Own P w K mg base "use_affine_maximizer" 5 ["instance", "numbers", "rows"] (spUF C)) (O_use_agent_maximizer : Own P w K mg base "use_agent_maximizer" 4 ["instance", "numbers", "rows"] (spUG C)) (O_answer_loss : Own P w K mg base "answer_loss" 4 ["instance", "numbers", "rows"] (pL (rQL C)))
    (F : Fun K "first_answer" "first_answer" s_first_answer f fd) : FnOk P w K mg base CX0 6 f fd ["number", "instance", "numbers", "rows"] (spFA C) := by
  refine F.ok sc_first_answer (fun vs H Q E h => ?_) (fun cdv A outer s H vs Q E hr h => ?_)
  · obtain ⟨p, a, F, q, pn, pw, nums, rows, op, rfl, _⟩ := h
    rfl
  · obtain ⟨p, a, F, q, pn, pw, nums, rows, op, rfl, ⟨M, dt, r⟩, ⟨hrd, hq2, hq7⟩, k⟩ := h
    refine ⟨_, (pss_cons (ps_if (pt_cmpR op_eq (pv 0) pe_int (nomark _)) (pss_one (ps_ret (pe_own O_set_allocation (hr.mono (by decide)) (pa_cons (pv 1) (pa_cons (pv 2) (pa_cons (pv 3) pa_nil)))))) pss_nil) (pss_cons (ps_if (pt_cmpR op_eq (pv 0) pe_int (nomark _)) (pss_one (ps_ret (pe_own O_answer_allocation (hr.mono (by decide)) (pa_cons (pv 1) (pa_cons (pv 3) pa_nil))))) pss_nil) (pss_cons (ps_if (pt_cmpR op_eq (pv 0) pe_int (nomark _)) (pss_one (ps_ret (pe_own O_use_welfare_maximizer (hr.mono (by decide)) (pa_cons (pv 1) (pa_cons (pv 2) (pa_cons (pv 3) pa_nil)))))) pss_nil) (pss_cons (ps_if (pt_cmpR op_eq (pv 0) pe_int (nomark _)) (pss_one (ps_ret (pe_own O_use_affine_maximizer (hr.mono (by decide)) (pa_cons (pv 1) (pa_cons (pv 2) (pa_cons (pv 3) pa_nil)))))) pss_nil) (pss_cons (ps_if (pt_cmpR op_eq (pv 0) pe_int (nomark _)) (pss_one (ps_ret (pe_own O_use_agent_maximizer (hr.mono (by decide)) (pa_cons (pv 1) (pa_cons (pv 2) (pa_cons (pv 3) pa_nil)))))) pss_nil) (pss_one (ps_ret (pe_own O_answer_loss (hr.mono (by decide)) (pa_cons (pv 1) (pa_cons (pv 2) (pa_cons (pv 3) pa_nil))))))))))), ?_⟩
    have sm := same_of (a := a) r
    have ag : ∀ {σ : L2.St} {H1 : Hp}, σ = [some (.int (q : Nat)), some (.ref p), some (.ref pn), some (.ref pw)] → EvA (tCons (tVar 1) (tCons (tVar 2) (tCons (tVar 3) tNil))) σ H1 [.ref p, .ref pn, .ref pw] := fun {σ} {H1} e => by
      subst e
      exact ea_cons (ev_var rfl) (ea_cons (ev_var rfl) (ea_cons (ev_var rfl) ea_nil))
    cases r <;> first | (exfalso; omega) | skip
    case set x t =>
      refine q_take rfl fun H1 e1 => s_retC (ag rfl) fun H2 e2 => ?_
      have e := e1.trans e2
      obtain ⟨r, d1, d2⟩ := (dt.mono e).one
      exact ⟨p, a, F, pn, x, pw, r, t, rfl, ⟨M.mono e, (dt.mono e).n, d1, d2⟩, hrd, retM_ex k e⟩
    case alloc t =>
      refine q_skip (by decide) rfl fun H1 e1 => q_take rfl fun H2 e2 => ?_
      have e := e1.trans e2
      obtain ⟨r, d1, d2⟩ := (dt.mono e).one
      rw [sm (by omega)] at k
      exact s_retL (el_own mo_QA (ea_cons (ev_var rfl) (ea_cons (ev_var rfl) ea_nil)) ⟨p, a, pw, r, t, rfl, ⟨M.ia.mono e, d1, d2⟩, hrd, rfl⟩) (ret_ex (k.same M) e)
    case wmax =>
      refine q_skip (by decide) rfl fun H1 e1 => q_skip (by decide) rfl fun H2 e2 => q_take rfl fun H3 e3 => s_retC (ag rfl) fun H4 e4 => ?_
      have e := ((e1.trans e2).trans e3).trans e4
      exact ⟨p, a, F, _, _, rfl, M.mono e, hrd, retM_ex k e⟩
    case amax l =>
      refine q_skip (by decide) rfl fun H1 e1 => q_skip (by decide) rfl fun H2 e2 => q_skip (by decide) rfl fun H3 e3 => q_take rfl fun H4 e4 => s_retC (ag rfl) fun H5 e5 => ?_
      have e := (((e1.trans e2).trans e3).trans e4).trans e5
      obtain ⟨r, d1, d2⟩ := (dt.mono e).one
      exact ⟨p, a, F, _, pw, r, l, rfl, ⟨M.mono e, d1, d2⟩, hrd, retM_ex k e⟩
    case gmax i =>
      refine q_skip (by decide) rfl fun H1 e1 => q_skip (by decide) rfl fun H2 e2 => q_skip (by decide) rfl fun H3 e3 => q_skip (by decide) rfl fun H4 e4 => q_take rfl fun H5 e5 => s_retC (ag rfl) fun H6 e6 => ?_
      have e := ((((e1.trans e2).trans e3).trans e4).trans e5).trans e6
      exact ⟨p, a, F, pn, i, _, rfl, ⟨M.mono e, (dt.mono e).n⟩, hrd, retM_ex k e⟩
    case loss i l t =>
      refine q_skip (by decide) rfl fun H1 e1 => q_skip (by decide) rfl fun H2 e2 => q_skip (by decide) rfl fun H3 e3 => q_skip (by decide) rfl fun H4 e4 => q_skip (by decide) rfl fun H5 e5 => ?_
      have e := (((e1.trans e2).trans e3).trans e4).trans e5
      obtain ⟨r, d1, d2⟩ := (dt.mono e).one
      rw [sm (by omega)] at k
      exact s_retL (el_own mo_QL (ag rfl) ⟨p, a, pn, i, l, pw, r, t, rfl, ⟨M.ia.mono e, (dt.mono e).n, d1, d2⟩, hrd, rfl⟩) (ret_ex (k.same M) e)

abbrev s_last_answer : Stmt := top 82
/-- 0 number; 1 instance; 2 numbers; 3 rows -/
theorem sc_last_answer : FnScope ["number", "instance", "numbers", "rows"] ["number", "instance", "numbers", "rows"] (defScope s_last_answer) := ⟨rfl, rfl, rfl, by decide +kernel, rfl, by decide +kernel, by decide +kernel⟩
def spLA (C : Addr) : Sp := fun vs H Q _ => ∃ p a q pn pw nums rows op, vs = [.int (q : Nat), .ref p, .ref pn, .ref pw] ∧ (IA C H p a ∧ Dat H pn pw nums rows ∧ Req q nums rows op) ∧ (a.isReady = true ∧ 8 ≤ q ∧ q ≤ 13) ∧ RetL (ex a op) H Q
theorem ok_last_answer (T : Txt K mg C D) (O_answer_all_cycles : Own P w K mg base "answer_all_cycles" 8 ["instance"] (pL (rQ8 C))) (O_answer_short_cycles : Own P w K mg base "answer_short_cycles" 8 ["instance"] (pL (rQ9 C))) (O_answer_bounds : Own P w K mg base "answer_bounds" 8 ["instance", "numbers", "rows"] (pL (rQB C))) (O_answer_truthful : Own P w K mg base "answer_truthful" 5 ["instance", "numbers", "rows"] (pL (rQT C))) (O_answer_pivots : Own P w K mg base "answer_pivots" 6 ["instance", "rows"] (pL (rQP C))) (O_answer_welfare : Own P w K mg base "answer_welfare" 4 ["instance", "rows"] (pL (rQW C)))
    (F : Fun K "last_answer" "last_answer" s_last_answer f fd) : FnOk P w K mg base CX0 9 f fd ["number", "instance", "numbers", "rows"] (spLA C) := by
  refine F.ok sc_last_answer (fun vs H Q E h => ?_) (fun cdv A outer s H vs Q E hr h => ?_)
  · obtain ⟨p, a, q, pn, pw, nums, rows, op, rfl, _⟩ := h
    rfl
  · obtain ⟨p, a, q, pn, pw, nums, rows, op, rfl, ⟨I, dt, r⟩, ⟨hrd, hq2, hq7⟩, k⟩ := h
    refine ⟨_, (pss_cons (ps_if (pt_cmpR op_eq (pv 0) pe_int (nomark _)) (pss_one (ps_ret (pe_own O_answer_all_cycles (hr.mono (by decide)) (pa_cons (pv 1) pa_nil)))) pss_nil) (pss_cons (ps_if (pt_cmpR op_eq (pv 0) pe_int (nomark _)) (pss_one (ps_ret (pe_own O_answer_short_cycles (hr.mono (by decide)) (pa_cons (pv 1) pa_nil)))) pss_nil) (pss_cons (ps_if (pt_cmpR op_eq (pv 0) pe_int (nomark _)) (pss_one (ps_ret (pe_own O_answer_bounds (hr.mono (by decide)) (pa_cons (pv 1) (pa_cons (pv 2) (pa_cons (pv 3) pa_nil)))))) pss_nil) (pss_cons (ps_if (pt_cmpR op_eq (pv 0) pe_int (nomark _)) (pss_one (ps_ret (pe_own O_answer_truthful (hr.mono (by decide)) (pa_cons (pv 1) (pa_cons (pv 2) (pa_cons (pv 3) pa_nil)))))) pss_nil) (pss_cons (ps_if (pt_cmpR op_eq (pv 0) pe_int (nomark _)) (pss_one (ps_ret (pe_own O_answer_pivots (hr.mono (by decide)) (pa_cons (pv 1) (pa_cons (pv 3) pa_nil))))) pss_nil) (pss_one (ps_ret (pe_own O_answer_welfare (hr.mono (by decide)) (pa_cons (pv 1) (pa_cons (pv 3) pa_nil)))))))))), ?_⟩
    have ag : ∀ {σ : L2.St} {H1 : Hp}, σ = [some (.int (q : Nat)), some (.ref p), some (.ref pn), some (.ref pw)] → EvA (tCons (tVar 1) (tCons (tVar 2) (tCons (tVar 3) tNil))) σ H1 [.ref p, .ref pn, .ref pw] := fun {σ} {H1} e => by
      subst e
      exact ea_cons (ev_var rfl) (ea_cons (ev_var rfl) (ea_cons (ev_var rfl) ea_nil))
    cases r <;> first | (exfalso; omega) | skip
    case cyc =>
      refine q_take rfl fun H1 e1 => ?_
      exact s_retL (el_own mo_Q8 (ea_cons (ev_var rfl) ea_nil) ⟨p, a, rfl, I.mono e1, hrd, rfl⟩) (ret_ex k e1)
    case weak =>
      refine q_skip (by decide) rfl fun H1 e1 => q_take rfl fun H2 e2 => ?_
      have e := e1.trans e2
      exact s_retL (el_own mo_Q9 (ea_cons (ev_var rfl) ea_nil) ⟨p, a, rfl, I.mono e, hrd, rfl⟩) (ret_ex k e)
    case bounds i t =>
      refine q_skip (by decide) rfl fun H1 e1 => q_skip (by decide) rfl fun H2 e2 => q_take rfl fun H3 e3 => ?_
      have e := (e1.trans e2).trans e3
      obtain ⟨r, d1, d2⟩ := (dt.mono e).one
      exact s_retL (el_own mo_QB (ag rfl) ⟨p, a, pn, i, pw, r, t, rfl, ⟨I.mono e, (dt.mono e).n, d1, d2⟩, hrd, rfl⟩) (ret_ex k e)
    case truth i t ns hz =>
      refine q_skip (by decide) rfl fun H1 e1 => q_skip (by decide) rfl fun H2 e2 => q_skip (by decide) rfl fun H3 e3 => q_take rfl fun H4 e4 => ?_
      have e := ((e1.trans e2).trans e3).trans e4
      obtain ⟨r, s, d1, d2, d3⟩ := (dt.mono e).two
      exact s_retL (el_own mo_QT (ag rfl) ⟨p, a, pn, i, pw, r, t, s, ns, rfl, ⟨I.mono e, (dt.mono e).n, d1, d2, d3⟩, ⟨hrd, hz⟩, rfl⟩) (ret_ex k e)
    case piv t =>
      refine q_skip (by decide) rfl fun H1 e1 => q_skip (by decide) rfl fun H2 e2 => q_skip (by decide) rfl fun H3 e3 => q_skip (by decide) rfl fun H4 e4 => q_take rfl fun H5 e5 => ?_
      have e := (((e1.trans e2).trans e3).trans e4).trans e5
      obtain ⟨r, d1, d2⟩ := (dt.mono e).one
      exact s_retL (el_own mo_QP (ea_cons (ev_var rfl) (ea_cons (ev_var rfl) ea_nil)) ⟨p, a, pw, r, t, rfl, ⟨I.mono e, d1, d2⟩, hrd, rfl⟩) (ret_ex k e)
    case welf t =>
      refine q_skip (by decide) rfl fun H1 e1 => q_skip (by decide) rfl fun H2 e2 => q_skip (by decide) rfl fun H3 e3 => q_skip (by decide) rfl fun H4 e4 => q_skip (by decide) rfl fun H5 e5 => ?_
      have e := (((e1.trans e2).trans e3).trans e4).trans e5
      obtain ⟨r, d1, d2⟩ := (dt.mono e).one
      exact s_retL (el_own mo_QW (ea_cons (ev_var rfl) (ea_cons (ev_var rfl) ea_nil)) ⟨p, a, pw, r, t, rfl, ⟨I.mono e, d1, d2⟩, hrd, rfl⟩) (ret_ex k e)
end
end Tp
namespace Tp
open PySem PySem.Spec PyProof.Rows L2 Evl
section
variable {P : Program} {w : World} {K : PySem.W.Frag} {mg : Str → Option Value} {base : Heap} {C D : Addr} {f : Addr} {fd : FuncData}
/-! the desk -/
def dF (v : V) : List (Str × V) := [("instance", v)]
theorem dF_get (v : V) : (dF v).lookup ("instance" : Str) = some v := lk_here
theorem dF_no (v : V) {m : Str} (h : (m == ("instance" : Str)) = false) : (dF v).lookup m = none := (lk_past h).trans rfl
theorem dF_put (v x : V) : putF "instance" x (dF v) = dF x := put_here
/-- the desk at d has the instance st, which owns F -/
def DA (C D : Addr) (H : Hp) (d : Addr) (st : Option Su196.Instance) (F : List Addr) : Prop := ∃ dx v, H d = some (.ins D dx (dF v)) ∧ match st with
  | none => v = .non ∧ F = []
  | some a => ∃ p, v = .ref p ∧ IM C H p a F ∧ d ∉ F
theorem DA.mono {H H' : Hp} {d : Addr} {st : Option Su196.Instance} {F : List Addr} (A : DA C D H d st F) (e : Ex H H') : DA C D H' d st F := by
  obtain ⟨dx, v, h, q⟩ := A
  refine ⟨dx, v, e _ _ h, ?_⟩
  cases st with
  | none => exact q
  | some a =>
    obtain ⟨p, h1, M, h2⟩ := q
    exact ⟨p, h1, M.mono e, h2⟩
theorem DA.out {H : Hp} {d : Addr} {st : Option Su196.Instance} {F : List Addr} (A : DA C D H d st F) {b : Addr} (hb : H b = none) : b ∉ F ∧ b ≠ d := by
  obtain ⟨dx, v, h, q⟩ := A
  refine ⟨?_, fun z => by rw [z, h] at hb; cases hb⟩
  cases st with
  | none => rw [q.2]; simp
  | some a =>
    obtain ⟨p, h1, M, h2⟩ := q
    exact M.2.out hb
theorem DA.din {H : Hp} {d : Addr} {st : Option Su196.Instance} {F : List Addr} (A : DA C D H d st F) : d ∉ F := by
  obtain ⟨dx, v, h, q⟩ := A
  cases st with
  | none => rw [q.2]; simp
  | some a =>
    obtain ⟨p, h1, M, h2⟩ := q
    exact h2
def RetD (C D d : Addr) (st : Option Su196.Instance) (F : List Addr) (xs : List V) (H : Hp) (Q : VK) : Prop := ∀ r H' F', DA C D H' d st F' → (∀ b ∈ F', b ∈ F ∨ H b = none) → (∀ b o, H b = some o → b ∉ F → b ≠ d → H' b = some o) → H r = none → r ∉ F' → r ≠ d → H' r = some (.lst xs) → Q (.ref r) H'
theorem RetD.same {H : Hp} {d : Addr} {st : Option Su196.Instance} {F : List Addr} {xs : List V} {Q : VK} (k : RetD C D d st F xs H Q) (A : DA C D H d st F) : RetL xs H Q := fun r H2 hr e h =>
  k r H2 F (A.mono e) (fun b hb => .inl hb) (fun b o hb _ _ => e b o hb) hr (A.out hr).1 (A.out hr).2 h
/-- a change of the instance, told of the desk -/
theorem RetD.inst {H : Hp} {d p dx : Addr} {a' : Su196.Instance} {F : List Addr} {xs : List V} {Q : VK} (k : RetD C D d (some a') F xs H Q) (hd : H d = some (.ins D dx (dF (.ref p)))) (hF : d ∉ F) : RetM C p a' F xs H Q := fun r H' F' M h1 h2 hr hn h =>
  k r H' F' ⟨dx, .ref p, h2 d _ hd hF, p, rfl, M, fun z => by
    rcases h1 d z with q | q
    · exact hF q
    · rw [hd] at q
      cases q⟩ h1 (fun b o hb hn _ => h2 b o hb hn) hr hn (fun z => by rw [z, hd] at hr; cases hr) h

abbrev s_Desk_init : Stmt := inClass (top 83) 0
/-- 0 self -/
theorem sc_Desk_init : FnScope ["self"] ["self"] (defScope s_Desk_init) := ⟨rfl, rfl, rfl, by decide +kernel, rfl, by decide +kernel, by decide +kernel⟩
def spDI (C D : Addr) : Sp := fun vs H Q _ => ∃ p dx, vs = [.ref p] ∧ H p = some (.ins D dx []) ∧ ∀ H', DA C D H' p none [] → (∀ b o, H b = some o → b ≠ p → H' b = some o) → Q .non H'
theorem ok_Desk_init (T : Txt K mg C D) (F : Fun K "__init__" "Desk.__init__" s_Desk_init f fd) : FnOk P w K mg base CX0 1 f fd ["self"] (spDI C D) := by
  refine F.ok sc_Desk_init (fun vs H Q E h => ?_) (fun cdv A outer s H vs Q E hr h => ?_)
  · obtain ⟨p, dx, rfl, _⟩ := h
    rfl
  · obtain ⟨p, dx, rfl, hp, k⟩ := h
    refine ⟨_, (pss_one (ps_fld (pv 0) pe_non rfl)), ?_⟩
    refine ⟨_, rfl, p, D, dx, [], rfl, hp, T.clD, T.nI, (by show 0 < 1000; decide), ?_⟩
    exact k _ ⟨dx, .non, upd_same, rfl, rfl⟩ fun b o hb hn => (upd_ne hn).trans hb

theorem q_mk {σ : L2.St} {H : Hp} {sp : Sp} {E : XK} {ta : TA} {vs : List V} {g : TE} {ff : Str} {tz : TS} {Dd : Ends} (h : EvA ta σ H vs)
    (k : ∀ H1, Ex H H1 → ∀ x dx, H1 x = none → H1 dx = none → dx ≠ x → sp (.ref x :: vs) (upd (upd H1 dx (.own x)) x (.ins C dx [])) (fun v H2 => v = .non ∧ g σ H2 fun y H3 => ∃ a C' dx' fs, y = .ref a ∧ H3 a = some (.ins C' dx' fs) ∧ Cls K C' ∧ NoAttr K C' ff ∧ fs.length < 1000 ∧ tz Dd σ (upd H3 a (.ins C' dx' (putF ff (.ref x) fs)))) E) :
    tSeq (sFld K g (tMake C sp [] E ta) ff) tz Dd σ H := h H (Ex.refl H) _ fun H1 e1 x dx hx hdx hne => by
  rw [List.append_nil]
  exact k H1 e1 x dx hx hdx hne
theorem s_retMe {σ : L2.St} {H : Hp} {sp : Sp} {E : XK} {te : TE} {tA : TA} {vs : List V} {m : Str} {Dd : Ends} {o dx : Addr} {fs : List (Str × V)} (ho : Ev te σ H (.ref o)) (hi : H o = some (.ins D dx fs)) (hn : fs.lookup m = none) (h : EvA tA σ H vs) (k : ∀ H1, Ex H H1 → sp (.ref o :: vs) H1 Dd.rt E) :
    tRet (tMeth D m sp [] E te tA) Dd σ H := ho H (Ex.refl H) _ fun H1 e1 => ⟨o, dx, fs, rfl, e1 _ _ hi, hn, h H1 e1 _ fun H2 e2 => by
  rw [List.append_nil]
  exact k H2 (e1.trans e2)⟩
abbrev s_Desk_create : Stmt := inClass (top 83) 1
/-- 0 self; 1 agents; 2 alternatives -/
theorem sc_Desk_create : FnScope ["self", "agents", "alternatives"] ["self", "agents", "alternatives"] (defScope s_Desk_create) := ⟨rfl, rfl, rfl, by decide +kernel, rfl, by decide +kernel, by decide +kernel⟩
def spDC (C D : Addr) : Sp := fun vs H Q _ => ∃ d st F n m, vs = [.ref d, .int (n : Nat), .int (m : Nat)] ∧ DA C D H d st F ∧ RetD C D d (Su196.step st (.create n m)).1 F (il (out (Su196.step st (.create n m)).2)) H Q
theorem step_create (st : Option Su196.Instance) (n m : Nat) : Su196.step st (.create n m) = if 1 ≤ n ∧ n ≤ 3 ∧ 2 ≤ m ∧ m ≤ 4 then (some (Su196.create n m), Su196.ok 0 []) else (st, Su196.error (-22)) := by
  have e : ∀ a : Su196.Instance, Su196.execute a (.create n m) = if 1 ≤ n ∧ n ≤ 3 ∧ 2 ≤ m ∧ m ≤ 4 then (Su196.create n m, Su196.ok 0 []) else (a, Su196.error (-22)) := fun a => by
    show (if n = 0 ∨ Su196.maxAgents < n ∨ m < 2 ∨ Su196.maxAlternatives < m then (a, Su196.error (-22)) else (Su196.create n m, Su196.ok 0 [])) = _
    by_cases h : 1 ≤ n ∧ n ≤ 3 ∧ 2 ≤ m ∧ m ≤ 4
    · rw [if_pos h]
      exact if_neg (by unfold Su196.maxAgents Su196.maxAlternatives; omega)
    · rw [if_neg h]
      exact if_pos (by unfold Su196.maxAgents Su196.maxAlternatives; omega)
  unfold Su196.step
  cases st with
  | none =>
    simp only [e]
    by_cases h : 1 ≤ n ∧ n ≤ 3 ∧ 2 ≤ m ∧ m ≤ 4
    · rw [if_pos h, if_pos h]
      rfl
    · rw [if_neg h, if_neg h]
      rfl
  | some a =>
    simp only [e]
    by_cases h : 1 ≤ n ∧ n ≤ 3 ∧ 2 ≤ m ∧ m ≤ 4
    · rw [if_pos h, if_pos h]
    · rw [if_neg h, if_neg h]
theorem et_chain {σ : L2.St} {H : Hp} {ta tb tc : TE} {i j l : Int} (h1 : Ev ta σ H (.int i)) (h2 : Ev tb σ H (.int j)) (h3 : Ev tc σ H (.int l)) :
    EvT (tTest (tChain (rI0 fun i j => .bl (decide (i ≤ j))) (rI0 fun i j => .bl (decide (i ≤ j))) ta tb tc)) σ H (decide (i ≤ j) && decide (j ≤ l)) := et_test (ev_chain h1 h2 h3)
theorem ok_Desk_create {fI : Addr} {fdI : FuncData} (T : Txt K mg C D) (M : Mk K C fI) (GI : FnOk P w K mg base CX0 1 fI fdI ["self", "agent_count", "alternative_count"] (spII C)) (bI : Binds K fdI ["self", "agent_count", "alternative_count"] []) (F : Fun K "create" "Desk.create" s_Desk_create f fd) : FnOk P w K mg base CX0 3 f fd ["self", "agents", "alternatives"] (spDC C D) := by
  refine F.ok sc_Desk_create (fun vs H Q E h => ?_) (fun cdv A outer s H vs Q E hr h => ?_)
  · obtain ⟨d, st, F, n, m, rfl, _⟩ := h
    rfl
  · obtain ⟨d, st, F, n, m, rfl, A, k⟩ := h
    refine ⟨_, (pss_cons (ps_if (PW.pt (pw_or (pt_not (pt_chain op_le op_le pe_int (pv 1) (pe_cst T.cMAX_AGENTS))) (pw_or1 (pt_not (pt_chain op_le op_le (pe_cst T.cLEAST_ALTERNATIVES) (pv 2) (pe_cst T.cMAX_ALTERNATIVES)))))) (pss_one (ps_ret (pe_lst (pa_cons (pe_cst T.cBAD_ARGUMENT) pa_nil)))) pss_nil) (pss_cons (ps_fld (pv 0) (pe_make M GI (hr.mono (by decide)) (by rfl) T.gC bI .nil pass0 (pa_cons (pv 1) (pa_cons (pv 2) pa_nil))) rfl) (pss_one (ps_ret (pe_lst (pa_cons pe_int pa_nil)))))), ?_⟩
    rw [step_create] at k
    refine q_when (et_or (et_not (et_chain ev_c (ev_var rfl) ev_c)) (fun _ => et_not (et_chain ev_c (ev_var rfl) ev_c))) (fun hb H1 e1 => ?_) (fun hb H1 e1 => ?_)
    · have hc : ¬ (1 ≤ n ∧ n ≤ 3 ∧ 2 ≤ m ∧ m ≤ 4) := by
        simp at hb
        omega
      rw [if_neg hc] at k
      exact s_retL (el_lst (ea_cons ev_c ea_nil) (by simp)) (ret_ex (k.same A) e1)
    · have hc : 1 ≤ n ∧ n ≤ 3 ∧ 2 ≤ m ∧ m ≤ 4 := by
        simp at hb
        omega
      rw [if_pos hc] at k
      refine q_mk (ea_cons (ev_var rfl) (ea_cons (ev_var rfl) ea_nil)) fun H2 e2 x dx hx hdx hne => ?_
      have e12 := e1.trans e2
      refine ⟨x, dx, n, m, rfl, upd_same, hc, fun H3 F3 M3 f1 f2 => ⟨rfl, ?_⟩⟩
      obtain ⟨ddx, v, hd, hq⟩ := A
      have hd2 := e12 _ _ hd
      have hdx2 : d ≠ x := ne_of_none hd2 hx
      have hddx : d ≠ dx := ne_of_none hd2 hdx
      have fr : ∀ b o, H b = some o → H3 b = some o := fun b o hb => by
        have hb2 := e12 _ _ hb
        exact f2 b o ((upd_ne (ne_of_none hb2 hx)).trans ((upd_ne (ne_of_none hb2 hdx)).trans hb2)) (ne_of_none hb2 hx)
      have ff : ∀ b ∈ F3, H b = none := fun b hb => by
        rcases f1 b hb with z | z
        · rw [z]
          exact fresh_back e12 hx
        · by_cases zx : b = x
          · rw [zx]
            exact fresh_back e12 hx
          · rw [upd_ne zx] at z
            by_cases zd : b = dx
            · rw [zd]
              exact fresh_back e12 hdx
            · rw [upd_ne zd] at z
              exact fresh_back e12 z
      have hdF : d ∉ F3 := fun z => by
        rw [ff d z] at hd
        cases hd
      refine ⟨_, rfl, d, D, ddx, _, rfl, fr _ _ hd, T.clD, T.nI, (by show 1 < 1000; decide), ?_⟩
      rw [dF_put]
      refine s_retL (el_lst (ea_cons ev_c ea_nil) (by simp)) fun r H4 hr4 e4 h4 => ?_
      have M4 : IM C (upd H3 d (.ins D ddx (dF (.ref x)))) x (Su196.create n m) F3 := ⟨M3.1, M3.2.upd hdF⟩
      have hrd : r ≠ d := fun z => by rw [z, upd_same] at hr4; cases hr4
      have hr3 : H3 r = none := by rwa [upd_ne hrd] at hr4
      have hr0 : H r = none := by
        cases z : H r with
        | none => rfl
        | some o =>
          rw [fr r o z] at hr3
          cases hr3
      refine k r H4 F3 ⟨ddx, .ref x, e4 _ _ upd_same, x, rfl, M4.mono e4, hdF⟩ (fun b hb => .inr (ff b hb)) (fun b o hb hn hbd => e4 _ _ ((upd_ne hbd).trans (fr b o hb))) hr0 (M4.2.out hr4) hrd h4

abbrev s_Desk_answer : Stmt := inClass (top 83) 2
/-- 0 self; 1 number; 2 numbers; 3 rows -/
theorem sc_Desk_answer : FnScope ["self", "number", "numbers", "rows"] ["self", "number", "numbers", "rows"] (defScope s_Desk_answer) := ⟨rfl, rfl, rfl, by decide +kernel, rfl, by decide +kernel, by decide +kernel⟩
def spDA (C D : Addr) : Sp := fun vs H Q _ => ∃ d st F q pn pw nums rows op, vs = [.ref d, .int (q : Nat), .ref pn, .ref pw] ∧ (DA C D H d st F ∧ Dat H pn pw nums rows ∧ Req q nums rows op) ∧ RetD C D d (Su196.step st op).1 F (il (out (Su196.step st op).2)) H Q
theorem step_none {op : Su196.Operation} {q : Nat} {nums : List Nat} {rows : List (List V)} (r : Req q nums rows op) (h : q ≠ 0) : Su196.step none op = (none, Su196.error (-11)) := by
  cases r <;> first | exact absurd rfl h | rfl
theorem step_some (a : Su196.Instance) (op : Su196.Operation) : Su196.step (some a) op = (some (Su196.execute a op).1, (Su196.execute a op).2) := rfl
theorem ok_Desk_answer {f_create : Addr} {fd_create : FuncData} (T : Txt K mg C D) (m_create : Meth K D "create" f_create) (G_create : FnOk P w K mg base CX0 3 f_create fd_create ["self", "agents", "alternatives"] (spDC C D)) (b_create : Binds K fd_create ["self", "agents", "alternatives"] [])
    (O_add_kind : Own P w K mg base "add_kind" 2 ["instance", "numbers", "rows"] (spAK C)) (O_answer_describe : Own P w K mg base "answer_describe" 2 ["instance"] (pL (rQD C))) (O_is_ready : Own P w K mg base "is_ready" 1 ["instance"] (pV (rIR C))) (O_first_answer : Own P w K mg base "first_answer" 6 ["number", "instance", "numbers", "rows"] (spFA C)) (O_last_answer : Own P w K mg base "last_answer" 9 ["number", "instance", "numbers", "rows"] (spLA C)) (F : Fun K "answer" "Desk.answer" s_Desk_answer f fd) : FnOk P w K mg base CX0 10 f fd ["self", "number", "numbers", "rows"] (spDA C D) := by
  refine F.ok sc_Desk_answer (fun vs H Q E h => ?_) (fun cdv A outer s H vs Q E hr h => ?_)
  · obtain ⟨d, st, F, q, pn, pw, nums, rows, op, rfl, _⟩ := h
    rfl
  · obtain ⟨d, st, F, q, pn, pw, nums, rows, op, rfl, ⟨A, dt, r⟩, k⟩ := h
    refine ⟨_, (pss_cons (ps_if (pt_cmpR op_eq (pv 1) (pe_cst T.cCREATE) (nomark _)) (pss_one (ps_ret (pe_meth (pv 0) T.clD m_create G_create (hr.mono (by decide)) b_create .nil pass0 (pa_cons (pe_ix ix_list (pv 2) pe_int (fun _ _ => rfl)) (pa_cons (pe_ix ix_list (pv 2) pe_int (fun _ _ => rfl)) pa_nil))))) pss_nil) (pss_cons (ps_if (pt_cmpR op_isN (pe_fld (pv 0) rfl) pe_non (nomark _)) (pss_one (ps_ret (pe_lst (pa_cons (pe_cst T.cNO_INSTANCE) pa_nil)))) pss_nil) (pss_cons (ps_if (pt_cmpR op_eq (pv 1) (pe_cst T.cADD_KIND) (nomark _)) (pss_one (ps_ret (pe_own O_add_kind (hr.mono (by decide)) (pa_cons (pe_fld (pv 0) rfl) (pa_cons (pv 2) (pa_cons (pv 3) pa_nil)))))) pss_nil) (pss_cons (ps_if (pt_cmpR op_eq (pv 1) (pe_cst T.cDESCRIBE) (nomark _)) (pss_one (ps_ret (pe_own O_answer_describe (hr.mono (by decide)) (pa_cons (pe_fld (pv 0) rfl) pa_nil)))) pss_nil) (pss_cons (ps_if (pt_not (pt_val (pe_own O_is_ready (hr.mono (by decide)) (pa_cons (pe_fld (pv 0) rfl) pa_nil)))) (pss_one (ps_ret (pe_lst (pa_cons (pe_cst T.cNOT_READY) pa_nil)))) pss_nil) (pss_cons (ps_if (pt_cmpR op_le (pv 1) pe_int (nomark _)) (pss_one (ps_ret (pe_own O_first_answer (hr.mono (by decide)) (pa_cons (pv 1) (pa_cons (pe_fld (pv 0) rfl) (pa_cons (pv 2) (pa_cons (pv 3) pa_nil))))))) pss_nil) (pss_one (ps_ret (pe_own O_last_answer (hr.mono (by decide)) (pa_cons (pv 1) (pa_cons (pe_fld (pv 0) rfl) (pa_cons (pv 2) (pa_cons (pv 3) pa_nil))))))))))))), ?_⟩
    by_cases h0 : q = 0
    · subst h0
      cases r with
      | create n m =>
        refine q_take rfl fun H1 e1 => ?_
        obtain ⟨dx, v, hd, hq⟩ := id A
        refine s_retMe (ev_var rfl) (e1 _ _ hd) (dF_no v (by decide +kernel)) (ea_cons (ev_at (i := 0) (ev_var rfl) ev_c (e1 _ _ dt.n) rfl) (ea_cons (ev_at (i := 1) (ev_var rfl) ev_c (e1 _ _ dt.n) rfl) ea_nil)) fun H3 e3 => ?_
        have e13 := e1.trans e3
        refine ⟨d, st, F, n, m, rfl, A.mono e13, fun r H' F' B f1 f2 hr hn hnd h => k r H' F' B (fun b hb => (f1 b hb).imp id (fresh_back e13)) (fun b o hb hn hnd => f2 b o (e13 _ _ hb) hn hnd) (fresh_back e13 hr) hn hnd h⟩
    refine q_skip (by omega) rfl fun H1 e1 => ?_
    cases st with
    | none =>
      obtain ⟨dx, v, hd, rfl, rfl⟩ := id A
      rw [step_none r h0] at k
      refine q_when (et_test (ev_op (ev_fld (ev_var rfl) (e1 _ _ hd) T.clD T.nI (dF_get _)) ev_c rv_isN)) (fun hb H2 e2 => ?_) (fun hb => absurd hb (by decide))
      exact s_retL (el_lst (ea_cons ev_c ea_nil) (by simp)) (ret_ex (k.same A) (e1.trans e2))
    | some a =>
      obtain ⟨dx, v, hd, p, rfl, M, hdF⟩ := id A
      rw [step_some] at k
      have km := k.inst hd hdF
      have fld : ∀ {σ : L2.St} {H' : Hp}, σ[0]? = some (some (.ref d)) → Ex H H' → Ev (tFld K (tVar 0) "instance") σ H' (.ref p) := fun hs e => ev_fld (ev_var hs) (e _ _ hd) T.clD T.nI (dF_get _)
      refine q_when (et_test (ev_op (fld rfl e1) ev_c rv_isN)) (fun hb => absurd hb (by simp)) (fun hb H2 e2 => ?_)
      have e12 := e1.trans e2
      by_cases h1 : q = 1
      · subst h1
        cases r with
        | add i v hv =>
          refine q_take rfl fun H3 e3 => s_retC (ea_cons (fld rfl (e12.trans e3)) (ea_cons (ev_var rfl) (ea_cons (ev_var rfl) ea_nil))) fun H4 e4 => ?_
          have e := (e12.trans e3).trans e4
          obtain ⟨pr, d1, d2⟩ := (dt.mono e).one
          exact ⟨p, a, F, pn, i, pw, pr, v, rfl, ⟨M.mono e, (dt.mono e).n, d1, d2⟩, hv, retM_ex km e⟩
      refine q_skip (by omega) rfl fun H3 e3 => ?_
      have e13 := e12.trans e3
      by_cases h14 : q = 14
      · subst h14
        have sm := same_of (a := a) r (by omega)
        rw [sm] at km
        cases r with
        | desc =>
          refine q_take rfl fun H4 e4 => ?_
          have e := e13.trans e4
          exact s_retL (el_own mo_QD (ea_cons (fld rfl e) ea_nil) ⟨p, a, rfl, M.ia.mono e, rfl⟩) (ret_ex (km.same M) e)
      refine q_skip (by omega) rfl fun H4 e4 => ?_
      have e14 := e13.trans e4
      have hq13 : 2 ≤ q ∧ q ≤ 13 := by
        cases r <;> omega
      refine q_when (et_not (et_B (ev_own mo_IR (ea_cons (fld rfl e14) ea_nil) ⟨p, a, rfl, (M.ia.mono e14).to0, rfl⟩))) (fun hb2 H5 e5 => ?_) (fun hb2 H5 e5 => ?_)
      · have hrd : a.isReady = false := by simpa using hb2
        unfold ex at km
        rw [notready r hq13 hrd] at km
        exact s_retL (el_lst (ea_cons ev_c ea_nil) (by simp)) (ret_ex (km.same M) (e14.trans e5))
      · have hrd : a.isReady = true := by simpa using hb2
        have e15 := e14.trans e5
        refine q_when (et_test (ev_op (ev_var rfl) ev_c rv_I0)) (fun hb3 H6 e6 => ?_) (fun hb3 H6 e6 => ?_)
        · have hq7 : q ≤ 7 := by
            have := of_decide_eq_true hb3
            omega
          refine s_retC (ea_cons (ev_var rfl) (ea_cons (fld rfl (e15.trans e6)) (ea_cons (ev_var rfl) (ea_cons (ev_var rfl) ea_nil)))) fun H7 e7 => ?_
          have e := (e15.trans e6).trans e7
          exact ⟨p, a, F, q, pn, pw, nums, rows, op, rfl, ⟨M.mono e, dt.mono e, r⟩, ⟨hrd, hq13.1, hq7⟩, retM_ex km e⟩
        · have hq8 : 8 ≤ q := by
            have := of_decide_eq_false hb3
            omega
          refine s_retC (ea_cons (ev_var rfl) (ea_cons (fld rfl (e15.trans e6)) (ea_cons (ev_var rfl) (ea_cons (ev_var rfl) ea_nil)))) fun H7 e7 => ?_
          have e := (e15.trans e6).trans e7
          rw [same_of r (.inr (by omega))] at km
          exact ⟨p, a, q, pn, pw, nums, rows, op, rfl, ⟨M.ia.mono e, dt.mono e, r⟩, ⟨hrd, hq8, hq13.2⟩, ret_ex (km.same M) e⟩
end
end Tp
namespace Tp
open PySem PySem.Spec PyProof.Rows L2 Evl
section
variable {P : Program} {w : World} {K : PySem.W.Frag} {mg : Str → Option Value} {base : Heap} {C D : Addr} {f : Addr} {fd : FuncData}
theorem sz_at {q : Nat} (h : q < 15) : (il sizesV)[q]? = some (.int (szs.getD q 0 : Nat)) := by
  have d : ∀ q : Fin 15, sizesV[q.1]? = some ((szs.getD q.1 0 : Nat) : Int) := by decide +kernel
  exact get_map (d ⟨q, h⟩)
theorem ls_at {q : Nat} (h : q < 15) : (il listsV)[q]? = some (.int (lss.getD q 0 : Nat)) := by
  have d : ∀ q : Fin 15, listsV[q.1]? = some ((lss.getD q.1 0 : Nat) : Int) := by decide +kernel
  exact get_map (d ⟨q, h⟩)
theorem ev_atS {σ : L2.St} {H : Hp} {ta tb : TE} {p : Addr} {xs : List V} {i : Nat} {v : V} (ha : Ev ta σ H (.ref p)) (hb : Ev tb σ H (.int (i : Nat))) (h : SqL K H p xs) (hi : xs[i]? = some v) : Ev (tOp (rIxL K) ta tb) σ H v := ev_op ha hb (rv_ixL h (atI_nat hi))
theorem ev_atT {σ : L2.St} {H : Hp} {ta tb : TE} {p : Addr} {xs : List V} {i : Nat} {v : V} (ha : Ev ta σ H (.ref p)) (hb : Ev tb σ H (.int (i : Nat))) (h : SqT K H p xs) (hi : xs[i]? = some v) : Ev (tOp (rIxT K) ta tb) σ H v := ev_op ha hb (rv_ixT h (atI_nat hi))

abbrev s_lists_place : Stmt := top 85
/-- 0 calls; 1 place -/
theorem sc_lists_place : FnScope ["calls", "place"] ["calls", "place"] (defScope s_lists_place) := ⟨rfl, rfl, rfl, by decide +kernel, rfl, by decide +kernel, by decide +kernel⟩
def rLP1 (K : PySem.W.Frag) (vs : List V) (H : Hp) (z : V) : Prop := ∃ pc l i q, vs = [.ref pc, .int (i : Nat)] ∧ SqL K H pc (il l) ∧ (l[i]? = some ((q : Nat) : Int) ∧ q < 15) ∧ z = .int ((i + 1 + szs.getD q 0 : Nat) : Int)
theorem mo_LP1 : Mo (rLP1 K) := fun vs H H' z e ⟨p, l, i, q, h, I, r⟩ => ⟨p, l, i, q, h, ex_l e I, r⟩
theorem ok_lists_place (T : Txt K mg C D) (F : Fun K "lists_place" "lists_place" s_lists_place f fd) : FnOk P w K mg base CX0 1 f fd ["calls", "place"] (pV (rLP1 K)) := by
  refine F.ok sc_lists_place (fun vs H Q E h => ?_) (fun cdv A outer s H vs Q E hr h => ?_)
  · obtain ⟨z, ⟨pc, l, i, q, rfl, _⟩, _⟩ := h
    rfl
  · obtain ⟨z, ⟨pc, l, i, q, rfl, I, ⟨hq, h15⟩, rfl⟩, k⟩ := h
    obtain ⟨zS, hSIZES, hS⟩ := T.tSIZES
    refine ⟨_, (pss_one (ps_ret (pe_op op_add (pe_op op_add (pv 1) pe_int) (pe_ix ix_tup (pe_glob (v := .ref zS) rfl hSIZES rfl) (pe_ix ix_list (pv 0) (pv 1) (fun _ _ => rfl)) (fun _ _ => rfl))))), ?_⟩
    refine s_ret (ev_is (ev_op (ev_op (ev_var rfl) ev_c rv_I0) (ev_atT ev_c (ev_atS (ev_var rfl) (ev_var rfl) I (get_map hq)) (hS H) (sz_at h15)) rv_I0) ?_) k
    congr 1

abbrev s_numbers_of : Stmt := top 86
/-- 0 calls; 1 place -/
theorem sc_numbers_of : FnScope ["calls", "place"] ["calls", "place"] (defScope s_numbers_of) := ⟨rfl, rfl, rfl, by decide +kernel, rfl, by decide +kernel, by decide +kernel⟩
def rNOf (K : PySem.W.Frag) (vs : List V) (H : Hp) (z : List V) : Prop := ∃ pc l i q, vs = [.ref pc, .int (i : Nat)] ∧ SqL K H pc (il l) ∧ (l[i]? = some ((q : Nat) : Int) ∧ q < 15) ∧ z = il ((l.drop (i + 1)).take (szs.getD q 0))
theorem mo_NOf : Mo (rNOf K) := fun vs H H' z e ⟨p, l, i, q, h, I, r⟩ => ⟨p, l, i, q, h, ex_l e I, r⟩
theorem ok_numbers_of (T : Txt K mg C D) (O_lists_place : Own P w K mg base "lists_place" 1 ["calls", "place"] (pV (rLP1 K))) (F : Fun K "numbers_of" "numbers_of" s_numbers_of f fd) : FnOk P w K mg base CX0 2 f fd ["calls", "place"] (pL (rNOf K)) := by
  refine F.ok sc_numbers_of (fun vs H Q E h => ?_) (fun cdv A outer s H vs Q E hr h => ?_)
  · obtain ⟨z, ⟨pc, l, i, q, rfl, _⟩, _⟩ := h
    rfl
  · obtain ⟨z, ⟨pc, l, i, q, rfl, I, hq, rfl⟩, k⟩ := h
    refine ⟨_, (pss_one (ps_ret (pe_slice sl_list (pv 0) (po_some (pe_op op_add (pv 1) pe_int)) (po_some (pe_own O_lists_place (hr.mono (by decide)) (pa_cons (pv 0) (pa_cons (pv 1) pa_nil))))))), ?_⟩
    refine s_retL (el_is (el_sl (ev_var rfl) (eo_some (i := ((i + 1 : Nat) : Int)) (ev_op (ev_var rfl) ev_c rv_I0)) (eo_some (ev_own mo_LP1 (ea_cons (ev_var rfl) (ea_cons (ev_var rfl) ea_nil)) ⟨pc, l, i, q, rfl, I, hq, rfl⟩)) I) ?_) k
    rw [cutV_nat]
    have e : i + 1 + szs.getD q 0 - (i + 1) = szs.getD q 0 := by omega
    rw [e]
    simp [List.map_take, List.map_drop]

theorem q_appCL {σ : L2.St} {H H0 : Hp} {ta te : TE} {tz : TS} {Dd : Ends} {l : Addr} {xss : List (List V)} {ys : List V} (hl : H0 l = none) (p : CL H0 xss l H) (ha : Ev ta σ H (.ref l)) (h : EvL te σ H ys) (hz : xss.length < 50000) (k : ∀ H1, CL H0 (xss ++ [ys]) l H1 → tz Dd σ H1) :
    tSeq (tDrop (tBM K "list" rAppend ta (tCons te tNil))) tz Dd σ H := s_appCL (Dd := { Dd with nx := tz Dd }) hl p ha h hz k
abbrev s_lists_of : Stmt := top 87
/-- 0 calls; 1 place; 2 found; 3 here; 4 turn -/
theorem sc_lists_of : FnScope ["calls", "place", "found", "here", "turn"] ["calls", "place"] (defScope s_lists_of) := ⟨rfl, rfl, rfl, by decide +kernel, rfl, by decide +kernel, by decide +kernel⟩
def rLOf (K : PySem.W.Frag) (vs : List V) (H : Hp) (z : List (List V)) : Prop := ∃ pc l i q, vs = [.ref pc, .int (i : Nat)] ∧ SqL K H pc (il l) ∧ ((l[i]? = some ((q : Nat) : Int) ∧ q < 15) ∧ ∀ j, j < lss.getD q 0 → ∃ m : Nat, l[hr l (i + 1 + szs.getD q 0) j]? = some (m : Int)) ∧ z = (List.range (lss.getD q 0)).map fun j => il (rw1 l (i + 1 + szs.getD q 0) j)
theorem mo_LOf : Mo (rLOf K) := fun vs H H' z e ⟨p, l, i, q, h, I, r⟩ => ⟨p, l, i, q, h, ex_l e I, r⟩
theorem lss_le (q : Nat) : lss.getD q 0 ≤ 2 := by
  by_cases h : q < 15
  · have d : ∀ q : Fin 15, lss.getD q.1 0 ≤ 2 := by decide +kernel
    exact d ⟨q, h⟩
  · rw [List.getD_eq_getElem?_getD, List.getElem?_eq_none (by simp; omega)]
    decide
theorem ok_lists_of (T : Txt K mg C D) (O_lists_place : Own P w K mg base "lists_place" 1 ["calls", "place"] (pV (rLP1 K))) (F : Fun K "lists_of" "lists_of" s_lists_of f fd) : FnOk P w K mg base CX0 2 f fd ["calls", "place"] (pLL (rLOf K)) := by
  refine F.ok sc_lists_of (fun vs H Q E h => ?_) (fun cdv A outer s H vs Q E hr' h => ?_)
  · obtain ⟨z, ⟨pc, l, i, q, rfl, _⟩, _⟩ := h
    rfl
  · obtain ⟨z, ⟨pc, l, i, q, rfl, I, ⟨⟨hq, h15⟩, hrow⟩, rfl⟩, k⟩ := h
    obtain ⟨zL, hLISTS, hL⟩ := T.tLISTS
    have hr := hr'
    refine ⟨_, (pss_cons (ps_par (i := 2) (j := 3) rfl sc_lists_of.nd rfl rfl (by decide) rfl rfl (pa_cons (pe_lst pa_nil) (pa_cons (pe_own O_lists_place (hr.mono (by decide)) (pa_cons (pv 0) (pa_cons (pv 1) pa_nil))) pa_nil)) (by rfl)) (pss_cons (ps_for PassesOwn.never rfl (pi_range1 rfl T.range (pa_cons (pe_ix ix_tup (pe_glob (v := .ref zL) rfl hLISTS rfl) (pe_ix ix_list (pv 0) (pv 1) (fun _ _ => rfl)) (fun _ _ => rfl)) pa_nil)) (pg_name (i := 4) sc_lists_of.nd rfl (Or.inl rfl)) (pss_cons (ps_expr (pe_bm PySem.F.plainAttrs_list PySem.F.slot_list_append PySem.F.type_list_append mt_append (pv 2) (pa_cons (pe_slice sl_list (pv 0) (po_some (pe_op op_add (pv 3) pe_int)) (po_some (pe_op op_add (pe_op op_add (pv 3) pe_int) (pe_ix ix_list (pv 0) (pv 3) (fun _ _ => rfl))))) pa_nil))) (pss_one (ps_set (i := 3) sc_lists_of.nd rfl (Or.inl rfl) (pe_op op_add (pe_op op_add (pv 3) pe_int) (pe_ix ix_list (pv 0) (pv 3) (fun _ _ => rfl))))))) (pss_one (ps_ret (pv 2))))), ?_⟩
    have h2 := lss_le q
    generalize hh0 : i + 1 + szs.getD q 0 = h0 at *
    refine ⟨Nat.zero_le _, fun fl hfl => ?_⟩
    have c0 : CL H ((List.range 0).map fun j => il (rw1 l h0 j)) fl (upd H fl (.lst [])) := CL.zero hfl
    refine ev_own (z := .int (h0 : Nat)) mo_LP1 (ea_cons (ev_var rfl) (ea_cons (ev_var rfl) ea_nil)) ⟨pc, l, i, q, rfl, ex_l c0.ex I, ⟨hq, h15⟩, by rw [hh0]⟩ _ (Ex.refl _) _ fun H1 e1 => ⟨.ref fl, _, rfl, ?_⟩
    have c1 := c0.mono e1
    refine q_forR1 (n := (lss.getD q 0 : Nat)) (ea_cons (ev_atT ev_c (ev_atS (ev_var rfl) (ev_var rfl) (ex_l c1.ex I) (get_map hq)) (hL H1) (ls_at h15)) ea_nil) (by omega)
      (fun j σ H' => CL H ((List.range j).map fun j => il (rw1 l h0 j)) fl H' ∧ ∃ v, σ = [some (.ref pc), some (.int (i : Nat)), some (.ref fl), some (.int (Tp.hr l h0 j : Nat)), v]) (fun H2 e2 => ⟨c1.mono e2, none, rfl⟩) ?_ ?_
    · rintro j σ H2 hj ⟨c2, v, rfl⟩
      obtain ⟨m, hm⟩ := hrow j (by omega)
      have hg := getD_some hm
      have ev_here : ∀ {σ' : L2.St} {H' : Hp} {v' : Option V}, σ' = [some (.ref pc), some (.int (i : Nat)), some (.ref fl), some (.int (Tp.hr l h0 j : Nat)), v'] → Ex H H' → Ev (tOp (rI0 fun i j => .int (i + j)) (tOp (rI0 fun i j => .int (i + j)) (tVar 3) (tC (.int 1))) (tOp (rIxL K) (tVar 0) (tVar 3))) σ' H' (.int (Tp.hr l h0 (j + 1) : Nat)) := fun {σ'} {H'} {v'} es e => by
        subst es
        refine ev_is (ev_op (ev_op (ev_var rfl) ev_c rv_I0) (ev_atS (ev_var rfl) (ev_var rfl) (ex_l e I) (get_map hm)) rv_I0) ?_
        show V.int _ = V.int ((Tp.hr l h0 j + 1 + (l.getD (Tp.hr l h0 j) 0).toNat : Nat) : Int)
        rw [hg]
        congr 1
      refine q_appCL hfl c2 (ev_var rfl) (el_is (ys := il (rw1 l h0 j)) (el_sl (ev_var rfl) (eo_some (i := ((Tp.hr l h0 j + 1 : Nat) : Int)) (ev_op (ev_var rfl) ev_c rv_I0)) (eo_some (ev_here rfl c2.ex)) (ex_l c2.ex I)) ?_) (by simp; omega) fun H3 c3 => ?_
      · rw [cutV_nat]
        show _ = il ((l.drop (Tp.hr l h0 j + 1)).take (l.getD (Tp.hr l h0 j) 0).toNat)
        have e : Tp.hr l h0 (j + 1) - (Tp.hr l h0 j + 1) = (l.getD (Tp.hr l h0 j) 0).toNat := by
          show Tp.hr l h0 j + 1 + (l.getD (Tp.hr l h0 j) 0).toNat - (Tp.hr l h0 j + 1) = _
          omega
        rw [e]
        simp [List.map_take, List.map_drop]
      · refine s_asg (ev_here rfl c3.ex) fun H4 e4 => ⟨?_, _, rfl⟩
        rw [List.range_succ, List.map_append]
        exact c3.mono e4
    · rintro σ H2 ⟨c2, v, rfl⟩
      rw [Int.toNat_natCast] at c2
      exact s_ret (ev_var rfl) fun H3 e3 => (c2.mono e3).ret hfl k

abbrev s_end_of : Stmt := top 88
/-- 0 calls; 1 place; 2 here; 3 turn -/
theorem sc_end_of : FnScope ["calls", "place", "here", "turn"] ["calls", "place"] (defScope s_end_of) := ⟨rfl, rfl, rfl, by decide +kernel, rfl, by decide +kernel, by decide +kernel⟩
def rEO (K : PySem.W.Frag) (vs : List V) (H : Hp) (z : V) : Prop := ∃ pc l i q, vs = [.ref pc, .int (i : Nat)] ∧ SqL K H pc (il l) ∧ ((l[i]? = some ((q : Nat) : Int) ∧ q < 15) ∧ ∀ j, j < lss.getD q 0 → ∃ m : Nat, l[hr l (i + 1 + szs.getD q 0) j]? = some (m : Int)) ∧ z = .int (hr l (i + 1 + szs.getD q 0) (lss.getD q 0) : Nat)
theorem mo_EO : Mo (rEO K) := fun vs H H' z e ⟨p, l, i, q, h, I, r⟩ => ⟨p, l, i, q, h, ex_l e I, r⟩
theorem ok_end_of (T : Txt K mg C D) (O_lists_place : Own P w K mg base "lists_place" 1 ["calls", "place"] (pV (rLP1 K))) (F : Fun K "end_of" "end_of" s_end_of f fd) : FnOk P w K mg base CX0 2 f fd ["calls", "place"] (pV (rEO K)) := by
  refine F.ok sc_end_of (fun vs H Q E h => ?_) (fun cdv A outer s H vs Q E hr' h => ?_)
  · obtain ⟨z, ⟨pc, l, i, q, rfl, _⟩, _⟩ := h
    rfl
  · obtain ⟨z, ⟨pc, l, i, q, rfl, I, ⟨⟨hq, h15⟩, hrow⟩, rfl⟩, k⟩ := h
    obtain ⟨zL, hLISTS, hL⟩ := T.tLISTS
    have hr := hr'
    refine ⟨_, (pss_cons (ps_set (i := 2) sc_end_of.nd rfl (Or.inl rfl) (pe_own O_lists_place (hr.mono (by decide)) (pa_cons (pv 0) (pa_cons (pv 1) pa_nil)))) (pss_cons (ps_for PassesOwn.never rfl (pi_range1 rfl T.range (pa_cons (pe_ix ix_tup (pe_glob (v := .ref zL) rfl hLISTS rfl) (pe_ix ix_list (pv 0) (pv 1) (fun _ _ => rfl)) (fun _ _ => rfl)) pa_nil)) (pg_name (i := 3) sc_end_of.nd rfl (Or.inl rfl)) (pss_one (ps_set (i := 2) sc_end_of.nd rfl (Or.inl rfl) (pe_op op_add (pe_op op_add (pv 2) pe_int) (pe_ix ix_list (pv 0) (pv 2) (fun _ _ => rfl)))))) (pss_one (ps_ret (pv 2))))), ?_⟩
    have h2 := lss_le q
    generalize hh0 : i + 1 + szs.getD q 0 = h0 at *
    refine q_asg (v := .int (h0 : Nat)) (ev_own mo_LP1 (ea_cons (ev_var rfl) (ea_cons (ev_var rfl) ea_nil)) ⟨pc, l, i, q, rfl, I, ⟨hq, h15⟩, by rw [hh0]⟩) fun H1 e1 => ?_
    refine q_forR1 (n := (lss.getD q 0 : Nat)) (ea_cons (ev_atT ev_c (ev_atS (ev_var rfl) (ev_var rfl) (ex_l e1 I) (get_map hq)) (hL H1) (ls_at h15)) ea_nil) (by omega)
      (fun j σ H' => Ex H H' ∧ ∃ v, σ = [some (.ref pc), some (.int (i : Nat)), some (.int (Tp.hr l h0 j : Nat)), v]) (fun H2 e2 => ⟨e1.trans e2, none, rfl⟩) ?_ ?_
    · rintro j σ H2 hj ⟨e2, v, rfl⟩
      obtain ⟨m, hm⟩ := hrow j (by omega)
      have hg := getD_some hm
      refine s_asg (v := .int (Tp.hr l h0 (j + 1) : Nat)) (ev_is (ev_op (ev_op (ev_var rfl) ev_c rv_I0) (ev_atS (ev_var rfl) (ev_var rfl) (ex_l e2 I) (get_map hm)) rv_I0) ?_) fun H3 e3 => ⟨e2.trans e3, _, rfl⟩
      show V.int _ = V.int ((Tp.hr l h0 j + 1 + (l.getD (Tp.hr l h0 j) 0).toNat : Nat) : Int)
      rw [hg]
      congr 1
    · rintro σ H2 ⟨e2, v, rfl⟩
      refine s_ret (ev_var rfl) fun H3 e3 => ?_
      have := k H3 (e2.trans e3)
      rw [Int.toNat_natCast]
      exact this
end
end Tp
namespace Tp
open PySem PySem.Spec PyProof.Rows L2 Evl
section
variable {P : Program} {w : World} {K : PySem.W.Frag} {mg : Str → Option Value} {base : Heap} {C D : Addr} {f : Addr} {fd : FuncData}
/-! ### a call as it is read is a call of the specification -/
theorem nn_list {hi : Int} : ∀ {r : List Int}, r.all (PyInside.within 0 hi) = true → r = (r.map Int.toNat).map fun x => ((x : Nat) : Int)
  | [], _ => rfl
  | x :: r, h => by
    rw [List.all_cons, Bool.and_eq_true] at h
    have hx : 0 ≤ x := by
      have := h.1
      unfold PyInside.within at this
      simp at this
      omega
    rw [List.map_cons, List.map_cons, ← nn_list h.2, Int.toNat_of_nonneg hx]
theorem nn_nl {hi : Int} {r : List Int} (h : r.all (PyInside.within 0 hi) = true) : il r = nl (r.map Int.toNat) := by
  have := nn_list h
  rw [show il r = il ((r.map Int.toNat).map fun x => ((x : Nat) : Int)) by rw [← this]]
  simp
theorem nn_int {hi x : Int} (h : PyInside.within 0 hi x = true) : ((x.toNat : Nat) : Int) = x := by
  unfold PyInside.within at h
  simp at h
  omega
abbrev opOf (c : List (List Int)) : Option Su196.Operation := Su196Neutral.callOf ((PySu196.whole c).headD [])
def W1 (x : Int) : Prop := PyInside.within 0 4294967295 x = true
def WL (m : Nat) (r : List Int) : Prop := r.length ≤ m ∧ r.all (PyInside.within 0 4294967295) = true
theorem b2 {x y : Int} (h : ((PyInside.within 0 4294967295 x && (PyInside.within 0 4294967295 y && true)) && true) = true) : W1 x ∧ W1 y := by
  simp only [Bool.and_eq_true, and_true] at h
  exact h
theorem b1 {x : Int} (h : ((PyInside.within 0 4294967295 x && true) && true) = true) : W1 x := by
  simp only [Bool.and_eq_true, and_true] at h
  exact h
theorem b1l {x : Int} {m : Nat} {r : List Int} {lo hi : Int} (h : ((PyInside.within 0 4294967295 x && true) && (decide (0 ≤ r.length) && decide (r.length ≤ m) && r.all (PyInside.within lo hi) && true)) = true) : W1 x ∧ r.length ≤ m ∧ r.all (PyInside.within lo hi) = true := by
  simp only [Bool.and_eq_true, decide_eq_true_eq, and_true] at h
  exact ⟨h.1, h.2.1.2, h.2.2⟩
theorem b2l {x y : Int} {m : Nat} {r : List Int} {lo hi : Int} (h : ((PyInside.within 0 4294967295 x && (PyInside.within 0 4294967295 y && true)) && (decide (0 ≤ r.length) && decide (r.length ≤ m) && r.all (PyInside.within lo hi) && true)) = true) : W1 x ∧ W1 y ∧ r.length ≤ m ∧ r.all (PyInside.within lo hi) = true := by
  simp only [Bool.and_eq_true, decide_eq_true_eq, and_true] at h
  exact ⟨h.1.1, h.1.2, h.2.1.2, h.2.2⟩
theorem b0l {m : Nat} {r : List Int} {lo hi : Int} (h : (true && (decide (0 ≤ r.length) && decide (r.length ≤ m) && r.all (PyInside.within lo hi) && true)) = true) : r.length ≤ m ∧ r.all (PyInside.within lo hi) = true := by
  simp only [Bool.and_eq_true, decide_eq_true_eq, and_true, true_and] at h
  exact ⟨h.1.2, h.2⟩
theorem b1ll {x : Int} {m n : Nat} {r s : List Int} {lo hi lo2 hi2 : Int} (h : ((PyInside.within 0 4294967295 x && true) && (decide (0 ≤ r.length) && decide (r.length ≤ m) && r.all (PyInside.within lo hi) && (decide (0 ≤ s.length) && decide (s.length ≤ n) && s.all (PyInside.within lo2 hi2) && true))) = true) : W1 x ∧ (r.length ≤ m ∧ r.all (PyInside.within lo hi) = true) ∧ s.length ≤ n := by
  simp only [Bool.and_eq_true, decide_eq_true_eq, and_true] at h
  exact ⟨h.1, ⟨h.2.1.1.2, h.2.1.2⟩, h.2.2.1.2⟩
/-- what the numbers and rows of a call are for the specification -/
theorem req_of {q : Nat} (hq : q < 15) {nums : List Int} {rows : List (List Int)} (hn : nums.length = szs.getD q 0) (hk : rows.length = lss.getD q 0) (hb : PyInside.call PySu196.bound ((((q : Nat) : Int) :: nums) :: rows) = true) :
    ∃ (ns : List Nat) (op : Su196.Operation), il nums = nl ns ∧ Req q ns (rows.map il) op ∧ opOf ((((q : Nat) : Int) :: nums) :: rows) = some op := by
  have num1 : ∀ {x : Int}, W1 x → il [x] = nl [x.toNat] := fun {x} h => by
    show [V.int x] = [V.int ((x.toNat : Nat) : Int)]
    rw [nn_int h]
  have num2 : ∀ {x y : Int}, W1 x → W1 y → il [x, y] = nl [x.toNat, y.toNat] := fun {x y} h1 h2 => by
    show [V.int x, V.int y] = [V.int ((x.toNat : Nat) : Int), V.int ((y.toNat : Nat) : Int)]
    rw [nn_int h1, nn_int h2]
  match q, hq with
  | 0, _ =>
    match nums, hn, rows, hk with
    | [x, y], _, [], _ =>
      obtain ⟨h1, h2⟩ := b2 hb
      exact ⟨[x.toNat, y.toNat], _, num2 h1 h2, .create _ _, rfl⟩
  | 1, _ =>
    match nums, hn, rows, hk with
    | [x], _, [r], _ =>
      obtain ⟨h1, h2, _⟩ := b1l hb
      exact ⟨[x.toNat], _, num1 h1, .add _ r (by omega), rfl⟩
  | 2, _ =>
    match nums, hn, rows, hk with
    | [x], _, [r], _ =>
      obtain ⟨h1, h2, h3⟩ := b1l hb
      refine ⟨[x.toNat], _, num1 h1, ?_, rfl⟩
      rw [List.map_cons, nn_nl h3]
      exact .set _ _
  | 3, _ =>
    match nums, hn, rows, hk with
    | [], _, [r], _ =>
      obtain ⟨h2, h3⟩ := b0l hb
      refine ⟨[], _, rfl, ?_, rfl⟩
      rw [List.map_cons, nn_nl h3]
      exact .alloc _
  | 4, _ =>
    match nums, hn, rows, hk with
    | [], _, [], _ => exact ⟨[], _, rfl, .wmax, rfl⟩
  | 5, _ =>
    match nums, hn, rows, hk with
    | [], _, [r], _ =>
      obtain ⟨h2, h3⟩ := b0l hb
      refine ⟨[], _, rfl, ?_, rfl⟩
      rw [List.map_cons, nn_nl h3]
      exact .amax _
  | 6, _ =>
    match nums, hn, rows, hk with
    | [x], _, [], _ => exact ⟨[x.toNat], _, num1 (b1 hb), .gmax _, rfl⟩
  | 7, _ =>
    match nums, hn, rows, hk with
    | [x, y], _, [r], _ =>
      obtain ⟨h1, h2, h3, h4⟩ := b2l hb
      refine ⟨[x.toNat, y.toNat], _, num2 h1 h2, ?_, rfl⟩
      rw [List.map_cons, nn_nl h4]
      exact .loss _ _ _
  | 8, _ =>
    match nums, hn, rows, hk with
    | [], _, [], _ => exact ⟨[], _, rfl, .cyc, rfl⟩
  | 9, _ =>
    match nums, hn, rows, hk with
    | [], _, [], _ => exact ⟨[], _, rfl, .weak, rfl⟩
  | 10, _ =>
    match nums, hn, rows, hk with
    | [x], _, [r], _ =>
      obtain ⟨h1, h2, h3⟩ := b1l hb
      refine ⟨[x.toNat], _, num1 h1, ?_, rfl⟩
      rw [List.map_cons, nn_nl h3]
      exact .bounds _ _
  | 11, _ =>
    match nums, hn, rows, hk with
    | [x], _, [r, s], _ =>
      obtain ⟨h1, ⟨h2, h3⟩, h4⟩ := b1ll hb
      refine ⟨[x.toNat], .areTruthfulPayments x.toNat (r.map Int.toNat) s, num1 h1, ?_, ?_⟩
      · rw [List.map_cons, List.map_cons, nn_nl h3]
        exact .truth _ _ _ (by omega)
      · show some (Su196.Operation.areTruthfulPayments x.toNat (((r ++ s).take ((r.length : Int)).toNat).map Int.toNat) ((r ++ s).drop ((r.length : Int)).toNat)) = _
        simp
  | 12, _ =>
    match nums, hn, rows, hk with
    | [], _, [r], _ =>
      obtain ⟨h2, h3⟩ := b0l hb
      refine ⟨[], _, rfl, ?_, rfl⟩
      rw [List.map_cons, nn_nl h3]
      exact .piv _
  | 13, _ =>
    match nums, hn, rows, hk with
    | [], _, [r], _ =>
      obtain ⟨h2, h3⟩ := b0l hb
      refine ⟨[], _, rfl, ?_, rfl⟩
      rw [List.map_cons, nn_nl h3]
      exact .welf _
  | 14, _ =>
    match nums, hn, rows, hk with
    | [], _, [], _ => exact ⟨[], _, rfl, .desc, rfl⟩

/-! ### the whole run -/
abbrev stp (s : Option Su196.Instance) (c : List (List Int)) : Option Su196.Instance × List Int := Su196Neutral.step s (c.headD [])
abbrev pl (s : Option Su196.Instance) (cs : List (List (List Int))) : List Int := PyFlat.told (PyFlat.played stp s (cs.map PySu196.whole))
theorem stp_of {s : Option Su196.Instance} {c : List (List Int)} {op : Su196.Operation} (h : opOf c = some op) : stp s (PySu196.whole c) = ((Su196.step s op).1, out (Su196.step s op).2) := by
  have h : Su196Neutral.callOf ((PySu196.whole c).headD []) = some op := h
  show Su196Neutral.step s ((PySu196.whole c).headD []) = _
  unfold Su196Neutral.step
  rw [h]
  rfl
theorem pl_cons {s : Option Su196.Instance} {c : List (List Int)} {cs : List (List (List Int))} {op : Su196.Operation} (h : opOf c = some op) : pl s (c :: cs) = (((out (Su196.step s op).2).length : Int) :: out (Su196.step s op).2) ++ pl (Su196.step s op).1 cs := by
  show PyFlat.told (PyFlat.played stp s (PySu196.whole c :: cs.map PySu196.whole)) = _
  unfold PyFlat.played PyFlat.told
  rw [List.flatMap_cons, stp_of h]
  rfl
theorem asked_raw {l : List Int} (h : PySu196.answers_asked l = true) : ∃ raw, PyFlat.calls PySu196.shape l.length l = some raw ∧ (∀ c ∈ raw, PyInside.call PySu196.bound c = true) ∧ (PySu196.answers l).length ≤ 10000000 ∧ PySu196.answers l = pl none raw := by
  unfold PySu196.answers_asked at h
  split at h
  · cases h
  rename_i raw hraw
  simp only [Bool.and_eq_true] at h
  obtain ⟨⟨⟨⟨_, _⟩, h3⟩, _⟩, h5⟩ := h
  refine ⟨raw, hraw, fun c hc => List.all_eq_true.mp h3 c hc, of_decide_eq_true h5, ?_⟩
  unfold PySu196.answers PySu196.calls
  rw [hraw]
  rfl
end
end Tp
namespace Tp
open PySem PySem.Spec PyProof.Rows L2 Evl
section
variable {P : Program} {w : World} {K : PySem.W.Frag} {mg : Str → Option Value} {base : Heap} {C D : Addr} {f : Addr} {fd : FuncData}
theorem DA.upd {H : Hp} {d l : Addr} {st : Option Su196.Instance} {F : List Addr} {o : HO} (A : DA C D H d st F) (h1 : l ∉ F) (h2 : l ≠ d) : DA C D (upd H l o) d st F := by
  obtain ⟨dx, v, h, q⟩ := A
  refine ⟨dx, v, (upd_ne (Ne.symm h2)).trans h, ?_⟩
  cases st with
  | none => exact q
  | some a =>
    obtain ⟨p, e, M, hd⟩ := q
    exact ⟨p, e, ⟨M.1, M.2.upd h1⟩, hd⟩
/-- x = o.m(a, a new list, a new list of lists) -/
theorem q_meth3 {σ : L2.St} {H : Hp} {sp : Sp} {E : XK} {te ta tb tc : TE} {x : V} {ys : List V} {zss : List (List V)} {m : Str} {tz : TS} {Dd : Ends} {i : Nat} {o dx : Addr} {fs : List (Str × V)} (ho : Ev te σ H (.ref o)) (hi : H o = some (.ins D dx fs)) (hn : fs.lookup m = none)
    (ha : Ev ta σ H x) (hb : EvL tb σ H ys) (hc : EvLL tc σ H zss)
    (k : ∀ H1 pn pw rs, Ex H H1 → H1 pn = some (.lst ys) → H1 pw = some (.lst (rs.map V.ref)) → Rws H1 rs zss → sp [.ref o, x, .ref pn, .ref pw] H1 (fun v H2 => tz Dd (σ.set i (some v)) H2) E) :
    tSeq (tAsg (tMeth D m sp [] E te (tCons ta (tCons tb (tCons tc tNil)))) (gName i)) tz Dd σ H :=
  ho H (Ex.refl H) _ fun H1 e1 => ⟨o, dx, fs, rfl, e1 _ _ hi, hn, ha H1 e1 _ fun H2 e2 => hb H2 (e1.trans e2) _ fun pn H3 _ e3 h3 => hc H3 ((e1.trans e2).trans e3) _ fun pw rs H4 _ _ _ e4 h4 R =>
    k H4 pn pw rs (((e1.trans e2).trans e3).trans e4) (e4 _ _ h3) h4 R⟩
/-- xs.append(e), xs.extend(ys), a long list -/
theorem q_appZ {σ : L2.St} {H : Hp} {ta te : TE} {tz : TS} {Dd : Ends} {v : V} {l : Addr} {xs : List V} (hl : H l = some (.lst xs)) (ha : Ev ta σ H (.ref l)) (h : Ev te σ H v) (hz : xs.length < sizeLine) (k : ∀ H1, Ex H H1 → tz Dd σ (upd H1 l (.lst (xs ++ [v])))) :
    tSeq (tDrop (tBM K "list" rAppend ta (tCons te tNil))) tz Dd σ H := ha H (Ex.refl H) _ fun H1 e1 =>
  ⟨Or.inl ⟨rfl, xs, sq_of (e1 l _ hl)⟩, h H1 e1 _ fun H2 e2 => ⟨l, xs, v, rfl, rfl, e2 l _ (e1 l _ hl), hz, k H2 (e1.trans e2)⟩⟩
theorem q_extZ {σ : L2.St} {H : Hp} {ta te : TE} {tz : TS} {Dd : Ends} {l b : Addr} {xs ys : List V} (hl : H l = some (.lst xs)) (ha : Ev ta σ H (.ref l)) (h : Ev te σ H (.ref b)) (hb : H b = some (.lst ys)) (hz : xs.length + ys.length ≤ sizeLine) (k : ∀ H1, Ex H H1 → tz Dd σ (upd H1 l (.lst (xs ++ ys)))) :
    tSeq (tDrop (tBM K "list" rExtend ta (tCons te tNil))) tz Dd σ H := ha H (Ex.refl H) _ fun H1 e1 =>
  ⟨Or.inl ⟨rfl, xs, sq_of (e1 l _ hl)⟩, h H1 e1 _ fun H2 e2 => ⟨l, b, xs, ys, rfl, rfl, (e1.trans e2) l _ hl, (e1.trans e2) b _ hb, hz, k H2 (e1.trans e2)⟩⟩

abbrev s_answers : Stmt := top 89
/-- 0 calls; 1 desk; 2 found; 3 place; 4 told -/
theorem sc_answers : FnScope ["calls", "desk", "found", "place", "told"] ["calls"] (defScope s_answers) := ⟨rfl, rfl, rfl, by decide +kernel, rfl, by decide +kernel, by decide +kernel⟩
def spAns (K : PySem.W.Frag) : Sp := fun vs H Q _ => ∃ pc l, vs = [.ref pc] ∧ SqL K H pc (il l) ∧ PySu196.answers_asked l = true ∧ ∀ (H' : Hp) (p : Addr), H' p = some (.lst (il (PySu196.answers l))) → Q (.ref p) H'
/-- where the loop stands: what is read up to i, the desk, the list of answers -/
structure Lp (C D : Addr) (H0 H : Hp) (d lf : Addr) (l : List Int) (i : Nat) (st : Option Su196.Instance) (F : List Addr) (fo : List Int) (f : Nat) (rest : List (List (List Int))) : Prop where
  le : i ≤ l.length
  rd : PyFlat.calls PySu196.shape f (l.drop i) = some rest
  bd : ∀ c ∈ rest, PyInside.call PySu196.bound c = true
  eq : PySu196.answers l = fo ++ pl st rest
  ex : Ex H0 H
  da : DA C D H d st F
  ff : ∀ b ∈ F, H0 b = none
  lF : lf ∉ F
  ld : lf ≠ d
  hf : H lf = some (.lst (il fo))
theorem ok_answers {fI f_answer : Addr} {fdI fd_answer : FuncData} (T : Txt K mg C D) (M : Mk K D fI) (GI : FnOk P w K mg base CX0 1 fI fdI ["self"] (spDI C D)) (bI : Binds K fdI ["self"] []) (m_answer : Meth K D "answer" f_answer) (G_answer : FnOk P w K mg base CX0 10 f_answer fd_answer ["self", "number", "numbers", "rows"] (spDA C D)) (b_answer : Binds K fd_answer ["self", "number", "numbers", "rows"] [])
    (O_numbers_of : Own P w K mg base "numbers_of" 2 ["calls", "place"] (pL (rNOf K))) (O_lists_of : Own P w K mg base "lists_of" 2 ["calls", "place"] (pLL (rLOf K))) (O_end_of : Own P w K mg base "end_of" 2 ["calls", "place"] (pV (rEO K))) (F : Fun K "answers" "answers" s_answers f fd) : FnOk P w K mg base CX0 11 f fd ["calls"] (spAns K) := by
  refine F.ok sc_answers (fun vs H Q E h => ?_) (fun cdv A outer s H vs Q E hr h => ?_)
  · obtain ⟨pc, l, rfl, _⟩ := h
    rfl
  · obtain ⟨pc, l, rfl, I, hask, k⟩ := h
    obtain ⟨raw, hraw, hbd, hlen, hans⟩ := asked_raw hask
    refine ⟨_, (pss_cons (ps_par3 (i := 1) (j := 2) (l := 3) rfl sc_answers.nd rfl rfl rfl (by decide) (by decide) (by decide) rfl rfl rfl (pa_cons (pe_make0 M GI (hr.mono (by decide)) (by rfl) T.gD bI .nil pass0) (pa_cons (pe_lst pa_nil) (pa_cons pe_int pa_nil))) (by rfl)) (pss_cons (ps_while PassesOwn.never (pt_cmpR op_lt (pv 3) (pe_callB call_len_seq (by rfl) T.len PySem.boot_len (pa_cons (pv 0) pa_nil)) (nomark _)) (pss_cons (ps_set (i := 4) sc_answers.nd rfl (Or.inl rfl) (pe_meth (pv 1) T.clD m_answer G_answer (hr.mono (by decide)) b_answer .nil pass0 (pa_cons (pe_ix ix_list (pv 0) (pv 3) (fun _ _ => rfl)) (pa_cons (pe_own O_numbers_of (hr.mono (by decide)) (pa_cons (pv 0) (pa_cons (pv 3) pa_nil))) (pa_cons (pe_own O_lists_of (hr.mono (by decide)) (pa_cons (pv 0) (pa_cons (pv 3) pa_nil))) pa_nil))))) (pss_cons (ps_expr (pe_bm PySem.F.plainAttrs_list PySem.F.slot_list_append PySem.F.type_list_append mt_append (pv 2) (pa_cons (pe_callB call_len_seq (by rfl) T.len PySem.boot_len (pa_cons (pv 4) pa_nil)) pa_nil))) (pss_cons (ps_expr (pe_bm PySem.F.plainAttrs_list PySem.F.slot_list_extend PySem.F.type_list_extend mt_extend (pv 2) (pa_cons (pv 4) pa_nil))) (pss_one (ps_set (i := 3) sc_answers.nd rfl (Or.inl rfl) (pe_own O_end_of (hr.mono (by decide)) (pa_cons (pv 0) (pa_cons (pv 3) pa_nil))))))))) (pss_one (ps_ret (pv 2))))), ?_⟩
    intro x dx nx ndx hne
    have s0 : Ex H (upd (upd H dx (.own x)) x (.ins D dx [])) := fun b o e => by
      rw [upd_ne (ne_of_none e nx), upd_ne (ne_of_none e ndx)]
      exact e
    refine ⟨x, dx, rfl, upd_same, fun H1 A1 k1 => ⟨rfl, ?_⟩⟩
    have e1 : Ex H H1 := fun b o e => k1 b o (s0 b o e) (ne_of_none e nx)
    refine ⟨Nat.zero_le _, fun lf hlf => ⟨_, _, _, rfl, ?_⟩⟩
    have hlf0 : H lf = none := fresh_back e1 hlf
    have hld : lf ≠ x := (A1.out hlf).2
    have L0 : Lp C D H (upd H1 lf (.lst [])) x lf l 0 none [] [] l.length raw := by
      refine ⟨Nat.zero_le _, by rw [List.drop_zero]; exact hraw, hbd, by rw [hans]; rfl, e1.mut hlf0, A1.upd (by simp) hld, by simp, by simp, hld, upd_same⟩
    refine q_while (fun m σ H' => ∃ i st F fo f rest v, m = l.length - i ∧ Lp C D H H' x lf l i st F fo f rest ∧ σ = [some (.ref pc), some (.ref x), some (.ref lf), some (.int (i : Nat)), v]) l.length ⟨0, none, [], [], _, raw, none, by omega, L0, rfl⟩ ?_
    rintro m σ H2 ⟨i, st, F, fo, f, rest, v, rfl, L, rfl⟩
    refine ⟨decide (i < l.length), et_is (et_test (ev_op (ev_var rfl) (ev_len (ev_var rfl) (ex_l L.ex I)) rv_I0)) (by simp), fun hb H3 e3 => ?_, fun hb H3 e3 => ?_⟩
    · have hi : i < l.length := of_decide_eq_true hb
      rcases calls_spec L.rd with ⟨_, hle⟩ | ⟨c, rest', t, f', _, rfl, hc, hrest⟩
      · omega
      obtain ⟨q, hq15, hqi, hle, hrow, hceq, ht, hle2, hlt⟩ := call_spec hc
      subst ht
      have hcb := L.bd c List.mem_cons_self
      rw [hceq] at hcb
      obtain ⟨ns, op, hns, req, hop⟩ := req_of hq15 (by rw [List.length_take, List.length_drop]; omega) (by rw [List.length_map, List.length_range]) hcb
      rw [← hceq] at hop
      have heq := L.eq
      rw [pl_cons hop] at heq
      have e03 := L.ex.trans e3
      have hsz : fo.length + 1 + (out (Su196.step st op).2).length ≤ 10000000 := by
        rw [heq] at hlen
        simp at hlen
        omega
      have hline : (10000000 : Nat) < sizeLine := by decide
      refine ⟨fun σ2 H' => ∃ i2 st2 F2 fo2 f2 rest2 v2, i < i2 ∧ Lp C D H H' x lf l i2 st2 F2 fo2 f2 rest2 ∧ σ2 = [some (.ref pc), some (.ref x), some (.ref lf), some (.int (i2 : Nat)), v2], fun σ2 H' ⟨i2, st2, F2, fo2, f2, rest2, v2, h1, h2, h3⟩ => ⟨l.length - i2, by omega, i2, st2, F2, fo2, f2, rest2, v2, rfl, h2, h3⟩, ?_⟩
      obtain ⟨ddx, dv, hd, hdq⟩ := id (L.da.mono e3)
      refine q_meth3 (ev_var rfl) hd (dF_no dv (by decide +kernel)) (ev_atS (v := .int (q : Nat)) (ev_var rfl) (ev_var rfl) (ex_l e03 I) (get_map hqi)) (el_own mo_NOf (ea_cons (ev_var rfl) (ea_cons (ev_var rfl) ea_nil)) ⟨pc, l, i, q, rfl, ex_l e03 I, ⟨hqi, hq15⟩, rfl⟩)
        (ell_own mo_LOf (ea_cons (ev_var rfl) (ea_cons (ev_var rfl) ea_nil)) ⟨pc, l, i, q, rfl, ex_l e03 I, ⟨⟨hqi, hq15⟩, hrow⟩, rfl⟩) fun H4 pn pw rs e4 h4 h5 R => ?_
      have e34 := e3.trans e4
      have e04 := e03.trans e4
      rw [hns] at h4
      have R' : Rws H4 rs (((List.range (lss.getD q 0)).map (rw1 l (i + 1 + szs.getD q 0))).map il) := by
        rw [List.map_map]
        exact R
      refine ⟨x, st, F, q, pn, pw, ns, _, op, rfl, ⟨L.da.mono e34, ⟨h4, rs, h5, R'⟩, req⟩, fun r H5 F5 A5 g1 g2 hr hrF hrd h => ?_⟩
      have hlf4 : H4 lf = some (.lst (il fo)) := e34 _ _ L.hf
      have hrl : r ≠ lf := fun z => by rw [z, hlf4] at hr; cases hr
      have e05 : Ex H H5 := fun b o hb => g2 b o (e04 _ _ hb) (fun z => by rw [L.ff b z] at hb; cases hb) fun z => by
        obtain ⟨dx1, v1, hd1, _⟩ := A1
        have hx0 : H x = none := nx
        rw [z, hx0] at hb
        cases hb
      have hlf5 : H5 lf = some (.lst (il fo)) := g2 _ _ hlf4 L.lF L.ld
      have hlF5 : lf ∉ F5 := fun z => by
        rcases g1 lf z with z | z
        · exact L.lF z
        · rw [hlf4] at z
          cases z
      have hff5 : ∀ b ∈ F5, H b = none := fun b hb => by
        rcases g1 b hb with z | z
        · exact L.ff b z
        · exact fresh_back e04 z
      refine q_appZ hlf5 (ev_var rfl) (ev_len (ev_var rfl) (sq_of h)) (by simp; omega) fun H6 e6 => ?_
      have h6r : upd H6 lf (.lst (il fo ++ [.int (((il (out (Su196.step st op).2)).length : Nat) : Int)])) r = some (.lst (il (out (Su196.step st op).2))) := (upd_ne hrl).trans (e6 _ _ h)
      refine q_extZ upd_same (ev_var rfl) (ev_var rfl) h6r (by simp; omega) fun H7 e7 => ?_
      have e08 : Ex H (upd H7 lf (.lst ((il fo ++ [.int (((il (out (Su196.step st op).2)).length : Nat) : Int)]) ++ il (out (Su196.step st op).2)))) := (((e05.trans e6).mut hlf0).trans e7).mut hlf0
      refine s_asg (ev_own mo_EO (ea_cons (ev_var rfl) (ea_cons (ev_var rfl) ea_nil)) ⟨pc, l, i, q, rfl, ex_l e08 I, ⟨⟨hqi, hq15⟩, hrow⟩, rfl⟩) fun H9 e9 => ?_
      refine ⟨_, (Su196.step st op).1, F5, fo ++ (((out (Su196.step st op).2).length : Int) :: out (Su196.step st op).2), f', rest', _, ?_, ⟨hle2, hrest, fun c' hc' => L.bd c' (List.mem_cons_of_mem _ hc'), ?_, e08.trans e9, ?_, hff5, hlF5, L.ld, ?_⟩, rfl⟩
      · omega
      · rw [heq]
        simp
      · exact ((((A5.mono e6).upd hlF5 L.ld).mono e7).upd hlF5 L.ld).mono e9
      · refine e9 _ _ (upd_same.trans ?_)
        simp
    · have hi : l.length ≤ i := by
        have := of_decide_eq_false hb
        omega
      rcases calls_spec L.rd with ⟨rfl, _⟩ | ⟨c, rest', t, f', hlt, _⟩
      · refine s_ret (ev_var rfl) fun H4 e4 => ?_
        refine k H4 lf ((e3.trans e4) _ _ (L.hf.trans ?_))
        rw [L.eq]
        show some (HO.lst (il fo)) = some (HO.lst (il (fo ++ [])))
        rw [List.append_nil]
      · omega
end
end Tp
namespace Tp
open PySem PySem.Spec PyProof.Rows L2 Evl
section
variable {P : Program} {w : World} {K : PySem.W.Frag} {mg : Str → Option Value} {base : Heap} {C D : Addr} {f : Addr} {fd : FuncData}
/-! ### what the top has written, def by def -/
/-- the def of that text stands at f -/
def DefAt (K : PySem.W.Frag) (x q : Str) (st : Stmt) (f : Addr) : Prop := ∃ (oc : Value) (od : Option Addr) (kV dc pm : Value) (an : Option Addr) (cd ct : Value) (sl : Array (Option Value)),
  K.lookup f = some ⟨oc, od, .func (PySem.W.fnOf x q (defArgs st) (defBody st) (defScope st) .none kV dc pm an cd ct), sl⟩ ∧ PySem.W.codeIn K cd q = true ∧ PySem.W.keepIn K (.ref f) = true
theorem DefAt.mk {K : PySem.W.Frag} {x q : Str} {st : Stmt} {f : Addr} {oc : Value} {od : Option Addr} {kV dc pm : Value} {an : Option Addr} {cd ct : Value} {sl : Array (Option Value)} (l : K.lookup f = some ⟨oc, od, .func (PySem.W.fnOf x q (defArgs st) (defBody st) (defScope st) .none kV dc pm an cd ct), sl⟩)
    (c : PySem.W.codeIn K cd q = true) (k : PySem.W.keepIn K (.ref f) = true) : DefAt K x q st f := ⟨oc, od, kV, dc, pm, an, cd, ct, sl, l, c, k⟩
/-- how its arguments are bound -/
def BindsAs (x q : Str) (st : Stmt) (ps : List Str) : Prop := ∀ (kV doc pm : Value) (an : Option Addr) (cdv ct : Value) (us : List Value), us.length = ps.length → bindArgs (PySem.W.fnOf x q (defArgs st) (defBody st) (defScope st) .none kV doc pm an cdv ct) ⟨us, []⟩ = pure (ps.zip us)
theorem DefAt.fn {K : PySem.W.Frag} {x q : Str} {st : Stmt} {f : Addr} {ps : List Str} (d : DefAt K x q st f) (b : BindsAs x q st ps) : ∃ fd, Fun K x q st f fd ∧ Binds K fd ps [] ∧ ∀ (s : Shared) (us : List Value), us.length = ps.length → BindsTo s fd ⟨us, []⟩ (ps.zip us) := by
  obtain ⟨oc, od, kV, dc, pm, an, cd, ct, sl, l, c, k⟩ := d
  have F := fun_mk (st := st) l c k
  exact ⟨_, F, F.binds b, fun s us hu => .of_eq (b kV dc pm an cd ct us hu)⟩
theorem own_of {P : Program} {w : World} {K : PySem.W.Frag} {mg : Str → Option Value} {h base : Heap} {x : Str} {st : Stmt} {f : Addr} {k : Nat} {ps : List Str} {sp : Sp} (X : K.In h) (G : h.Ns mainGlobals mg) (a : PySem.W.nsIn K mainGlobals x = some (some (.ref f))) (d : DefAt K x x st f) (b : BindsAs x x st ps)
    (ok : ∀ fd, Fun K x x st f fd → FnOk P w K mg base CX0 k f fd ps sp) : Own P w K mg base x k ps sp := by
  obtain ⟨fd, F, B, _⟩ := d.fn b
  exact ⟨f, fd, PySem.W.mg_of X G a, F.kp, ok fd F, B⟩
end
theorem tup_of {K : PySem.W.Frag} {z : Addr} {od : Option Addr} {its : Array Value} {n : Nat} {sl : Array (Option Value)} {xs : List V} (l : K.lookup z = some ⟨.type "tuple", od, .seq its n, sl⟩) (v : Vals xs its.toList) (s : its.size ≤ sizeLine) : ∀ H, SqT K H z xs := fun H => .inr ⟨_, its, n, l, rfl, rfl, s, v⟩
theorem all_mk {P : Program} {w : World} {K : PySem.W.Frag} {h : Heap} {mg : Str → Option Value} {fa : Addr} {C D z_SIZES z_LISTS f_agent_count f_has_agent f_kind_count f_is_ready f_value_of f_profile_count f_is_profile f_number_of f_profile_at f_all_profiles f_with_report f_alternative_at f_are_values f_first_greatest f_total_value f_others_value f_total_values f_weighted_value f_affine_scores f_welfare_allocation f_affine_allocation f_agent_allocation f_pivot_payment f_pivot_payments f_add_kind f_set_allocation f_use_welfare_maximizer f_use_affine_maximizer f_use_agent_maximizer f_loss f_longer_cycles f_cycles_of_size f_cycles_up_to f_cycle_length f_negative_cycle f_base_profiles f_first_negative f_is_possible f_edge f_nearer f_distances f_greatest_payment f_least_payment f_are_payments f_are_truthful f_answer_allocation f_answer_loss f_answer_monotonic f_answer_bounds f_answer_truthful f_answer_pivots f_answer_welfare f_answer_describe f_answer_all_cycles f_answer_short_cycles f_first_answer f_last_answer f_lists_place f_numbers_of f_lists_of f_end_of f_answers f_Instance_init f_Desk_init f_Desk_create f_Desk_answer : Addr} {od_SIZES od_LISTS : Option Addr} {its_SIZES its_LISTS : Array Value} {n_SIZES n_LISTS : Nat} {sl_SIZES sl_LISTS : Array (Option Value)} {t_MAX_AGENTS t_LEAST_ALTERNATIVES t_MAX_ALTERNATIVES t_MAX_TYPES t_MAX_VALUE t_NO_SUCH t_BAD_ARGUMENT t_FULL t_MAX_WEIGHT t_MAX_PAYMENT t_IMPOSSIBLE t_NO_INSTANCE t_NOT_READY t_CREATE t_ADD_KIND t_DESCRIBE : Tok} (X : K.In h) (G : h.Ns mainGlobals mg) (hfa : mg "answers" = some (.ref fa))
    (aC : PySem.W.nsIn K mainGlobals "Instance" = some (some (.ref C)))
    (pgC : PySem.W.plainGet K C Str.empty = true)
    (hdC : PySem.W.hasDictIn K C = true)
    (poC : PySem.W.plainOver K C = true)
    (saC : PySem.W.findIn K (.ref C) "__setattr__" = some (some (.builtin "object.__setattr__")))
    (mkC : PySem.W.makesIn K C = true)
    (kcC : PySem.W.keepIn K (.ref C) = true)
    (aD : PySem.W.nsIn K mainGlobals "Desk" = some (some (.ref D)))
    (pgD : PySem.W.plainGet K D Str.empty = true)
    (hdD : PySem.W.hasDictIn K D = true)
    (poD : PySem.W.plainOver K D = true)
    (saD : PySem.W.findIn K (.ref D) "__setattr__" = some (some (.builtin "object.__setattr__")))
    (mkD : PySem.W.makesIn K D = true)
    (kcD : PySem.W.keepIn K (.ref D) = true)
    (nA : PySem.W.findIn K (.ref C) "alternative_count" = some none)
    (nK : PySem.W.findIn K (.ref C) "kinds" = some none)
    (nL : PySem.W.findIn K (.ref C) "allocation" = some none)
    (nI : PySem.W.findIn K (.ref D) "instance" = some none)
    (z_len : PySem.W.nsIn K mainGlobals "len" = some none)
    (z_range : PySem.W.nsIn K mainGlobals "range" = some none)
    (z_zip : PySem.W.nsIn K mainGlobals "zip" = some none)
    (z_reversed : PySem.W.nsIn K mainGlobals "reversed" = some none)
    (z_enumerate : PySem.W.nsIn K mainGlobals "enumerate" = some none)
    (z_max : PySem.W.nsIn K mainGlobals "max" = some none)
    (z_min : PySem.W.nsIn K mainGlobals "min" = some none)
    (z_all : PySem.W.nsIn K mainGlobals "all" = some none)
    (z_list : PySem.W.nsIn K mainGlobals "list" = some none)
    (z_int : PySem.W.nsIn K mainGlobals "int" = some none)
    (c_MAX_AGENTS : PySem.W.nsIn K mainGlobals "MAX_AGENTS" = some (some (.int (3) t_MAX_AGENTS)))
    (c_LEAST_ALTERNATIVES : PySem.W.nsIn K mainGlobals "LEAST_ALTERNATIVES" = some (some (.int (2) t_LEAST_ALTERNATIVES)))
    (c_MAX_ALTERNATIVES : PySem.W.nsIn K mainGlobals "MAX_ALTERNATIVES" = some (some (.int (4) t_MAX_ALTERNATIVES)))
    (c_MAX_TYPES : PySem.W.nsIn K mainGlobals "MAX_TYPES" = some (some (.int (4) t_MAX_TYPES)))
    (c_MAX_VALUE : PySem.W.nsIn K mainGlobals "MAX_VALUE" = some (some (.int (50) t_MAX_VALUE)))
    (c_NO_SUCH : PySem.W.nsIn K mainGlobals "NO_SUCH" = some (some (.int (-2) t_NO_SUCH)))
    (c_BAD_ARGUMENT : PySem.W.nsIn K mainGlobals "BAD_ARGUMENT" = some (some (.int (-22) t_BAD_ARGUMENT)))
    (c_FULL : PySem.W.nsIn K mainGlobals "FULL" = some (some (.int (-28) t_FULL)))
    (c_MAX_WEIGHT : PySem.W.nsIn K mainGlobals "MAX_WEIGHT" = some (some (.int (99) t_MAX_WEIGHT)))
    (c_MAX_PAYMENT : PySem.W.nsIn K mainGlobals "MAX_PAYMENT" = some (some (.int (1000) t_MAX_PAYMENT)))
    (c_IMPOSSIBLE : PySem.W.nsIn K mainGlobals "IMPOSSIBLE" = some (some (.int (-33) t_IMPOSSIBLE)))
    (c_NO_INSTANCE : PySem.W.nsIn K mainGlobals "NO_INSTANCE" = some (some (.int (-11) t_NO_INSTANCE)))
    (c_NOT_READY : PySem.W.nsIn K mainGlobals "NOT_READY" = some (some (.int (-16) t_NOT_READY)))
    (c_CREATE : PySem.W.nsIn K mainGlobals "CREATE" = some (some (.int (0) t_CREATE)))
    (c_ADD_KIND : PySem.W.nsIn K mainGlobals "ADD_KIND" = some (some (.int (1) t_ADD_KIND)))
    (c_DESCRIBE : PySem.W.nsIn K mainGlobals "DESCRIBE" = some (some (.int (14) t_DESCRIBE)))
    (a_SIZES : PySem.W.nsIn K mainGlobals "SIZES" = some (some (.ref z_SIZES)))
    (l_SIZES : K.lookup z_SIZES = some ⟨.type "tuple", od_SIZES, .seq its_SIZES n_SIZES, sl_SIZES⟩)
    (v_SIZES : Vals (il sizesV) its_SIZES.toList)
    (s_SIZES : its_SIZES.size ≤ sizeLine)
    (a_LISTS : PySem.W.nsIn K mainGlobals "LISTS" = some (some (.ref z_LISTS)))
    (l_LISTS : K.lookup z_LISTS = some ⟨.type "tuple", od_LISTS, .seq its_LISTS n_LISTS, sl_LISTS⟩)
    (v_LISTS : Vals (il listsV) its_LISTS.toList)
    (s_LISTS : its_LISTS.size ≤ sizeLine)
    (a_agent_count : PySem.W.nsIn K mainGlobals "agent_count" = some (some (.ref f_agent_count)))
    (d_agent_count : DefAt K "agent_count" "agent_count" s_agent_count f_agent_count)
    (a_has_agent : PySem.W.nsIn K mainGlobals "has_agent" = some (some (.ref f_has_agent)))
    (d_has_agent : DefAt K "has_agent" "has_agent" s_has_agent f_has_agent)
    (a_kind_count : PySem.W.nsIn K mainGlobals "kind_count" = some (some (.ref f_kind_count)))
    (d_kind_count : DefAt K "kind_count" "kind_count" s_kind_count f_kind_count)
    (a_is_ready : PySem.W.nsIn K mainGlobals "is_ready" = some (some (.ref f_is_ready)))
    (d_is_ready : DefAt K "is_ready" "is_ready" s_is_ready f_is_ready)
    (a_value_of : PySem.W.nsIn K mainGlobals "value_of" = some (some (.ref f_value_of)))
    (d_value_of : DefAt K "value_of" "value_of" s_value_of f_value_of)
    (a_profile_count : PySem.W.nsIn K mainGlobals "profile_count" = some (some (.ref f_profile_count)))
    (d_profile_count : DefAt K "profile_count" "profile_count" s_profile_count f_profile_count)
    (a_is_profile : PySem.W.nsIn K mainGlobals "is_profile" = some (some (.ref f_is_profile)))
    (d_is_profile : DefAt K "is_profile" "is_profile" s_is_profile f_is_profile)
    (a_number_of : PySem.W.nsIn K mainGlobals "number_of" = some (some (.ref f_number_of)))
    (d_number_of : DefAt K "number_of" "number_of" s_number_of f_number_of)
    (a_profile_at : PySem.W.nsIn K mainGlobals "profile_at" = some (some (.ref f_profile_at)))
    (d_profile_at : DefAt K "profile_at" "profile_at" s_profile_at f_profile_at)
    (a_all_profiles : PySem.W.nsIn K mainGlobals "all_profiles" = some (some (.ref f_all_profiles)))
    (d_all_profiles : DefAt K "all_profiles" "all_profiles" s_all_profiles f_all_profiles)
    (a_with_report : PySem.W.nsIn K mainGlobals "with_report" = some (some (.ref f_with_report)))
    (d_with_report : DefAt K "with_report" "with_report" s_with_report f_with_report)
    (a_alternative_at : PySem.W.nsIn K mainGlobals "alternative_at" = some (some (.ref f_alternative_at)))
    (d_alternative_at : DefAt K "alternative_at" "alternative_at" s_alternative_at f_alternative_at)
    (a_are_values : PySem.W.nsIn K mainGlobals "are_values" = some (some (.ref f_are_values)))
    (d_are_values : DefAt K "are_values" "are_values" s_are_values f_are_values)
    (a_first_greatest : PySem.W.nsIn K mainGlobals "first_greatest" = some (some (.ref f_first_greatest)))
    (d_first_greatest : DefAt K "first_greatest" "first_greatest" s_first_greatest f_first_greatest)
    (a_total_value : PySem.W.nsIn K mainGlobals "total_value" = some (some (.ref f_total_value)))
    (d_total_value : DefAt K "total_value" "total_value" s_total_value f_total_value)
    (a_others_value : PySem.W.nsIn K mainGlobals "others_value" = some (some (.ref f_others_value)))
    (d_others_value : DefAt K "others_value" "others_value" s_others_value f_others_value)
    (a_total_values : PySem.W.nsIn K mainGlobals "total_values" = some (some (.ref f_total_values)))
    (d_total_values : DefAt K "total_values" "total_values" s_total_values f_total_values)
    (a_weighted_value : PySem.W.nsIn K mainGlobals "weighted_value" = some (some (.ref f_weighted_value)))
    (d_weighted_value : DefAt K "weighted_value" "weighted_value" s_weighted_value f_weighted_value)
    (a_affine_scores : PySem.W.nsIn K mainGlobals "affine_scores" = some (some (.ref f_affine_scores)))
    (d_affine_scores : DefAt K "affine_scores" "affine_scores" s_affine_scores f_affine_scores)
    (a_welfare_allocation : PySem.W.nsIn K mainGlobals "welfare_allocation" = some (some (.ref f_welfare_allocation)))
    (d_welfare_allocation : DefAt K "welfare_allocation" "welfare_allocation" s_welfare_allocation f_welfare_allocation)
    (a_affine_allocation : PySem.W.nsIn K mainGlobals "affine_allocation" = some (some (.ref f_affine_allocation)))
    (d_affine_allocation : DefAt K "affine_allocation" "affine_allocation" s_affine_allocation f_affine_allocation)
    (a_agent_allocation : PySem.W.nsIn K mainGlobals "agent_allocation" = some (some (.ref f_agent_allocation)))
    (d_agent_allocation : DefAt K "agent_allocation" "agent_allocation" s_agent_allocation f_agent_allocation)
    (a_pivot_payment : PySem.W.nsIn K mainGlobals "pivot_payment" = some (some (.ref f_pivot_payment)))
    (d_pivot_payment : DefAt K "pivot_payment" "pivot_payment" s_pivot_payment f_pivot_payment)
    (a_pivot_payments : PySem.W.nsIn K mainGlobals "pivot_payments" = some (some (.ref f_pivot_payments)))
    (d_pivot_payments : DefAt K "pivot_payments" "pivot_payments" s_pivot_payments f_pivot_payments)
    (a_add_kind : PySem.W.nsIn K mainGlobals "add_kind" = some (some (.ref f_add_kind)))
    (d_add_kind : DefAt K "add_kind" "add_kind" s_add_kind f_add_kind)
    (a_set_allocation : PySem.W.nsIn K mainGlobals "set_allocation" = some (some (.ref f_set_allocation)))
    (d_set_allocation : DefAt K "set_allocation" "set_allocation" s_set_allocation f_set_allocation)
    (a_use_welfare_maximizer : PySem.W.nsIn K mainGlobals "use_welfare_maximizer" = some (some (.ref f_use_welfare_maximizer)))
    (d_use_welfare_maximizer : DefAt K "use_welfare_maximizer" "use_welfare_maximizer" s_use_welfare_maximizer f_use_welfare_maximizer)
    (a_use_affine_maximizer : PySem.W.nsIn K mainGlobals "use_affine_maximizer" = some (some (.ref f_use_affine_maximizer)))
    (d_use_affine_maximizer : DefAt K "use_affine_maximizer" "use_affine_maximizer" s_use_affine_maximizer f_use_affine_maximizer)
    (a_use_agent_maximizer : PySem.W.nsIn K mainGlobals "use_agent_maximizer" = some (some (.ref f_use_agent_maximizer)))
    (d_use_agent_maximizer : DefAt K "use_agent_maximizer" "use_agent_maximizer" s_use_agent_maximizer f_use_agent_maximizer)
    (a_loss : PySem.W.nsIn K mainGlobals "loss" = some (some (.ref f_loss)))
    (d_loss : DefAt K "loss" "loss" s_loss f_loss)
    (a_longer_cycles : PySem.W.nsIn K mainGlobals "longer_cycles" = some (some (.ref f_longer_cycles)))
    (d_longer_cycles : DefAt K "longer_cycles" "longer_cycles" s_longer_cycles f_longer_cycles)
    (a_cycles_of_size : PySem.W.nsIn K mainGlobals "cycles_of_size" = some (some (.ref f_cycles_of_size)))
    (d_cycles_of_size : DefAt K "cycles_of_size" "cycles_of_size" s_cycles_of_size f_cycles_of_size)
    (a_cycles_up_to : PySem.W.nsIn K mainGlobals "cycles_up_to" = some (some (.ref f_cycles_up_to)))
    (d_cycles_up_to : DefAt K "cycles_up_to" "cycles_up_to" s_cycles_up_to f_cycles_up_to)
    (a_cycle_length : PySem.W.nsIn K mainGlobals "cycle_length" = some (some (.ref f_cycle_length)))
    (d_cycle_length : DefAt K "cycle_length" "cycle_length" s_cycle_length f_cycle_length)
    (a_negative_cycle : PySem.W.nsIn K mainGlobals "negative_cycle" = some (some (.ref f_negative_cycle)))
    (d_negative_cycle : DefAt K "negative_cycle" "negative_cycle" s_negative_cycle f_negative_cycle)
    (a_base_profiles : PySem.W.nsIn K mainGlobals "base_profiles" = some (some (.ref f_base_profiles)))
    (d_base_profiles : DefAt K "base_profiles" "base_profiles" s_base_profiles f_base_profiles)
    (a_first_negative : PySem.W.nsIn K mainGlobals "first_negative" = some (some (.ref f_first_negative)))
    (d_first_negative : DefAt K "first_negative" "first_negative" s_first_negative f_first_negative)
    (a_is_possible : PySem.W.nsIn K mainGlobals "is_possible" = some (some (.ref f_is_possible)))
    (d_is_possible : DefAt K "is_possible" "is_possible" s_is_possible f_is_possible)
    (a_edge : PySem.W.nsIn K mainGlobals "edge" = some (some (.ref f_edge)))
    (d_edge : DefAt K "edge" "edge" s_edge f_edge)
    (a_nearer : PySem.W.nsIn K mainGlobals "nearer" = some (some (.ref f_nearer)))
    (d_nearer : DefAt K "nearer" "nearer" s_nearer f_nearer)
    (a_distances : PySem.W.nsIn K mainGlobals "distances" = some (some (.ref f_distances)))
    (d_distances : DefAt K "distances" "distances" s_distances f_distances)
    (a_greatest_payment : PySem.W.nsIn K mainGlobals "greatest_payment" = some (some (.ref f_greatest_payment)))
    (d_greatest_payment : DefAt K "greatest_payment" "greatest_payment" s_greatest_payment f_greatest_payment)
    (a_least_payment : PySem.W.nsIn K mainGlobals "least_payment" = some (some (.ref f_least_payment)))
    (d_least_payment : DefAt K "least_payment" "least_payment" s_least_payment f_least_payment)
    (a_are_payments : PySem.W.nsIn K mainGlobals "are_payments" = some (some (.ref f_are_payments)))
    (d_are_payments : DefAt K "are_payments" "are_payments" s_are_payments f_are_payments)
    (a_are_truthful : PySem.W.nsIn K mainGlobals "are_truthful" = some (some (.ref f_are_truthful)))
    (d_are_truthful : DefAt K "are_truthful" "are_truthful" s_are_truthful f_are_truthful)
    (a_answer_allocation : PySem.W.nsIn K mainGlobals "answer_allocation" = some (some (.ref f_answer_allocation)))
    (d_answer_allocation : DefAt K "answer_allocation" "answer_allocation" s_answer_allocation f_answer_allocation)
    (a_answer_loss : PySem.W.nsIn K mainGlobals "answer_loss" = some (some (.ref f_answer_loss)))
    (d_answer_loss : DefAt K "answer_loss" "answer_loss" s_answer_loss f_answer_loss)
    (a_answer_monotonic : PySem.W.nsIn K mainGlobals "answer_monotonic" = some (some (.ref f_answer_monotonic)))
    (d_answer_monotonic : DefAt K "answer_monotonic" "answer_monotonic" s_answer_monotonic f_answer_monotonic)
    (a_answer_bounds : PySem.W.nsIn K mainGlobals "answer_bounds" = some (some (.ref f_answer_bounds)))
    (d_answer_bounds : DefAt K "answer_bounds" "answer_bounds" s_answer_bounds f_answer_bounds)
    (a_answer_truthful : PySem.W.nsIn K mainGlobals "answer_truthful" = some (some (.ref f_answer_truthful)))
    (d_answer_truthful : DefAt K "answer_truthful" "answer_truthful" s_answer_truthful f_answer_truthful)
    (a_answer_pivots : PySem.W.nsIn K mainGlobals "answer_pivots" = some (some (.ref f_answer_pivots)))
    (d_answer_pivots : DefAt K "answer_pivots" "answer_pivots" s_answer_pivots f_answer_pivots)
    (a_answer_welfare : PySem.W.nsIn K mainGlobals "answer_welfare" = some (some (.ref f_answer_welfare)))
    (d_answer_welfare : DefAt K "answer_welfare" "answer_welfare" s_answer_welfare f_answer_welfare)
    (a_answer_describe : PySem.W.nsIn K mainGlobals "answer_describe" = some (some (.ref f_answer_describe)))
    (d_answer_describe : DefAt K "answer_describe" "answer_describe" s_answer_describe f_answer_describe)
    (a_answer_all_cycles : PySem.W.nsIn K mainGlobals "answer_all_cycles" = some (some (.ref f_answer_all_cycles)))
    (d_answer_all_cycles : DefAt K "answer_all_cycles" "answer_all_cycles" s_answer_all_cycles f_answer_all_cycles)
    (a_answer_short_cycles : PySem.W.nsIn K mainGlobals "answer_short_cycles" = some (some (.ref f_answer_short_cycles)))
    (d_answer_short_cycles : DefAt K "answer_short_cycles" "answer_short_cycles" s_answer_short_cycles f_answer_short_cycles)
    (a_first_answer : PySem.W.nsIn K mainGlobals "first_answer" = some (some (.ref f_first_answer)))
    (d_first_answer : DefAt K "first_answer" "first_answer" s_first_answer f_first_answer)
    (a_last_answer : PySem.W.nsIn K mainGlobals "last_answer" = some (some (.ref f_last_answer)))
    (d_last_answer : DefAt K "last_answer" "last_answer" s_last_answer f_last_answer)
    (a_lists_place : PySem.W.nsIn K mainGlobals "lists_place" = some (some (.ref f_lists_place)))
    (d_lists_place : DefAt K "lists_place" "lists_place" s_lists_place f_lists_place)
    (a_numbers_of : PySem.W.nsIn K mainGlobals "numbers_of" = some (some (.ref f_numbers_of)))
    (d_numbers_of : DefAt K "numbers_of" "numbers_of" s_numbers_of f_numbers_of)
    (a_lists_of : PySem.W.nsIn K mainGlobals "lists_of" = some (some (.ref f_lists_of)))
    (d_lists_of : DefAt K "lists_of" "lists_of" s_lists_of f_lists_of)
    (a_end_of : PySem.W.nsIn K mainGlobals "end_of" = some (some (.ref f_end_of)))
    (d_end_of : DefAt K "end_of" "end_of" s_end_of f_end_of)
    (a_answers : PySem.W.nsIn K mainGlobals "answers" = some (some (.ref f_answers)))
    (d_answers : DefAt K "answers" "answers" s_answers f_answers)
    (a_Instance_init : PySem.W.findIn K (.ref C) "__init__" = some (some (.ref f_Instance_init)))
    (i_Instance_init : PySem.W.isFn K (.ref f_Instance_init) = true)
    (d_Instance_init : DefAt K "__init__" "Instance.__init__" s_Instance_init f_Instance_init)
    (a_Desk_init : PySem.W.findIn K (.ref D) "__init__" = some (some (.ref f_Desk_init)))
    (i_Desk_init : PySem.W.isFn K (.ref f_Desk_init) = true)
    (d_Desk_init : DefAt K "__init__" "Desk.__init__" s_Desk_init f_Desk_init)
    (a_Desk_create : PySem.W.findIn K (.ref D) "create" = some (some (.ref f_Desk_create)))
    (i_Desk_create : PySem.W.isFn K (.ref f_Desk_create) = true)
    (d_Desk_create : DefAt K "create" "Desk.create" s_Desk_create f_Desk_create)
    (a_Desk_answer : PySem.W.findIn K (.ref D) "answer" = some (some (.ref f_Desk_answer)))
    (i_Desk_answer : PySem.W.isFn K (.ref f_Desk_answer) = true)
    (d_Desk_answer : DefAt K "answer" "Desk.answer" s_Desk_answer f_Desk_answer) :
    ∃ fd : FuncData, (∀ (s : Shared) (us : List Value), us.length = (["calls"] : List Str).length → BindsTo s fd ⟨us, []⟩ ((["calls"] : List Str).zip us)) ∧ ∀ base : Heap, K.In base → base.Ns mainGlobals mg → FnOk P w K mg base CX0 11 fa fd ["calls"] (spAns K) := by
  have e := hfa.symm.trans (PySem.W.mg_of X G a_answers)
  cases e
  have T : Txt K mg C D := ⟨⟨pgC, hdC, poC, saC⟩, nA, nK, nL, ⟨pgD, hdD, poD, saD⟩, nI, PySem.W.mg_of X G aC, PySem.W.mg_of X G aD, PySem.W.mg_none_of X G z_len, PySem.W.mg_none_of X G z_range, PySem.W.mg_none_of X G z_zip, PySem.W.mg_none_of X G z_reversed, PySem.W.mg_none_of X G z_enumerate, PySem.W.mg_none_of X G z_max, PySem.W.mg_none_of X G z_min, PySem.W.mg_none_of X G z_all, PySem.W.mg_none_of X G z_list, PySem.W.mg_none_of X G z_int, ⟨_, PySem.W.mg_of X G c_MAX_AGENTS⟩, ⟨_, PySem.W.mg_of X G c_LEAST_ALTERNATIVES⟩, ⟨_, PySem.W.mg_of X G c_MAX_ALTERNATIVES⟩, ⟨_, PySem.W.mg_of X G c_MAX_TYPES⟩, ⟨_, PySem.W.mg_of X G c_MAX_VALUE⟩, ⟨_, PySem.W.mg_of X G c_NO_SUCH⟩, ⟨_, PySem.W.mg_of X G c_BAD_ARGUMENT⟩, ⟨_, PySem.W.mg_of X G c_FULL⟩, ⟨_, PySem.W.mg_of X G c_MAX_WEIGHT⟩, ⟨_, PySem.W.mg_of X G c_MAX_PAYMENT⟩, ⟨_, PySem.W.mg_of X G c_IMPOSSIBLE⟩, ⟨_, PySem.W.mg_of X G c_NO_INSTANCE⟩, ⟨_, PySem.W.mg_of X G c_NOT_READY⟩, ⟨_, PySem.W.mg_of X G c_CREATE⟩, ⟨_, PySem.W.mg_of X G c_ADD_KIND⟩, ⟨_, PySem.W.mg_of X G c_DESCRIBE⟩, ⟨_, PySem.W.mg_of X G a_SIZES, tup_of l_SIZES v_SIZES s_SIZES⟩, ⟨_, PySem.W.mg_of X G a_LISTS, tup_of l_LISTS v_LISTS s_LISTS⟩⟩
  obtain ⟨fd_answers, F_answers, B_answers, bt⟩ := d_answers.fn (ps := ["calls"]) (fun _ _ _ _ _ _ us hl => match us, hl with | [_], _ => rfl)
  refine ⟨fd_answers, bt, fun base _ _ => ?_⟩
  obtain ⟨fd_Instance_init, F_Instance_init, B_Instance_init, _⟩ := d_Instance_init.fn (ps := ["self", "agent_count", "alternative_count"]) (fun _ _ _ _ _ _ us hl => match us, hl with | [_, _, _], _ => rfl)
  obtain ⟨fd_Desk_init, F_Desk_init, B_Desk_init, _⟩ := d_Desk_init.fn (ps := ["self"]) (fun _ _ _ _ _ _ us hl => match us, hl with | [_], _ => rfl)
  obtain ⟨fd_Desk_create, F_Desk_create, B_Desk_create, _⟩ := d_Desk_create.fn (ps := ["self", "agents", "alternatives"]) (fun _ _ _ _ _ _ us hl => match us, hl with | [_, _, _], _ => rfl)
  obtain ⟨fd_Desk_answer, F_Desk_answer, B_Desk_answer, _⟩ := d_Desk_answer.fn (ps := ["self", "number", "numbers", "rows"]) (fun _ _ _ _ _ _ us hl => match us, hl with | [_, _, _, _], _ => rfl)
  have GI_C : FnOk P w K mg base CX0 1 f_Instance_init fd_Instance_init ["self", "agent_count", "alternative_count"] (spII C) := ok_Instance_init T F_Instance_init
  have GI_D : FnOk P w K mg base CX0 1 f_Desk_init fd_Desk_init ["self"] (spDI C D) := ok_Desk_init T F_Desk_init
  have M_C : Mk K C f_Instance_init := ⟨mkC, a_Instance_init, i_Instance_init, kcC⟩
  have M_D : Mk K D f_Desk_init := ⟨mkD, a_Desk_init, i_Desk_init, kcD⟩
  have O_agent_count : Own P w K mg base "agent_count" 1 ["instance"] (pV (rAC C)) := own_of X G a_agent_count d_agent_count (fun _ _ _ _ _ _ us hl => match us, hl with | [_], _ => rfl) fun fd F => ok_agent_count T  F
  have O_has_agent : Own P w K mg base "has_agent" 1 ["instance", "agent"] (pV (rHA C)) := own_of X G a_has_agent d_has_agent (fun _ _ _ _ _ _ us hl => match us, hl with | [_, _], _ => rfl) fun fd F => ok_has_agent T  F
  have O_kind_count : Own P w K mg base "kind_count" 1 ["instance", "agent"] (pV (rKC C)) := own_of X G a_kind_count d_kind_count (fun _ _ _ _ _ _ us hl => match us, hl with | [_, _], _ => rfl) fun fd F => ok_kind_count T  F
  have O_is_ready : Own P w K mg base "is_ready" 1 ["instance"] (pV (rIR C)) := own_of X G a_is_ready d_is_ready (fun _ _ _ _ _ _ us hl => match us, hl with | [_], _ => rfl) fun fd F => ok_is_ready T  F
  have O_value_of : Own P w K mg base "value_of" 1 ["instance", "agent", "kind", "alternative"] (pV (rVO C)) := own_of X G a_value_of d_value_of (fun _ _ _ _ _ _ us hl => match us, hl with | [_, _, _, _], _ => rfl) fun fd F => ok_value_of T  F
  have O_profile_count : Own P w K mg base "profile_count" 1 ["instance"] (pV (rPC C)) := own_of X G a_profile_count d_profile_count (fun _ _ _ _ _ _ us hl => match us, hl with | [_], _ => rfl) fun fd F => ok_profile_count T  F
  have O_is_profile : Own P w K mg base "is_profile" 1 ["instance", "profile"] (pV (rIP C)) := own_of X G a_is_profile d_is_profile (fun _ _ _ _ _ _ us hl => match us, hl with | [_, _], _ => rfl) fun fd F => ok_is_profile T  F
  have O_number_of : Own P w K mg base "number_of" 1 ["instance", "profile"] (pV (rNO C)) := own_of X G a_number_of d_number_of (fun _ _ _ _ _ _ us hl => match us, hl with | [_, _], _ => rfl) fun fd F => ok_number_of T  F
  have O_profile_at : Own P w K mg base "profile_at" 1 ["instance", "number"] (pL (rPA C)) := own_of X G a_profile_at d_profile_at (fun _ _ _ _ _ _ us hl => match us, hl with | [_, _], _ => rfl) fun fd F => ok_profile_at T  F
  have O_all_profiles : Own P w K mg base "all_profiles" 2 ["instance"] (pLL (rAP C)) := own_of X G a_all_profiles d_all_profiles (fun _ _ _ _ _ _ us hl => match us, hl with | [_], _ => rfl) fun fd F => ok_all_profiles T (O_profile_count := O_profile_count) (O_profile_at := O_profile_at) F
  have O_with_report : Own P w K mg base "with_report" 1 ["profile", "agent", "kind"] (pL rWR) := own_of X G a_with_report d_with_report (fun _ _ _ _ _ _ us hl => match us, hl with | [_, _, _], _ => rfl) fun fd F => ok_with_report T  F
  have O_alternative_at : Own P w K mg base "alternative_at" 2 ["instance", "profile"] (pV (rAA C)) := own_of X G a_alternative_at d_alternative_at (fun _ _ _ _ _ _ us hl => match us, hl with | [_, _], _ => rfl) fun fd F => ok_alternative_at T (O_number_of := O_number_of) F
  have O_are_values : Own P w K mg base "are_values" 1 ["instance", "numbers"] (pV (rAV C)) := own_of X G a_are_values d_are_values (fun _ _ _ _ _ _ us hl => match us, hl with | [_, _], _ => rfl) fun fd F => ok_are_values T  F
  have O_first_greatest : Own P w K mg base "first_greatest" 1 ["scores"] (pV rFG) := own_of X G a_first_greatest d_first_greatest (fun _ _ _ _ _ _ us hl => match us, hl with | [_], _ => rfl) fun fd F => ok_first_greatest T  F
  have O_total_value : Own P w K mg base "total_value" 2 ["instance", "profile", "alternative"] (pV (rTV C)) := own_of X G a_total_value d_total_value (fun _ _ _ _ _ _ us hl => match us, hl with | [_, _, _], _ => rfl) fun fd F => ok_total_value T (O_value_of := O_value_of) F
  have O_others_value : Own P w K mg base "others_value" 3 ["instance", "profile", "agent", "alternative"] (pV (rOV C)) := own_of X G a_others_value d_others_value (fun _ _ _ _ _ _ us hl => match us, hl with | [_, _, _, _], _ => rfl) fun fd F => ok_others_value T (O_value_of := O_value_of) (O_total_value := O_total_value) F
  have O_total_values : Own P w K mg base "total_values" 3 ["instance", "profile"] (pL (rTVs C)) := own_of X G a_total_values d_total_values (fun _ _ _ _ _ _ us hl => match us, hl with | [_, _], _ => rfl) fun fd F => ok_total_values T (O_total_value := O_total_value) F
  have O_weighted_value : Own P w K mg base "weighted_value" 2 ["instance", "profile", "weights", "alternative"] (pV (rWV C)) := own_of X G a_weighted_value d_weighted_value (fun _ _ _ _ _ _ us hl => match us, hl with | [_, _, _, _], _ => rfl) fun fd F => ok_weighted_value T (O_value_of := O_value_of) F
  have O_affine_scores : Own P w K mg base "affine_scores" 3 ["instance", "profile", "weights", "boosts"] (pL (rAS C)) := own_of X G a_affine_scores d_affine_scores (fun _ _ _ _ _ _ us hl => match us, hl with | [_, _, _, _], _ => rfl) fun fd F => ok_affine_scores T (O_weighted_value := O_weighted_value) F
  have O_welfare_allocation : Own P w K mg base "welfare_allocation" 4 ["instance"] (pL (rWA C)) := own_of X G a_welfare_allocation d_welfare_allocation (fun _ _ _ _ _ _ us hl => match us, hl with | [_], _ => rfl) fun fd F => ok_welfare_allocation T (O_first_greatest := O_first_greatest) (O_total_values := O_total_values) (O_all_profiles := O_all_profiles) F
  have O_affine_allocation : Own P w K mg base "affine_allocation" 4 ["instance", "weights", "boosts"] (pL (rFA C)) := own_of X G a_affine_allocation d_affine_allocation (fun _ _ _ _ _ _ us hl => match us, hl with | [_, _, _], _ => rfl) fun fd F => ok_affine_allocation T (O_first_greatest := O_first_greatest) (O_affine_scores := O_affine_scores) (O_all_profiles := O_all_profiles) F
  have O_agent_allocation : Own P w K mg base "agent_allocation" 3 ["instance", "agent"] (pL (rGA C)) := own_of X G a_agent_allocation d_agent_allocation (fun _ _ _ _ _ _ us hl => match us, hl with | [_, _], _ => rfl) fun fd F => ok_agent_allocation T (O_first_greatest := O_first_greatest) (O_all_profiles := O_all_profiles) F
  have O_pivot_payment : Own P w K mg base "pivot_payment" 4 ["instance", "profile", "agent"] (pV (rPP C)) := own_of X G a_pivot_payment d_pivot_payment (fun _ _ _ _ _ _ us hl => match us, hl with | [_, _, _], _ => rfl) fun fd F => ok_pivot_payment T (O_others_value := O_others_value) (O_alternative_at := O_alternative_at) F
  have O_pivot_payments : Own P w K mg base "pivot_payments" 5 ["instance", "profile"] (pL (rPPs C)) := own_of X G a_pivot_payments d_pivot_payments (fun _ _ _ _ _ _ us hl => match us, hl with | [_, _], _ => rfl) fun fd F => ok_pivot_payments T (O_pivot_payment := O_pivot_payment) (O_agent_count := O_agent_count) F
  have O_add_kind : Own P w K mg base "add_kind" 2 ["instance", "numbers", "rows"] (spAK C) := own_of X G a_add_kind d_add_kind (fun _ _ _ _ _ _ us hl => match us, hl with | [_, _, _], _ => rfl) fun fd F => ok_add_kind T (O_has_agent := O_has_agent) (O_are_values := O_are_values) (O_kind_count := O_kind_count) (O_is_ready := O_is_ready) (O_profile_count := O_profile_count) F
  have O_set_allocation : Own P w K mg base "set_allocation" 3 ["instance", "numbers", "rows"] (spSA C) := own_of X G a_set_allocation d_set_allocation (fun _ _ _ _ _ _ us hl => match us, hl with | [_, _, _], _ => rfl) fun fd F => ok_set_allocation T (O_alternative_at := O_alternative_at) (O_number_of := O_number_of) (O_is_profile := O_is_profile) F
  have O_use_welfare_maximizer : Own P w K mg base "use_welfare_maximizer" 5 ["instance", "numbers", "rows"] (spUW C) := own_of X G a_use_welfare_maximizer d_use_welfare_maximizer (fun _ _ _ _ _ _ us hl => match us, hl with | [_, _, _], _ => rfl) fun fd F => ok_use_welfare_maximizer T (O_welfare_allocation := O_welfare_allocation) F
  have O_use_affine_maximizer : Own P w K mg base "use_affine_maximizer" 5 ["instance", "numbers", "rows"] (spUF C) := own_of X G a_use_affine_maximizer d_use_affine_maximizer (fun _ _ _ _ _ _ us hl => match us, hl with | [_, _, _], _ => rfl) fun fd F => ok_use_affine_maximizer T (O_agent_count := O_agent_count) (O_affine_allocation := O_affine_allocation) F
  have O_use_agent_maximizer : Own P w K mg base "use_agent_maximizer" 4 ["instance", "numbers", "rows"] (spUG C) := own_of X G a_use_agent_maximizer d_use_agent_maximizer (fun _ _ _ _ _ _ us hl => match us, hl with | [_, _, _], _ => rfl) fun fd F => ok_use_agent_maximizer T (O_has_agent := O_has_agent) (O_agent_allocation := O_agent_allocation) F
  have O_loss : Own P w K mg base "loss" 3 ["instance", "agent", "profile", "kind", "other"] (pV (rLO C)) := own_of X G a_loss d_loss (fun _ _ _ _ _ _ us hl => match us, hl with | [_, _, _, _, _], _ => rfl) fun fd F => ok_loss T (O_alternative_at := O_alternative_at) (O_with_report := O_with_report) (O_value_of := O_value_of) F
  have O_longer_cycles : Own P w K mg base "longer_cycles" 1 ["cycles", "many"] (pLL rLC) := own_of X G a_longer_cycles d_longer_cycles (fun _ _ _ _ _ _ us hl => match us, hl with | [_, _], _ => rfl) fun fd F => ok_longer_cycles T  F
  have O_cycles_of_size : Own P w K mg base "cycles_of_size" 2 ["many", "size"] (pLL rCS) := own_of X G a_cycles_of_size d_cycles_of_size (fun _ _ _ _ _ _ us hl => match us, hl with | [_, _], _ => rfl) fun fd F => ok_cycles_of_size T (O_longer_cycles := O_longer_cycles) F
  have O_cycles_up_to : Own P w K mg base "cycles_up_to" 3 ["many", "size"] (pLL rCU) := own_of X G a_cycles_up_to d_cycles_up_to (fun _ _ _ _ _ _ us hl => match us, hl with | [_, _], _ => rfl) fun fd F => ok_cycles_up_to T (O_cycles_of_size := O_cycles_of_size) F
  have O_cycle_length : Own P w K mg base "cycle_length" 4 ["instance", "agent", "profile", "cycle"] (pV (rCy C)) := own_of X G a_cycle_length d_cycle_length (fun _ _ _ _ _ _ us hl => match us, hl with | [_, _, _, _], _ => rfl) fun fd F => ok_cycle_length T (O_loss := O_loss) F
  have O_negative_cycle : Own P w K mg base "negative_cycle" 5 ["instance", "agent", "profile", "size"] (pO (rNC C)) := own_of X G a_negative_cycle d_negative_cycle (fun _ _ _ _ _ _ us hl => match us, hl with | [_, _, _, _], _ => rfl) fun fd F => ok_negative_cycle T (O_cycles_up_to := O_cycles_up_to) (O_kind_count := O_kind_count) (O_cycle_length := O_cycle_length) F
  have O_base_profiles : Own P w K mg base "base_profiles" 3 ["instance", "agent"] (pLL (rBP C)) := own_of X G a_base_profiles d_base_profiles (fun _ _ _ _ _ _ us hl => match us, hl with | [_, _], _ => rfl) fun fd F => ok_base_profiles T (O_all_profiles := O_all_profiles) F
  have O_first_negative : Own P w K mg base "first_negative" 6 ["instance", "size"] (spFN C) := own_of X G a_first_negative d_first_negative (fun _ _ _ _ _ _ us hl => match us, hl with | [_, _], _ => rfl) fun fd F => ok_first_negative T (O_agent_count := O_agent_count) (O_base_profiles := O_base_profiles) (O_negative_cycle := O_negative_cycle) F
  have O_is_possible : Own P w K mg base "is_possible" 6 ["instance", "agent", "profile"] (pV (rIs C)) := own_of X G a_is_possible d_is_possible (fun _ _ _ _ _ _ us hl => match us, hl with | [_, _, _], _ => rfl) fun fd F => ok_is_possible T (O_negative_cycle := O_negative_cycle) F
  have O_edge : Own P w K mg base "edge" 4 ["instance", "agent", "profile", "kind", "other"] (pV (rEd C)) := own_of X G a_edge d_edge (fun _ _ _ _ _ _ us hl => match us, hl with | [_, _, _, _, _], _ => rfl) fun fd F => ok_edge T (O_loss := O_loss) F
  have O_nearer : Own P w K mg base "nearer" 5 ["instance", "agent", "profile", "lengths", "kind"] (pV (rNe C)) := own_of X G a_nearer d_nearer (fun _ _ _ _ _ _ us hl => match us, hl with | [_, _, _, _, _], _ => rfl) fun fd F => ok_nearer T (O_edge := O_edge) F
  have O_distances : Own P w K mg base "distances" 6 ["instance", "agent", "profile", "kind"] (pL (rDi C)) := own_of X G a_distances d_distances (fun _ _ _ _ _ _ us hl => match us, hl with | [_, _, _, _], _ => rfl) fun fd F => ok_distances T (O_kind_count := O_kind_count) (O_edge := O_edge) (O_nearer := O_nearer) F
  have O_greatest_payment : Own P w K mg base "greatest_payment" 7 ["instance", "agent", "profile"] (pV (rGP C)) := own_of X G a_greatest_payment d_greatest_payment (fun _ _ _ _ _ _ us hl => match us, hl with | [_, _, _], _ => rfl) fun fd F => ok_greatest_payment T (O_distances := O_distances) F
  have O_least_payment : Own P w K mg base "least_payment" 7 ["instance", "agent", "profile"] (pV (rLP C)) := own_of X G a_least_payment d_least_payment (fun _ _ _ _ _ _ us hl => match us, hl with | [_, _, _], _ => rfl) fun fd F => ok_least_payment T (O_distances := O_distances) F
  have O_are_payments : Own P w K mg base "are_payments" 2 ["instance", "agent", "payments"] (pV (rAY C)) := own_of X G a_are_payments d_are_payments (fun _ _ _ _ _ _ us hl => match us, hl with | [_, _, _], _ => rfl) fun fd F => ok_are_payments T (O_kind_count := O_kind_count) F
  have O_are_truthful : Own P w K mg base "are_truthful" 4 ["instance", "agent", "profile", "payments"] (pV (rAT C)) := own_of X G a_are_truthful d_are_truthful (fun _ _ _ _ _ _ us hl => match us, hl with | [_, _, _, _], _ => rfl) fun fd F => ok_are_truthful T (O_loss := O_loss) F
  have O_answer_allocation : Own P w K mg base "answer_allocation" 3 ["instance", "rows"] (pL (rQA C)) := own_of X G a_answer_allocation d_answer_allocation (fun _ _ _ _ _ _ us hl => match us, hl with | [_, _], _ => rfl) fun fd F => ok_answer_allocation T (O_is_profile := O_is_profile) (O_alternative_at := O_alternative_at) F
  have O_answer_loss : Own P w K mg base "answer_loss" 4 ["instance", "numbers", "rows"] (pL (rQL C)) := own_of X G a_answer_loss d_answer_loss (fun _ _ _ _ _ _ us hl => match us, hl with | [_, _, _], _ => rfl) fun fd F => ok_answer_loss T (O_is_profile := O_is_profile) (O_loss := O_loss) (O_has_agent := O_has_agent) (O_kind_count := O_kind_count) F
  have O_answer_monotonic : Own P w K mg base "answer_monotonic" 7 ["instance", "size"] (pL (rQM C)) := own_of X G a_answer_monotonic d_answer_monotonic (fun _ _ _ _ _ _ us hl => match us, hl with | [_, _], _ => rfl) fun fd F => ok_answer_monotonic T (O_first_negative := O_first_negative) F
  have O_answer_bounds : Own P w K mg base "answer_bounds" 8 ["instance", "numbers", "rows"] (pL (rQB C)) := own_of X G a_answer_bounds d_answer_bounds (fun _ _ _ _ _ _ us hl => match us, hl with | [_, _, _], _ => rfl) fun fd F => ok_answer_bounds T (O_has_agent := O_has_agent) (O_is_profile := O_is_profile) (O_is_possible := O_is_possible) (O_greatest_payment := O_greatest_payment) (O_least_payment := O_least_payment) F
  have O_answer_truthful : Own P w K mg base "answer_truthful" 5 ["instance", "numbers", "rows"] (pL (rQT C)) := own_of X G a_answer_truthful d_answer_truthful (fun _ _ _ _ _ _ us hl => match us, hl with | [_, _, _], _ => rfl) fun fd F => ok_answer_truthful T (O_has_agent := O_has_agent) (O_is_profile := O_is_profile) (O_are_payments := O_are_payments) (O_are_truthful := O_are_truthful) F
  have O_answer_pivots : Own P w K mg base "answer_pivots" 6 ["instance", "rows"] (pL (rQP C)) := own_of X G a_answer_pivots d_answer_pivots (fun _ _ _ _ _ _ us hl => match us, hl with | [_, _], _ => rfl) fun fd F => ok_answer_pivots T (O_is_profile := O_is_profile) (O_agent_count := O_agent_count) (O_pivot_payments := O_pivot_payments) F
  have O_answer_welfare : Own P w K mg base "answer_welfare" 4 ["instance", "rows"] (pL (rQW C)) := own_of X G a_answer_welfare d_answer_welfare (fun _ _ _ _ _ _ us hl => match us, hl with | [_, _], _ => rfl) fun fd F => ok_answer_welfare T (O_is_profile := O_is_profile) (O_alternative_at := O_alternative_at) (O_total_values := O_total_values) F
  have O_answer_describe : Own P w K mg base "answer_describe" 2 ["instance"] (pL (rQD C)) := own_of X G a_answer_describe d_answer_describe (fun _ _ _ _ _ _ us hl => match us, hl with | [_], _ => rfl) fun fd F => ok_answer_describe T (O_agent_count := O_agent_count) F
  have O_answer_all_cycles : Own P w K mg base "answer_all_cycles" 8 ["instance"] (pL (rQ8 C)) := own_of X G a_answer_all_cycles d_answer_all_cycles (fun _ _ _ _ _ _ us hl => match us, hl with | [_], _ => rfl) fun fd F => ok_answer_all_cycles T (O_answer_monotonic := O_answer_monotonic) F
  have O_answer_short_cycles : Own P w K mg base "answer_short_cycles" 8 ["instance"] (pL (rQ9 C)) := own_of X G a_answer_short_cycles d_answer_short_cycles (fun _ _ _ _ _ _ us hl => match us, hl with | [_], _ => rfl) fun fd F => ok_answer_short_cycles T (O_answer_monotonic := O_answer_monotonic) F
  have O_first_answer : Own P w K mg base "first_answer" 6 ["number", "instance", "numbers", "rows"] (spFA C) := own_of X G a_first_answer d_first_answer (fun _ _ _ _ _ _ us hl => match us, hl with | [_, _, _, _], _ => rfl) fun fd F => ok_first_answer T (O_set_allocation := O_set_allocation) (O_answer_allocation := O_answer_allocation) (O_use_welfare_maximizer := O_use_welfare_maximizer) (O_use_affine_maximizer := O_use_affine_maximizer) (O_use_agent_maximizer := O_use_agent_maximizer) (O_answer_loss := O_answer_loss) F
  have O_last_answer : Own P w K mg base "last_answer" 9 ["number", "instance", "numbers", "rows"] (spLA C) := own_of X G a_last_answer d_last_answer (fun _ _ _ _ _ _ us hl => match us, hl with | [_, _, _, _], _ => rfl) fun fd F => ok_last_answer T (O_answer_all_cycles := O_answer_all_cycles) (O_answer_short_cycles := O_answer_short_cycles) (O_answer_bounds := O_answer_bounds) (O_answer_truthful := O_answer_truthful) (O_answer_pivots := O_answer_pivots) (O_answer_welfare := O_answer_welfare) F
  have G_Desk_create : FnOk P w K mg base CX0 3 f_Desk_create fd_Desk_create ["self", "agents", "alternatives"] (spDC C D) := ok_Desk_create T (M := M_C) (GI := GI_C) (bI := B_Instance_init) F_Desk_create
  have M_Desk_create : Meth K D "create" f_Desk_create := ⟨a_Desk_create, i_Desk_create, F_Desk_create.kp⟩
  have G_Desk_answer : FnOk P w K mg base CX0 10 f_Desk_answer fd_Desk_answer ["self", "number", "numbers", "rows"] (spDA C D) := ok_Desk_answer T (m_create := M_Desk_create) (G_create := G_Desk_create) (b_create := B_Desk_create) (O_add_kind := O_add_kind) (O_answer_describe := O_answer_describe) (O_is_ready := O_is_ready) (O_first_answer := O_first_answer) (O_last_answer := O_last_answer) F_Desk_answer
  have M_Desk_answer : Meth K D "answer" f_Desk_answer := ⟨a_Desk_answer, i_Desk_answer, F_Desk_answer.kp⟩
  have O_lists_place : Own P w K mg base "lists_place" 1 ["calls", "place"] (pV (rLP1 K)) := own_of X G a_lists_place d_lists_place (fun _ _ _ _ _ _ us hl => match us, hl with | [_, _], _ => rfl) fun fd F => ok_lists_place T  F
  have O_numbers_of : Own P w K mg base "numbers_of" 2 ["calls", "place"] (pL (rNOf K)) := own_of X G a_numbers_of d_numbers_of (fun _ _ _ _ _ _ us hl => match us, hl with | [_, _], _ => rfl) fun fd F => ok_numbers_of T (O_lists_place := O_lists_place) F
  have O_lists_of : Own P w K mg base "lists_of" 2 ["calls", "place"] (pLL (rLOf K)) := own_of X G a_lists_of d_lists_of (fun _ _ _ _ _ _ us hl => match us, hl with | [_, _], _ => rfl) fun fd F => ok_lists_of T (O_lists_place := O_lists_place) F
  have O_end_of : Own P w K mg base "end_of" 2 ["calls", "place"] (pV (rEO K)) := own_of X G a_end_of d_end_of (fun _ _ _ _ _ _ us hl => match us, hl with | [_, _], _ => rfl) fun fd F => ok_end_of T (O_lists_place := O_lists_place) F
  exact ok_answers T (M := M_D) (GI := GI_D) (bI := B_Desk_init) (m_answer := M_Desk_answer) (G_answer := G_Desk_answer) (b_answer := B_Desk_answer) (O_numbers_of := O_numbers_of) (O_lists_of := O_lists_of) (O_end_of := O_end_of) F_answers
end Tp
open PySem PySem.W PyProof.Rows
set_option maxRecDepth 100000 in
set_option maxHeartbeats 0 in
theorem PySem.Challenge.cw_truthfulpay_s01_answers_holds : PySem.Challenge.rw_truthfulpay_s01_answers.Holds := by
  w_on; k_headS; (case hw => exact ⟨[.list [.int 4]], by decide +kernel, by decide +kernel⟩)
  k_fillS
  refine L2.walk_specK (r := PySem.Challenge.rw_truthfulpay_s01_answers) (k := 11) (CX := L2.CX0) (ps := ["calls"]) (sp := Tp.spAns) (by decide +kernel) rfl rfl ⟨rfl, by decide, by decide⟩ (fun w h Y => PySem.W.kIn_of Y) ?F ?S (fun _ _ _ _ z => z)
  case F =>
    intro w mg fa h Y KX G hmg
    refine' Tp.all_mk KX G hmg ?aC ?pgC ?hdC ?poC ?saC ?mkC ?kcC ?aD ?pgD ?hdD ?poD ?saD ?mkD ?kcD ?nA ?nK ?nL ?nI ?z_len ?z_range ?z_zip ?z_reversed ?z_enumerate ?z_max ?z_min ?z_all ?z_list ?z_int ?c_MAX_AGENTS ?c_LEAST_ALTERNATIVES ?c_MAX_ALTERNATIVES ?c_MAX_TYPES ?c_MAX_VALUE ?c_NO_SUCH ?c_BAD_ARGUMENT ?c_FULL ?c_MAX_WEIGHT ?c_MAX_PAYMENT ?c_IMPOSSIBLE ?c_NO_INSTANCE ?c_NOT_READY ?c_CREATE ?c_ADD_KIND ?c_DESCRIBE ?a_SIZES ?l_SIZES ?v_SIZES ?s_SIZES ?a_LISTS ?l_LISTS ?v_LISTS ?s_LISTS ?a_agent_count (Tp.DefAt.mk ?ld_agent_count ?cd_agent_count ?kd_agent_count) ?a_has_agent (Tp.DefAt.mk ?ld_has_agent ?cd_has_agent ?kd_has_agent) ?a_kind_count (Tp.DefAt.mk ?ld_kind_count ?cd_kind_count ?kd_kind_count) ?a_is_ready (Tp.DefAt.mk ?ld_is_ready ?cd_is_ready ?kd_is_ready) ?a_value_of (Tp.DefAt.mk ?ld_value_of ?cd_value_of ?kd_value_of) ?a_profile_count (Tp.DefAt.mk ?ld_profile_count ?cd_profile_count ?kd_profile_count) ?a_is_profile (Tp.DefAt.mk ?ld_is_profile ?cd_is_profile ?kd_is_profile) ?a_number_of (Tp.DefAt.mk ?ld_number_of ?cd_number_of ?kd_number_of) ?a_profile_at (Tp.DefAt.mk ?ld_profile_at ?cd_profile_at ?kd_profile_at) ?a_all_profiles (Tp.DefAt.mk ?ld_all_profiles ?cd_all_profiles ?kd_all_profiles) ?a_with_report (Tp.DefAt.mk ?ld_with_report ?cd_with_report ?kd_with_report) ?a_alternative_at (Tp.DefAt.mk ?ld_alternative_at ?cd_alternative_at ?kd_alternative_at) ?a_are_values (Tp.DefAt.mk ?ld_are_values ?cd_are_values ?kd_are_values) ?a_first_greatest (Tp.DefAt.mk ?ld_first_greatest ?cd_first_greatest ?kd_first_greatest) ?a_total_value (Tp.DefAt.mk ?ld_total_value ?cd_total_value ?kd_total_value) ?a_others_value (Tp.DefAt.mk ?ld_others_value ?cd_others_value ?kd_others_value) ?a_total_values (Tp.DefAt.mk ?ld_total_values ?cd_total_values ?kd_total_values) ?a_weighted_value (Tp.DefAt.mk ?ld_weighted_value ?cd_weighted_value ?kd_weighted_value) ?a_affine_scores (Tp.DefAt.mk ?ld_affine_scores ?cd_affine_scores ?kd_affine_scores) ?a_welfare_allocation (Tp.DefAt.mk ?ld_welfare_allocation ?cd_welfare_allocation ?kd_welfare_allocation) ?a_affine_allocation (Tp.DefAt.mk ?ld_affine_allocation ?cd_affine_allocation ?kd_affine_allocation) ?a_agent_allocation (Tp.DefAt.mk ?ld_agent_allocation ?cd_agent_allocation ?kd_agent_allocation) ?a_pivot_payment (Tp.DefAt.mk ?ld_pivot_payment ?cd_pivot_payment ?kd_pivot_payment) ?a_pivot_payments (Tp.DefAt.mk ?ld_pivot_payments ?cd_pivot_payments ?kd_pivot_payments) ?a_add_kind (Tp.DefAt.mk ?ld_add_kind ?cd_add_kind ?kd_add_kind) ?a_set_allocation (Tp.DefAt.mk ?ld_set_allocation ?cd_set_allocation ?kd_set_allocation) ?a_use_welfare_maximizer (Tp.DefAt.mk ?ld_use_welfare_maximizer ?cd_use_welfare_maximizer ?kd_use_welfare_maximizer) ?a_use_affine_maximizer (Tp.DefAt.mk ?ld_use_affine_maximizer ?cd_use_affine_maximizer ?kd_use_affine_maximizer) ?a_use_agent_maximizer (Tp.DefAt.mk ?ld_use_agent_maximizer ?cd_use_agent_maximizer ?kd_use_agent_maximizer) ?a_loss (Tp.DefAt.mk ?ld_loss ?cd_loss ?kd_loss) ?a_longer_cycles (Tp.DefAt.mk ?ld_longer_cycles ?cd_longer_cycles ?kd_longer_cycles) ?a_cycles_of_size (Tp.DefAt.mk ?ld_cycles_of_size ?cd_cycles_of_size ?kd_cycles_of_size) ?a_cycles_up_to (Tp.DefAt.mk ?ld_cycles_up_to ?cd_cycles_up_to ?kd_cycles_up_to) ?a_cycle_length (Tp.DefAt.mk ?ld_cycle_length ?cd_cycle_length ?kd_cycle_length) ?a_negative_cycle (Tp.DefAt.mk ?ld_negative_cycle ?cd_negative_cycle ?kd_negative_cycle) ?a_base_profiles (Tp.DefAt.mk ?ld_base_profiles ?cd_base_profiles ?kd_base_profiles) ?a_first_negative (Tp.DefAt.mk ?ld_first_negative ?cd_first_negative ?kd_first_negative) ?a_is_possible (Tp.DefAt.mk ?ld_is_possible ?cd_is_possible ?kd_is_possible) ?a_edge (Tp.DefAt.mk ?ld_edge ?cd_edge ?kd_edge) ?a_nearer (Tp.DefAt.mk ?ld_nearer ?cd_nearer ?kd_nearer) ?a_distances (Tp.DefAt.mk ?ld_distances ?cd_distances ?kd_distances) ?a_greatest_payment (Tp.DefAt.mk ?ld_greatest_payment ?cd_greatest_payment ?kd_greatest_payment) ?a_least_payment (Tp.DefAt.mk ?ld_least_payment ?cd_least_payment ?kd_least_payment) ?a_are_payments (Tp.DefAt.mk ?ld_are_payments ?cd_are_payments ?kd_are_payments) ?a_are_truthful (Tp.DefAt.mk ?ld_are_truthful ?cd_are_truthful ?kd_are_truthful) ?a_answer_allocation (Tp.DefAt.mk ?ld_answer_allocation ?cd_answer_allocation ?kd_answer_allocation) ?a_answer_loss (Tp.DefAt.mk ?ld_answer_loss ?cd_answer_loss ?kd_answer_loss) ?a_answer_monotonic (Tp.DefAt.mk ?ld_answer_monotonic ?cd_answer_monotonic ?kd_answer_monotonic) ?a_answer_bounds (Tp.DefAt.mk ?ld_answer_bounds ?cd_answer_bounds ?kd_answer_bounds) ?a_answer_truthful (Tp.DefAt.mk ?ld_answer_truthful ?cd_answer_truthful ?kd_answer_truthful) ?a_answer_pivots (Tp.DefAt.mk ?ld_answer_pivots ?cd_answer_pivots ?kd_answer_pivots) ?a_answer_welfare (Tp.DefAt.mk ?ld_answer_welfare ?cd_answer_welfare ?kd_answer_welfare) ?a_answer_describe (Tp.DefAt.mk ?ld_answer_describe ?cd_answer_describe ?kd_answer_describe) ?a_answer_all_cycles (Tp.DefAt.mk ?ld_answer_all_cycles ?cd_answer_all_cycles ?kd_answer_all_cycles) ?a_answer_short_cycles (Tp.DefAt.mk ?ld_answer_short_cycles ?cd_answer_short_cycles ?kd_answer_short_cycles) ?a_first_answer (Tp.DefAt.mk ?ld_first_answer ?cd_first_answer ?kd_first_answer) ?a_last_answer (Tp.DefAt.mk ?ld_last_answer ?cd_last_answer ?kd_last_answer) ?a_lists_place (Tp.DefAt.mk ?ld_lists_place ?cd_lists_place ?kd_lists_place) ?a_numbers_of (Tp.DefAt.mk ?ld_numbers_of ?cd_numbers_of ?kd_numbers_of) ?a_lists_of (Tp.DefAt.mk ?ld_lists_of ?cd_lists_of ?kd_lists_of) ?a_end_of (Tp.DefAt.mk ?ld_end_of ?cd_end_of ?kd_end_of) ?a_answers (Tp.DefAt.mk ?ld_answers ?cd_answers ?kd_answers) ?a_Instance_init ?i_Instance_init (Tp.DefAt.mk ?ld_Instance_init ?cd_Instance_init ?kd_Instance_init) ?a_Desk_init ?i_Desk_init (Tp.DefAt.mk ?ld_Desk_init ?cd_Desk_init ?kd_Desk_init) ?a_Desk_create ?i_Desk_create (Tp.DefAt.mk ?ld_Desk_create ?cd_Desk_create ?kd_Desk_create) ?a_Desk_answer ?i_Desk_answer (Tp.DefAt.mk ?ld_Desk_answer ?cd_Desk_answer ?kd_Desk_answer)
    (case aC => k_is)
    (case pgC => k_is)
    (case hdC => k_is)
    (case poC => k_is)
    (case saC => k_is)
    (case mkC => k_is)
    (case kcC => k_is)
    (case aD => k_is)
    (case pgD => k_is)
    (case hdD => k_is)
    (case poD => k_is)
    (case saD => k_is)
    (case mkD => k_is)
    (case kcD => k_is)
    (case nA => k_is)
    (case nK => k_is)
    (case nL => k_is)
    (case nI => k_is)
    (case z_len => k_is)
    (case z_range => k_is)
    (case z_zip => k_is)
    (case z_reversed => k_is)
    (case z_enumerate => k_is)
    (case z_max => k_is)
    (case z_min => k_is)
    (case z_all => k_is)
    (case z_list => k_is)
    (case z_int => k_is)
    (case c_MAX_AGENTS => k_is)
    (case c_LEAST_ALTERNATIVES => k_is)
    (case c_MAX_ALTERNATIVES => k_is)
    (case c_MAX_TYPES => k_is)
    (case c_MAX_VALUE => k_is)
    (case c_NO_SUCH => k_is)
    (case c_BAD_ARGUMENT => k_is)
    (case c_FULL => k_is)
    (case c_MAX_WEIGHT => k_is)
    (case c_MAX_PAYMENT => k_is)
    (case c_IMPOSSIBLE => k_is)
    (case c_NO_INSTANCE => k_is)
    (case c_NOT_READY => k_is)
    (case c_CREATE => k_is)
    (case c_ADD_KIND => k_is)
    (case c_DESCRIBE => k_is)
    (case a_SIZES => k_is)
    (case l_SIZES => k_is)
    (case v_SIZES => exact .cons ⟨_, rfl⟩ (.cons ⟨_, rfl⟩ (.cons ⟨_, rfl⟩ (.cons ⟨_, rfl⟩ (.cons ⟨_, rfl⟩ (.cons ⟨_, rfl⟩ (.cons ⟨_, rfl⟩ (.cons ⟨_, rfl⟩ (.cons ⟨_, rfl⟩ (.cons ⟨_, rfl⟩ (.cons ⟨_, rfl⟩ (.cons ⟨_, rfl⟩ (.cons ⟨_, rfl⟩ (.cons ⟨_, rfl⟩ (.cons ⟨_, rfl⟩ (.nil))))))))))))))))
    (case s_SIZES => decide)
    (case a_LISTS => k_is)
    (case l_LISTS => k_is)
    (case v_LISTS => exact .cons ⟨_, rfl⟩ (.cons ⟨_, rfl⟩ (.cons ⟨_, rfl⟩ (.cons ⟨_, rfl⟩ (.cons ⟨_, rfl⟩ (.cons ⟨_, rfl⟩ (.cons ⟨_, rfl⟩ (.cons ⟨_, rfl⟩ (.cons ⟨_, rfl⟩ (.cons ⟨_, rfl⟩ (.cons ⟨_, rfl⟩ (.cons ⟨_, rfl⟩ (.cons ⟨_, rfl⟩ (.cons ⟨_, rfl⟩ (.cons ⟨_, rfl⟩ (.nil))))))))))))))))
    (case s_LISTS => decide)
    (case a_agent_count => k_is)
    (case ld_agent_count => k_is)
    (case cd_agent_count => k_is)
    (case kd_agent_count => k_is)
    (case a_has_agent => k_is)
    (case ld_has_agent => k_is)
    (case cd_has_agent => k_is)
    (case kd_has_agent => k_is)
    (case a_kind_count => k_is)
    (case ld_kind_count => k_is)
    (case cd_kind_count => k_is)
    (case kd_kind_count => k_is)
    (case a_is_ready => k_is)
    (case ld_is_ready => k_is)
    (case cd_is_ready => k_is)
    (case kd_is_ready => k_is)
    (case a_value_of => k_is)
    (case ld_value_of => k_is)
    (case cd_value_of => k_is)
    (case kd_value_of => k_is)
    (case a_profile_count => k_is)
    (case ld_profile_count => k_is)
    (case cd_profile_count => k_is)
    (case kd_profile_count => k_is)
    (case a_is_profile => k_is)
    (case ld_is_profile => k_is)
    (case cd_is_profile => k_is)
    (case kd_is_profile => k_is)
    (case a_number_of => k_is)
    (case ld_number_of => k_is)
    (case cd_number_of => k_is)
    (case kd_number_of => k_is)
    (case a_profile_at => k_is)
    (case ld_profile_at => k_is)
    (case cd_profile_at => k_is)
    (case kd_profile_at => k_is)
    (case a_all_profiles => k_is)
    (case ld_all_profiles => k_is)
    (case cd_all_profiles => k_is)
    (case kd_all_profiles => k_is)
    (case a_with_report => k_is)
    (case ld_with_report => k_is)
    (case cd_with_report => k_is)
    (case kd_with_report => k_is)
    (case a_alternative_at => k_is)
    (case ld_alternative_at => k_is)
    (case cd_alternative_at => k_is)
    (case kd_alternative_at => k_is)
    (case a_are_values => k_is)
    (case ld_are_values => k_is)
    (case cd_are_values => k_is)
    (case kd_are_values => k_is)
    (case a_first_greatest => k_is)
    (case ld_first_greatest => k_is)
    (case cd_first_greatest => k_is)
    (case kd_first_greatest => k_is)
    (case a_total_value => k_is)
    (case ld_total_value => k_is)
    (case cd_total_value => k_is)
    (case kd_total_value => k_is)
    (case a_others_value => k_is)
    (case ld_others_value => k_is)
    (case cd_others_value => k_is)
    (case kd_others_value => k_is)
    (case a_total_values => k_is)
    (case ld_total_values => k_is)
    (case cd_total_values => k_is)
    (case kd_total_values => k_is)
    (case a_weighted_value => k_is)
    (case ld_weighted_value => k_is)
    (case cd_weighted_value => k_is)
    (case kd_weighted_value => k_is)
    (case a_affine_scores => k_is)
    (case ld_affine_scores => k_is)
    (case cd_affine_scores => k_is)
    (case kd_affine_scores => k_is)
    (case a_welfare_allocation => k_is)
    (case ld_welfare_allocation => k_is)
    (case cd_welfare_allocation => k_is)
    (case kd_welfare_allocation => k_is)
    (case a_affine_allocation => k_is)
    (case ld_affine_allocation => k_is)
    (case cd_affine_allocation => k_is)
    (case kd_affine_allocation => k_is)
    (case a_agent_allocation => k_is)
    (case ld_agent_allocation => k_is)
    (case cd_agent_allocation => k_is)
    (case kd_agent_allocation => k_is)
    (case a_pivot_payment => k_is)
    (case ld_pivot_payment => k_is)
    (case cd_pivot_payment => k_is)
    (case kd_pivot_payment => k_is)
    (case a_pivot_payments => k_is)
    (case ld_pivot_payments => k_is)
    (case cd_pivot_payments => k_is)
    (case kd_pivot_payments => k_is)
    (case a_add_kind => k_is)
    (case ld_add_kind => k_is)
    (case cd_add_kind => k_is)
    (case kd_add_kind => k_is)
    (case a_set_allocation => k_is)
    (case ld_set_allocation => k_is)
    (case cd_set_allocation => k_is)
    (case kd_set_allocation => k_is)
    (case a_use_welfare_maximizer => k_is)
    (case ld_use_welfare_maximizer => k_is)
    (case cd_use_welfare_maximizer => k_is)
    (case kd_use_welfare_maximizer => k_is)
    (case a_use_affine_maximizer => k_is)
    (case ld_use_affine_maximizer => k_is)
    (case cd_use_affine_maximizer => k_is)
    (case kd_use_affine_maximizer => k_is)
    (case a_use_agent_maximizer => k_is)
    (case ld_use_agent_maximizer => k_is)
    (case cd_use_agent_maximizer => k_is)
    (case kd_use_agent_maximizer => k_is)
    (case a_loss => k_is)
    (case ld_loss => k_is)
    (case cd_loss => k_is)
    (case kd_loss => k_is)
    (case a_longer_cycles => k_is)
    (case ld_longer_cycles => k_is)
    (case cd_longer_cycles => k_is)
    (case kd_longer_cycles => k_is)
    (case a_cycles_of_size => k_is)
    (case ld_cycles_of_size => k_is)
    (case cd_cycles_of_size => k_is)
    (case kd_cycles_of_size => k_is)
    (case a_cycles_up_to => k_is)
    (case ld_cycles_up_to => k_is)
    (case cd_cycles_up_to => k_is)
    (case kd_cycles_up_to => k_is)
    (case a_cycle_length => k_is)
    (case ld_cycle_length => k_is)
    (case cd_cycle_length => k_is)
    (case kd_cycle_length => k_is)
    (case a_negative_cycle => k_is)
    (case ld_negative_cycle => k_is)
    (case cd_negative_cycle => k_is)
    (case kd_negative_cycle => k_is)
    (case a_base_profiles => k_is)
    (case ld_base_profiles => k_is)
    (case cd_base_profiles => k_is)
    (case kd_base_profiles => k_is)
    (case a_first_negative => k_is)
    (case ld_first_negative => k_is)
    (case cd_first_negative => k_is)
    (case kd_first_negative => k_is)
    (case a_is_possible => k_is)
    (case ld_is_possible => k_is)
    (case cd_is_possible => k_is)
    (case kd_is_possible => k_is)
    (case a_edge => k_is)
    (case ld_edge => k_is)
    (case cd_edge => k_is)
    (case kd_edge => k_is)
    (case a_nearer => k_is)
    (case ld_nearer => k_is)
    (case cd_nearer => k_is)
    (case kd_nearer => k_is)
    (case a_distances => k_is)
    (case ld_distances => k_is)
    (case cd_distances => k_is)
    (case kd_distances => k_is)
    (case a_greatest_payment => k_is)
    (case ld_greatest_payment => k_is)
    (case cd_greatest_payment => k_is)
    (case kd_greatest_payment => k_is)
    (case a_least_payment => k_is)
    (case ld_least_payment => k_is)
    (case cd_least_payment => k_is)
    (case kd_least_payment => k_is)
    (case a_are_payments => k_is)
    (case ld_are_payments => k_is)
    (case cd_are_payments => k_is)
    (case kd_are_payments => k_is)
    (case a_are_truthful => k_is)
    (case ld_are_truthful => k_is)
    (case cd_are_truthful => k_is)
    (case kd_are_truthful => k_is)
    (case a_answer_allocation => k_is)
    (case ld_answer_allocation => k_is)
    (case cd_answer_allocation => k_is)
    (case kd_answer_allocation => k_is)
    (case a_answer_loss => k_is)
    (case ld_answer_loss => k_is)
    (case cd_answer_loss => k_is)
    (case kd_answer_loss => k_is)
    (case a_answer_monotonic => k_is)
    (case ld_answer_monotonic => k_is)
    (case cd_answer_monotonic => k_is)
    (case kd_answer_monotonic => k_is)
    (case a_answer_bounds => k_is)
    (case ld_answer_bounds => k_is)
    (case cd_answer_bounds => k_is)
    (case kd_answer_bounds => k_is)
    (case a_answer_truthful => k_is)
    (case ld_answer_truthful => k_is)
    (case cd_answer_truthful => k_is)
    (case kd_answer_truthful => k_is)
    (case a_answer_pivots => k_is)
    (case ld_answer_pivots => k_is)
    (case cd_answer_pivots => k_is)
    (case kd_answer_pivots => k_is)
    (case a_answer_welfare => k_is)
    (case ld_answer_welfare => k_is)
    (case cd_answer_welfare => k_is)
    (case kd_answer_welfare => k_is)
    (case a_answer_describe => k_is)
    (case ld_answer_describe => k_is)
    (case cd_answer_describe => k_is)
    (case kd_answer_describe => k_is)
    (case a_answer_all_cycles => k_is)
    (case ld_answer_all_cycles => k_is)
    (case cd_answer_all_cycles => k_is)
    (case kd_answer_all_cycles => k_is)
    (case a_answer_short_cycles => k_is)
    (case ld_answer_short_cycles => k_is)
    (case cd_answer_short_cycles => k_is)
    (case kd_answer_short_cycles => k_is)
    (case a_first_answer => k_is)
    (case ld_first_answer => k_is)
    (case cd_first_answer => k_is)
    (case kd_first_answer => k_is)
    (case a_last_answer => k_is)
    (case ld_last_answer => k_is)
    (case cd_last_answer => k_is)
    (case kd_last_answer => k_is)
    (case a_lists_place => k_is)
    (case ld_lists_place => k_is)
    (case cd_lists_place => k_is)
    (case kd_lists_place => k_is)
    (case a_numbers_of => k_is)
    (case ld_numbers_of => k_is)
    (case cd_numbers_of => k_is)
    (case kd_numbers_of => k_is)
    (case a_lists_of => k_is)
    (case ld_lists_of => k_is)
    (case cd_lists_of => k_is)
    (case kd_lists_of => k_is)
    (case a_end_of => k_is)
    (case ld_end_of => k_is)
    (case cd_end_of => k_is)
    (case kd_end_of => k_is)
    (case a_answers => k_is)
    (case ld_answers => k_is)
    (case cd_answers => k_is)
    (case kd_answers => k_is)
    (case a_Instance_init => k_is)
    (case i_Instance_init => k_is)
    (case ld_Instance_init => k_is)
    (case cd_Instance_init => k_is)
    (case kd_Instance_init => k_is)
    (case a_Desk_init => k_is)
    (case i_Desk_init => k_is)
    (case ld_Desk_init => k_is)
    (case cd_Desk_init => k_is)
    (case kd_Desk_init => k_is)
    (case a_Desk_create => k_is)
    (case i_Desk_create => k_is)
    (case ld_Desk_create => k_is)
    (case cd_Desk_create => k_is)
    (case kd_Desk_create => k_is)
    (case a_Desk_answer => k_is)
    (case i_Desk_answer => k_is)
    (case ld_Desk_answer => k_is)
    (case cd_Desk_answer => k_is)
    (case kd_Desk_answer => k_is)
  case S =>
    intro K H xs a hO hwi hask hx
    cases hx with
    | cons h1 h2 =>
      cases h2
      cases h1 with
      | lst hs ha =>
        have e := L2.ints_dw a.1 _ ha
        subst e
        exact ⟨_, a.1, rfl, hs, hask, fun H' p hp => .lst (L2.SqL.of hp) (L2.dw_ints _)⟩
#print axioms PySem.Challenge.cw_truthfulpay_s01_answers_holds
