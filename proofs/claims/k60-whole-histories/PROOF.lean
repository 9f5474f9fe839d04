import PyProof.Rows.All
import Wide.All
import OpenK.AllK
import Wide.FinOn
import HandS.ForMost
import HandS.ForExc
import HandS.IsInst
import HandS.DictComp
import HandS.More
import HandS.Style
import HandS.Walk
import HandS.Evl
import HandS.Wide
import HandS.ExcInit
import HandS.Flow
import PySem.Challenge.RW_gotfrom_k60_whole_histories_rebuilt
import HandS.FStr
import HandS.FStrTup
import HandS.CallSlots
import HandS.ClsMeth
import HandS.ExcField
import HandS.ExcOwn
import HandS.WordsExc
import HandS.DeepEq
import HandS.DictEq
import PyProof.DictFindH
import KE.KDictZip
import KE.KTurns
import KE.SortData
import HandS.DictTup
import HandS.MapObj
import HandS.WordsDict
set_option Elab.async false
set_option linter.all false
set_option maxRecDepth 100000
namespace GM
variable {α : Type} [DecidableEq α]

/-! ### the lists of a history -/
/-- who gave to x, in order -/
def lof : List α → α → List α
  | g :: r :: t, x => if x = r then g :: lof (r :: t) x else lof (r :: t) x
  | _, _ => []

theorem lof_nil (x : α) : lof ([] : List α) x = [] := rfl
theorem lof_one (a x : α) : lof [a] x = [] := rfl
theorem lof_cons (g r : α) (t : List α) (x : α) : lof (g :: r :: t) x = if x = r then g :: lof (r :: t) x else lof (r :: t) x := rfl

theorem lof_snoc : ∀ (p : List α) (g h x : α), lof (p ++ [g, h]) x = if x = h then lof (p ++ [g]) x ++ [g] else lof (p ++ [g]) x
  | [], g, h, x => by
    show lof [g, h] x = _
    rw [lof_cons]
    simp [lof_one]
  | [a], g, h, x => by
    show lof [a, g, h] x = if x = h then lof [a, g] x ++ [g] else lof [a, g] x
    rw [lof_cons, lof_cons, lof_cons, lof_one, lof_one]
    by_cases h1 : x = g
    · by_cases h2 : x = h
      · rw [if_pos h1, if_pos h2, if_pos h2, if_pos h1]; rfl
      · rw [if_pos h1, if_neg h2, if_neg h2, if_pos h1]
    · by_cases h2 : x = h
      · rw [if_neg h1, if_pos h2, if_pos h2, if_neg h1]; rfl
      · rw [if_neg h1, if_neg h2, if_neg h2, if_neg h1]
  | a :: b :: p, g, h, x => by
    have ih := lof_snoc (b :: p) g h x
    show lof (a :: b :: (p ++ [g, h])) x = if x = h then lof (a :: b :: (p ++ [g])) x ++ [g] else lof (a :: b :: (p ++ [g])) x
    rw [lof_cons, lof_cons]
    have ih' : lof (b :: (p ++ [g, h])) x = if x = h then lof (b :: (p ++ [g])) x ++ [g] else lof (b :: (p ++ [g])) x := ih
    rw [ih']
    by_cases h1 : x = b
    · by_cases h2 : x = h
      · rw [if_pos h1, if_pos h2, if_pos h2, if_pos h1]; rfl
      · rw [if_pos h1, if_neg h2, if_neg h2, if_pos h1]
    · by_cases h2 : x = h
      · rw [if_neg h1, if_pos h2, if_pos h2, if_neg h1]
      · rw [if_neg h1, if_neg h2, if_neg h2, if_neg h1]

/-- the first i + 1 holders and the next -/
theorem lof_take (l : List α) (i : Nat) (x g h : α) (hg : l[i]? = some g) (hh : l[i + 1]? = some h) :
    lof (l.take (i + 2)) x = if x = h then lof (l.take (i + 1)) x ++ [g] else lof (l.take (i + 1)) x := by
  have e1 : l.take (i + 1) = l.take i ++ [g] := by
    rw [List.take_add_one, hg]; rfl
  have e2 : l.take (i + 2) = l.take i ++ [g, h] := by
    rw [List.take_add_one, hh, e1, List.append_assoc]; rfl
  rw [e1, e2]
  exact lof_snoc _ _ _ _

theorem lof_pre : ∀ (a b : List α) (x : α), ∃ r, lof (a ++ b) x = lof a x ++ r
  | [], b, x => ⟨lof b x, by simp [lof_nil]⟩
  | [a], b, x => ⟨lof (a :: b) x, by simp [lof_one]⟩
  | a :: c :: t, b, x => by
    obtain ⟨r, e⟩ := lof_pre (c :: t) b x
    have e : lof (c :: (t ++ b)) x = lof (c :: t) x ++ r := e
    refine ⟨r, ?_⟩
    show lof (a :: c :: (t ++ b)) x = lof (a :: c :: t) x ++ r
    rw [lof_cons, lof_cons, e]
    by_cases h1 : x = c <;> simp [h1]

theorem lof_mem : ∀ {l : List α} {x g : α}, g ∈ lof l x → g ∈ l
  | [], _, _, h => by simp [lof_nil] at h
  | [a], _, _, h => by simp [lof_one] at h
  | a :: b :: t, x, g, h => by
    rw [lof_cons] at h
    by_cases h1 : x = b
    · rw [if_pos h1] at h
      rcases List.mem_cons.mp h with e | e
      · rw [e]; exact List.mem_cons_self ..
      · exact List.mem_cons_of_mem _ (lof_mem e)
    · rw [if_neg h1] at h
      exact List.mem_cons_of_mem _ (lof_mem h)

/-- no two neighbours alike -/
def Alt : List α → Prop
  | a :: b :: t => a ≠ b ∧ Alt (b :: t)
  | _ => True

theorem Alt.snoc : ∀ {p : List α} {g h : α}, Alt (p ++ [g]) → g ≠ h → Alt (p ++ [g, h])
  | [], g, h, _, n => ⟨n, trivial⟩
  | [a], g, h, q, n => ⟨q.1, n, trivial⟩
  | a :: b :: p, g, h, q, n => ⟨q.1, Alt.snoc (p := b :: p) q.2 n⟩

theorem Alt.at : ∀ {l : List α} {i : Nat} {g h : α}, Alt l → l[i]? = some g → l[i + 1]? = some h → g ≠ h
  | [], i, g, h, _, a, _ => by simp at a
  | [x], i, g, h, _, a, b => by simp at b
  | x :: y :: t, 0, g, h, q, a, b => by
    simp at a b
    rw [← a, ← b]; exact q.1
  | x :: y :: t, i + 1, g, h, q, a, b => Alt.at (l := y :: t) (i := i) q.2 (by simpa using a) (by simpa using b)

theorem lof_ne : ∀ {l : List α} {x g : α}, Alt l → g ∈ lof l x → g ≠ x
  | [], _, _, _, h => by simp [lof_nil] at h
  | [a], _, _, _, h => by simp [lof_one] at h
  | a :: b :: t, x, g, q, h => by
    rw [lof_cons] at h
    by_cases h1 : x = b
    · rw [if_pos h1] at h
      rcases List.mem_cons.mp h with e | e
      · rw [e, h1]; exact q.1
      · exact lof_ne q.2 e
    · rw [if_neg h1] at h
      exact lof_ne q.2 h

theorem lof_len_le : ∀ (l : List α) (x : α), (lof l x).length ≤ l.length
  | [], _ => by simp [lof_nil]
  | [a], _ => by simp [lof_one]
  | a :: b :: t, x => by
    have ih := lof_len_le (b :: t) x
    rw [lof_cons]
    by_cases h1 : x = b
    · rw [if_pos h1]; simp at ih ⊢; omega
    · rw [if_neg h1]; simp at ih ⊢; omega

/-! ### surpluses -/
def nsum (f : α → Nat) : List α → Nat
  | [] => 0
  | x :: t => f x + nsum f t
theorem nsum_nil (f : α → Nat) : nsum f [] = 0 := rfl
theorem nsum_cons (f : α → Nat) (x : α) (t : List α) : nsum f (x :: t) = f x + nsum f t := rfl
theorem nsum_snoc (f : α → Nat) : ∀ (l : List α) (x : α), nsum f (l ++ [x]) = nsum f l + f x
  | [], x => by simp [nsum]
  | a :: t, x => by
    show f a + nsum f (t ++ [x]) = f a + nsum f t + f x
    rw [nsum_snoc f t x]; omega
theorem nsum_congr {f g : α → Nat} : ∀ {l : List α}, (∀ x ∈ l, f x = g x) → nsum f l = nsum g l
  | [], _ => rfl
  | a :: t, h => by
    rw [nsum_cons, nsum_cons, h a (List.mem_cons_self ..), nsum_congr fun x hx => h x (List.mem_cons_of_mem _ hx)]
theorem nsum_add (f g : α → Nat) : ∀ l : List α, nsum (fun x => f x + g x) l = nsum f l + nsum g l
  | [] => rfl
  | a :: t => by
    rw [nsum_cons, nsum_cons, nsum_cons, nsum_add f g t]; omega
theorem nsum_zero : ∀ l : List α, nsum (fun _ => 0) l = 0
  | [] => rfl
  | a :: t => by rw [nsum_cons, nsum_zero t]
theorem nsum_one {a : α} : ∀ {l : List α}, l.Nodup → nsum (fun x => if x = a then 1 else 0) l = if a ∈ l then 1 else 0
  | [], _ => by simp [nsum_nil]
  | b :: t, h => by
    obtain ⟨h1, h2⟩ := List.nodup_cons.mp h
    rw [nsum_cons, nsum_one h2]
    by_cases e : b = a
    · subst e
      rw [if_pos rfl, if_neg h1, if_pos (List.mem_cons_self ..)]
    · rw [if_neg e]
      have : (a ∈ b :: t) = (a ∈ t) := by
        apply propext
        constructor
        · intro m
          rcases List.mem_cons.mp m with q | q
          · exact absurd q.symm e
          · exact q
        · exact fun m => List.mem_cons_of_mem _ m
      simp [this]
theorem nsum_mem_le {f : α → Nat} : ∀ {l : List α} {x : α}, x ∈ l → f x ≤ nsum f l
  | [], _, h => by simp at h
  | a :: t, x, h => by
    rw [nsum_cons]
    rcases List.mem_cons.mp h with e | e
    · rw [e]; omega
    · have := nsum_mem_le (f := f) e; omega
theorem nsum_pos {f : α → Nat} : ∀ {l : List α}, 0 < nsum f l → ∃ x ∈ l, 0 < f x
  | [], h => by simp [nsum_nil] at h
  | a :: t, h => by
    rw [nsum_cons] at h
    by_cases e : 0 < f a
    · exact ⟨a, List.mem_cons_self .., e⟩
    · obtain ⟨x, hx, q⟩ := nsum_pos (f := f) (l := t) (by omega)
      exact ⟨x, List.mem_cons_of_mem _ hx, q⟩
/-- one summand falls by one -/
theorem nsum_fall {f g : α → Nat} {a : α} : ∀ {l : List α}, l.Nodup → a ∈ l → (∀ x ∈ l, x ≠ a → g x = f x) → g a + 1 = f a → nsum g l + 1 = nsum f l
  | [], _, h, _, _ => by simp at h
  | b :: t, hn, hm, h1, h2 => by
    obtain ⟨n1, n2⟩ := List.nodup_cons.mp hn
    rw [nsum_cons, nsum_cons]
    by_cases e : b = a
    · subst e
      have : nsum g t = nsum f t := nsum_congr fun x hx => h1 x (List.mem_cons_of_mem _ hx) (fun z => n1 (z ▸ hx))
      omega
    · have ha : a ∈ t := by
        rcases List.mem_cons.mp hm with q | q
        · exact absurd q.symm e
        · exact q
      have ih := nsum_fall n2 ha (fun x hx => h1 x (List.mem_cons_of_mem _ hx)) h2
      have := h1 b (List.mem_cons_self ..) e
      omega

section
variable (ms : List α) (first : α) (L : α → List α)
/-- how often x had the document -/
def had (x : α) : Nat := (L x).length + if x = first then 1 else 0
/-- how often x is named -/
def named (x : α) : Nat := nsum (fun y => (L y).count x) ms
/-- its surplus -/
def sur (x : α) : Int := (had first L x : Int) - (named ms L x : Int)
/-- entries are members, other ones -/
def Lok : Prop := ∀ x ∈ ms, ∀ g ∈ L x, g ∈ ms ∧ g ≠ x
/-- the first entry of x, if it is not the first holder -/
def st (x : α) : Option α := if x = first then none else (L x).head?
end

theorem nsum_count_total {ms : List α} (hn : ms.Nodup) : ∀ {l : List α}, (∀ g ∈ l, g ∈ ms) → nsum (fun x => l.count x) ms = l.length
  | [], _ => by
    rw [show (fun x : α => ([] : List α).count x) = fun _ => 0 from rfl, nsum_zero]; rfl
  | a :: t, h => by
    have e : (fun x : α => (a :: t).count x) = fun x => t.count x + if x = a then 1 else 0 := by
      funext x
      rw [List.count_cons]
      by_cases q : x = a
      · subst q; simp
      · have : ¬ a = x := fun z => q z.symm
        simp [q, this]
    rw [e, nsum_add, nsum_count_total hn (fun g hg => h g (List.mem_cons_of_mem _ hg)), nsum_one hn, if_pos (h a (List.mem_cons_self ..))]
    rfl
theorem nsum_swap (F : α → α → Nat) : ∀ (l m : List α), nsum (fun x => nsum (fun y => F x y) m) l = nsum (fun y => nsum (fun x => F x y) l) m
  | [], m => by
    show 0 = nsum (fun _ => 0) m
    rw [nsum_zero]
  | a :: t, m => by
    rw [nsum_cons, nsum_swap F t m]
    have : (fun y => nsum (fun x => F x y) (a :: t)) = fun y => F a y + nsum (fun x => F x y) t := rfl
    rw [this, nsum_add]

theorem named_total {ms : List α} {L : α → List α} (hn : ms.Nodup) (hL : Lok ms L) : nsum (named ms L) ms = nsum (fun y => (L y).length) ms := by
  show nsum (fun x => nsum (fun y => (L y).count x) ms) ms = _
  rw [nsum_swap]
  exact nsum_congr fun y hy => nsum_count_total hn fun g hg => (hL y hy g hg).1
theorem had_total {ms : List α} {first : α} {L : α → List α} (hn : ms.Nodup) (hf : first ∈ ms) : nsum (had first L) ms = nsum (fun y => (L y).length) ms + 1 := by
  show nsum (fun x => (L x).length + if x = first then 1 else 0) ms = _
  rw [nsum_add, nsum_one hn, if_pos hf]

/-- every surplus 0 or 1 -/
def Bal (ms : List α) (first : α) (L : α → List α) : Prop := ∀ x ∈ ms, sur ms first L x = 0 ∨ sur ms first L x = 1

theorem one_left {f g : α → Nat} : ∀ {l : List α}, (∀ x ∈ l, f x = g x ∨ f x = g x + 1) → nsum f l = nsum g l → ∀ x ∈ l, f x = g x
  | [], _, _, x, hx => by simp at hx
  | a :: t, h, e, x, hx => by
    rw [nsum_cons, nsum_cons] at e
    have mono : ∀ {l : List α}, (∀ x ∈ l, f x = g x ∨ f x = g x + 1) → nsum g l ≤ nsum f l := by
      intro l
      induction l with
      | nil => intro _; exact Nat.le_refl _
      | cons b l ih =>
        intro q
        rw [nsum_cons, nsum_cons]
        have := ih fun x hx => q x (List.mem_cons_of_mem _ hx)
        have := q b (List.mem_cons_self ..)
        omega
    have m := mono fun x hx => h x (List.mem_cons_of_mem _ hx)
    have ha := h a (List.mem_cons_self ..)
    rcases List.mem_cons.mp hx with q | q
    · rw [q]; omega
    · exact one_left (fun x hx => h x (List.mem_cons_of_mem _ hx)) (by omega) x q
theorem one_of {f g : α → Nat} : ∀ {l : List α}, (∀ x ∈ l, f x = g x ∨ f x = g x + 1) → nsum f l = nsum g l + 1 →
    ∃ p x q, l = p ++ x :: q ∧ f x = g x + 1 ∧ (∀ y ∈ p, f y = g y) ∧ ∀ y ∈ q, f y = g y
  | [], _, e => by simp [nsum_nil] at e
  | a :: t, h, e => by
    rw [nsum_cons, nsum_cons] at e
    have ht : ∀ x ∈ t, f x = g x ∨ f x = g x + 1 := fun x hx => h x (List.mem_cons_of_mem _ hx)
    rcases h a (List.mem_cons_self ..) with q | q
    · obtain ⟨p, x, r, e1, e2, e3, e4⟩ := one_of ht (by omega)
      refine ⟨a :: p, x, r, by rw [e1]; rfl, e2, fun y hy => ?_, e4⟩
      rcases List.mem_cons.mp hy with z | z
      · rw [z]; exact q
      · exact e3 y z
    · refine ⟨[], a, t, rfl, q, fun y hy => by simp at hy, one_left ht (by omega)⟩
/-- the last holder: the one member with surplus 1 -/
theorem Bal.last {ms : List α} {first : α} {L : α → List α} (hn : ms.Nodup) (hf : first ∈ ms) (hL : Lok ms L) (hb : Bal ms first L) :
    ∃ p x q, ms = p ++ x :: q ∧ sur ms first L x = 1 ∧ (∀ y ∈ p, sur ms first L y = 0) ∧ ∀ y ∈ q, sur ms first L y = 0 := by
  have h1 : ∀ x ∈ ms, had first L x = named ms L x ∨ had first L x = named ms L x + 1 := fun x hx => by
    have := hb x hx
    unfold sur at this
    omega
  have h2 : nsum (had first L) ms = nsum (named ms L) ms + 1 := by rw [had_total hn hf, named_total hn hL]
  obtain ⟨p, x, q, e, e1, e2, e3⟩ := one_of h1 h2
  refine ⟨p, x, q, e, ?_, fun y hy => ?_, fun y hy => ?_⟩
  · unfold sur; omega
  · have := e2 y hy; unfold sur; omega
  · have := e3 y hy; unfold sur; omega
theorem filter_one {β : Type} {P : β → Bool} {p q : List β} {x : β} (h1 : ∀ y ∈ p, P y = false) (h2 : P x = true) (h3 : ∀ y ∈ q, P y = false) : (p ++ x :: q).filter P = [x] := by
  rw [List.filter_append, List.filter_cons, if_pos h2]
  have a : p.filter P = [] := List.filter_eq_nil_iff.mpr fun y hy => by rw [h1 y hy]; decide
  have b : q.filter P = [] := List.filter_eq_nil_iff.mpr fun y hy => by rw [h3 y hy]; decide
  rw [a, b]; rfl

/-! ### the walk back -/
def dn (left : α → Nat) (h : α) : α → Nat := fun x => if x = h then left x - 1 else left x
/-- the holders ahead of h, from the end -/
def bw (L : α → List α) : Nat → (α → Nat) → α → List α
  | 0, _, _ => []
  | n + 1, left, h => if left h = 0 then [] else
    match (L h)[left h - 1]? with
    | none => []
    | some g => g :: bw L n (dn left h) g

theorem bw_stop {L : α → List α} {n : Nat} {left : α → Nat} {h : α} (e : left h = 0) : bw L n left h = [] := by
  cases n with
  | zero => rfl
  | succ n => unfold bw; rw [if_pos e]
theorem bw_go {L : α → List α} {n : Nat} {left : α → Nat} {h g : α} (e : left h ≠ 0) (eg : (L h)[left h - 1]? = some g) : bw L (n + 1) left h = g :: bw L n (dn left h) g := by
  show (if left h = 0 then [] else match (L h)[left h - 1]? with | none => [] | some g => g :: bw L n (dn left h) g) = _
  rw [if_neg e, eg]

theorem lof_length_tail : ∀ (l : List α) (x : α), (lof l x).length = l.tail.count x
  | [], x => rfl
  | [a], x => rfl
  | a :: b :: t, x => by
    have ih := lof_length_tail (b :: t) x
    rw [lof_cons]
    show _ = (b :: t).count x
    rw [List.count_cons]
    by_cases e : x = b
    · subst e; simp [ih]
    · have : ¬ b = x := fun z => e z.symm
      simp [e, this, ih]

/-- THE WALK REBUILDS A HISTORY: Theorem A -/
theorem bw_lof (L : α → List α) : ∀ (n : Nat) (p : List α) (h : α) (s : List α) (left : α → Nat), n = p.length → (∀ x, L x = lof (p ++ h :: s) x) → (∀ x, left x = (lof (p ++ [h]) x).length) →
    bw L n left h = p.reverse
  | 0, p, h, s, left, hn, hL, hl => by
    have : p = [] := List.length_eq_zero_iff.mp hn.symm
    subst this; rfl
  | n + 1, p, h, s, left, hn, hL, hl => by
    rcases List.eq_nil_or_concat p with e | ⟨p', g, e⟩
    · subst e; simp at hn
    · rw [List.concat_eq_append] at e
      subst e
      have e1 : lof (p' ++ [g] ++ [h]) h = lof (p' ++ [g]) h ++ [g] := by
        rw [List.append_assoc]
        show lof (p' ++ [g, h]) h = _
        rw [lof_snoc, if_pos rfl]
      have l1 : left h = (lof (p' ++ [g]) h).length + 1 := by rw [hl, e1, List.length_append]; rfl
      have ne : left h ≠ 0 := by omega
      have eg : (L h)[left h - 1]? = some g := by
        rw [hL h]
        obtain ⟨r, er⟩ := lof_pre (p' ++ [g] ++ [h]) s h
        have : p' ++ [g] ++ h :: s = p' ++ [g] ++ [h] ++ s := by simp
        rw [this, er, e1, l1]
        simp
      rw [bw_go ne eg]
      have ih := bw_lof L n p' g (h :: s) (dn left h) (by simp at hn; exact hn) (fun x => by rw [hL x]; simp) (fun x => by
        unfold dn
        by_cases q : x = h
        · subst q; rw [if_pos rfl, l1]; rfl
        · rw [if_neg q, hl x, List.append_assoc]
          show (lof (p' ++ [g, h]) x).length = _
          rw [lof_snoc, if_neg q])
      rw [ih]; simp

/-! ### no ring -/
def stN (s : α → Option α) : Nat → α → Option α
  | 0, x => some x
  | n + 1, x => (s x).bind (stN s n)
theorem stN_add (s : α → Option α) : ∀ (i j : Nat) (x : α), stN s (i + j) x = (stN s i x).bind (stN s j)
  | 0, j, x => by rw [Nat.zero_add]; rfl
  | i + 1, j, x => by
    have e : i + 1 + j = (i + j) + 1 := by omega
    rw [e]
    show (s x).bind (stN s (i + j)) = ((s x).bind (stN s i)).bind (stN s j)
    cases s x with
    | none => rfl
    | some y => exact stN_add s i j y

theorem pigeon : ∀ {l m : List α}, l.Nodup → (∀ x ∈ l, x ∈ m) → l.length ≤ m.length
  | [], m, _, _ => Nat.zero_le _
  | a :: t, m, hn, h => by
    obtain ⟨h1, h2⟩ := List.nodup_cons.mp hn
    have ha := h a (List.mem_cons_self ..)
    have := pigeon (l := t) (m := m.erase a) h2 fun x hx => by
      have : x ≠ a := fun z => h1 (z ▸ hx)
      exact (List.mem_erase_of_ne this).mpr (h x (List.mem_cons_of_mem _ hx))
    rw [List.length_erase_of_mem ha] at this
    have := List.length_pos_of_mem ha
    simp; omega

/-- somebody comes back -/
theorem comes_back {s : α → Option α} {ms : List α} {S : α → Prop} (hS : ∀ x, S x → x ∈ ms ∧ ∃ y, s x = some y ∧ S y) {x : α} (hx : S x) : ∃ y ∈ ms, ∃ k, 0 < k ∧ stN s k y = some y := by
  have orb : ∀ k, ∃ y, stN s k x = some y ∧ S y := by
    intro k
    induction k with
    | zero => exact ⟨x, rfl, hx⟩
    | succ k ih =>
      obtain ⟨y, e, hy⟩ := ih
      obtain ⟨_, z, ez, hz⟩ := hS y hy
      refine ⟨z, ?_, hz⟩
      rw [stN_add s k 1 x, e]
      show (s y).bind (stN s 0) = some z
      rw [ez]; rfl
  -- otherwise ms.length + 1 of them differ
  by_cases hd : ∃ i j, i < j ∧ stN s i x = stN s j x
  · obtain ⟨i, j, hij, e⟩ := hd
    obtain ⟨y, ey, hy⟩ := orb i
    refine ⟨y, (hS y hy).1, j - i, by omega, ?_⟩
    have : j = i + (j - i) := by omega
    rw [this, stN_add, ey] at e
    exact e.symm
  · exfalso
    have inj : ∀ i j, i < j → stN s i x ≠ stN s j x := fun i j h e => hd ⟨i, j, h, e⟩
    let l := (List.range (ms.length + 1)).map fun k => (stN s k x).getD x
    have get : ∀ k, stN s k x = some ((stN s k x).getD x) := fun k => by
      obtain ⟨y, e, _⟩ := orb k
      rw [e]; rfl
    have nd : l.Nodup := by
      show ((List.range (ms.length + 1)).map fun k => (stN s k x).getD x).Nodup
      unfold List.Nodup
      rw [List.pairwise_map]
      refine List.Pairwise.imp ?_ (List.pairwise_lt_range)
      intro a b hab e
      apply inj a b hab
      rw [get a, get b, e]
    have sub : ∀ y ∈ l, y ∈ ms := fun y hy => by
      obtain ⟨k, _, e⟩ := List.mem_map.mp hy
      obtain ⟨z, ez, hz⟩ := orb k
      rw [ez] at e
      have : z = y := e
      rw [← this]
      exact (hS z hz).1
    have := pigeon nd sub
    have hl : l.length = ms.length + 1 := by
      show ((List.range (ms.length + 1)).map _).length = _
      rw [List.length_map, List.length_range]
    omega

/-- Theorem B: what is left comes from a history -/
theorem bw_all {ms : List α} {first : α} {L : α → List α} (hn : ms.Nodup) (hf : first ∈ ms) (hL : Lok ms L)
    (noring : ∀ y ∈ ms, ∀ k, 0 < k → stN (st first L) k y ≠ some y) :
    ∀ (n : Nat) (left : α → Nat) (h : α), h ∈ ms → nsum left ms ≤ n → (∀ x ∈ ms, left x ≤ (L x).length) →
      (∀ x ∈ ms, left x + (if x = first then 1 else 0) = nsum (fun y => ((L y).take (left y)).count x) ms + if x = h then 1 else 0) →
      (∀ y ∈ bw L n left h, y ∈ ms) ∧ (bw L n left h).length = nsum left ms ∧ (h :: bw L n left h).reverse.head? = some first ∧ ∀ x ∈ ms, lof (h :: bw L n left h).reverse x = (L x).take (left x) := by
  intro n
  induction n with
  | zero =>
    intro left h hh hsum hle hbal
    have z : ∀ x ∈ ms, left x = 0 := fun x hx => by have := nsum_mem_le (f := left) hx; omega
    have hb := hbal h hh
    rw [if_pos rfl, z h hh] at hb
    have hfe : h = first := by
      by_cases e : h = first
      · exact e
      · rw [if_neg e] at hb; omega
    refine ⟨fun y hy => by simp [bw] at hy, ?_, by simp [bw, hfe], fun x hx => ?_⟩
    · show 0 = _
      omega
    · show lof [h] x = _
      rw [lof_one, z x hx]; rfl
  | succ n ih =>
    intro left h hh hsum hle hbal
    by_cases e0 : left h = 0
    · rw [bw_stop e0]
      have hb := hbal h hh
      rw [if_pos rfl, e0] at hb
      have hfe : h = first := by
        by_cases e : h = first
        · exact e
        · rw [if_neg e] at hb; omega
      rw [if_pos hfe] at hb
      have nam : nsum (fun y => ((L y).take (left y)).count h) ms = 0 := by omega
      have z : ∀ x ∈ ms, left x = 0 := by
        intro x hx
        by_cases q : left x = 0
        · exact q
        · exfalso
          obtain ⟨y, hy, k, hk, ek⟩ := comes_back (s := st first L) (ms := ms) (S := fun x => x ∈ ms ∧ 0 < left x) (fun x ⟨hx, hp⟩ => by
            refine ⟨hx, ?_⟩
            have xf : x ≠ first := fun z => by rw [z, ← hfe, e0] at hp; exact absurd hp (Nat.lt_irrefl _)
            cases hl : L x with
            | nil => have := hle x hx; rw [hl] at this; simp at this; omega
            | cons g t =>
              have hg := hL x hx g (by rw [hl]; exact List.mem_cons_self ..)
              refine ⟨g, by unfold st; rw [if_neg xf, hl]; rfl, hg.1, ?_⟩
              have ng : 0 < nsum (fun y => ((L y).take (left y)).count g) ms := by
                refine Nat.lt_of_lt_of_le ?_ (nsum_mem_le (f := fun y => ((L y).take (left y)).count g) hx)
                show 0 < ((L x).take (left x)).count g
                rw [hl]
                refine List.count_pos_iff.mpr ?_
                obtain ⟨m, em⟩ : ∃ m, left x = m + 1 := ⟨left x - 1, by omega⟩
                rw [em, List.take_succ_cons]
                exact List.mem_cons_self ..
              have hgb := hbal g hg.1
              have gf : g ≠ h := fun z => by rw [z] at ng; omega
              rw [if_neg gf, if_neg (fun z => gf (z.trans hfe.symm))] at hgb
              omega) (x := x) ⟨hx, by omega⟩
          exact noring y hy k hk ek
      refine ⟨fun y hy => by simp at hy, ?_, by simp [hfe], fun x hx => ?_⟩
      · have : nsum left ms = nsum (fun _ => 0) ms := nsum_congr fun x hx => z x hx
        rw [this, nsum_zero]; rfl
      · show lof [h] x = _
        rw [lof_one, z x hx]; rfl
    · have hlt : left h - 1 < (L h).length := by have := hle h hh; omega
      obtain ⟨g, eg⟩ : ∃ g, (L h)[left h - 1]? = some g := ⟨(L h)[left h - 1], by simp [hlt]⟩
      rw [bw_go e0 eg]
      have gm : g ∈ L h := List.mem_of_getElem? eg
      obtain ⟨gms, gne⟩ := hL h hh g gm
      have dle : ∀ x ∈ ms, dn left h x ≤ (L x).length := fun x hx => by
        have := hle x hx
        unfold dn
        by_cases q : x = h
        · rw [if_pos q]; omega
        · rw [if_neg q]; exact this
      have dsum : nsum (dn left h) ms + 1 = nsum left ms := nsum_fall hn hh (fun x _ q => by unfold dn; rw [if_neg q]) (by unfold dn; rw [if_pos rfl]; omega)
      have tk : (L h).take (left h) = (L h).take (left h - 1) ++ [g] := by
        have : left h = (left h - 1) + 1 := by omega
        rw [this, List.take_add_one]
        simp only [Nat.add_sub_cancel]
        rw [eg]; rfl
      have cnt : ∀ x, nsum (fun y => ((L y).take (dn left h y)).count x) ms + (if x = g then 1 else 0) = nsum (fun y => ((L y).take (left y)).count x) ms := by
        intro x
        by_cases q : x = g
        · subst q
          rw [if_pos rfl]
          refine nsum_fall hn hh (fun y _ z => by unfold dn; rw [if_neg z]) ?_
          unfold dn
          rw [if_pos rfl, tk, List.count_append, List.count_singleton_self]
        · rw [if_neg q, Nat.add_zero]
          refine nsum_congr fun y _ => ?_
          by_cases z : y = h
          · subst z
            unfold dn
            rw [if_pos rfl, tk, List.count_append]
            have : ¬ g = x := fun w => q w.symm
            simp [this]
          · unfold dn; rw [if_neg z]
      obtain ⟨i1, i2, i3, i4⟩ := ih (dn left h) g gms (by omega) dle (fun x hx => by
        have hb := hbal x hx
        have c := cnt x
        unfold dn at c ⊢
        by_cases q : x = h
        · subst q
          rw [if_pos rfl] at hb ⊢
          have : ¬ x = g := fun z => gne z.symm
          rw [if_neg this] at c ⊢
          omega
        · rw [if_neg q] at hb ⊢
          omega)
      refine ⟨fun y hy => ?_, by simp; omega, ?_, fun x hx => ?_⟩
      · rcases List.mem_cons.mp hy with q | q
        · rw [q]; exact gms
        · exact i1 y q
      · rw [List.reverse_cons]
        cases hr : (g :: bw L n (dn left h) g).reverse with
        | nil => simp at hr
        | cons a t =>
          rw [hr] at i3
          exact i3
      · have e := i4 x hx
        rw [List.reverse_cons] at e ⊢
        rw [List.reverse_cons]
        rw [List.append_assoc]
        show lof (_ ++ [g, h]) x = _
        rw [lof_snoc, e]
        unfold dn
        by_cases q : x = h
        · subst q
          rw [if_pos rfl, if_pos rfl, tk]
        · rw [if_neg q, if_neg q]
end GM

namespace GM
variable {α : Type} [DecidableEq α]

/-! ### rings -/
/-- the program's and the law's search: r more looks -/
def rgo (s : α → Option α) (m : α) : Nat → List α → α → Option (List α)
  | 0, _, _ => none
  | r + 1, found, last => match s last with
    | none => none
    | some g => if g = m then some found else rgo s m r (found ++ [g]) g
/-- the ring that begins with m -/
def rat (s : α → Option α) (n : Nat) (m : α) : Option (List α) := rgo s m n [m] m
/-- whether there is one, without it -/
def rhas (s : α → Option α) (m : α) : Nat → α → Bool
  | 0, _ => false
  | r + 1, here => match s here with
    | none => false
    | some g => if g = m then true else rhas s m r g

theorem rgo_none {s : α → Option α} {m last : α} {r : Nat} {found : List α} (e : s last = none) : rgo s m r found last = none := by
  cases r with
  | zero => rfl
  | succ r => unfold rgo; rw [e]
theorem rgo_hit {s : α → Option α} {m last : α} {r : Nat} {found : List α} (e : s last = some m) : rgo s m (r + 1) found last = some found := by
  unfold rgo; rw [e]; exact if_pos rfl
theorem rgo_on {s : α → Option α} {m last g : α} {r : Nat} {found : List α} (e : s last = some g) (h : g ≠ m) : rgo s m (r + 1) found last = rgo s m r (found ++ [g]) g := by
  conv => lhs; unfold rgo
  rw [e]; exact if_neg h
theorem rhas_none {s : α → Option α} {m last : α} {r : Nat} (e : s last = none) : rhas s m r last = false := by
  cases r with
  | zero => rfl
  | succ r => unfold rhas; rw [e]
theorem rhas_hit {s : α → Option α} {m last : α} {r : Nat} (e : s last = some m) : rhas s m (r + 1) last = true := by
  unfold rhas; rw [e]; exact if_pos rfl
theorem rhas_on {s : α → Option α} {m last g : α} {r : Nat} (e : s last = some g) (h : g ≠ m) : rhas s m (r + 1) last = rhas s m r g := by
  conv => lhs; unfold rhas
  rw [e]; exact if_neg h

theorem rhas_eq (s : α → Option α) (m : α) : ∀ (r : Nat) (found : List α) (last : α), rhas s m r last = (rgo s m r found last).isSome
  | 0, _, _ => rfl
  | r + 1, found, last => by
    cases e : s last with
    | none => rw [rhas_none e, rgo_none e]; rfl
    | some g =>
      by_cases h : g = m
      · subst h; rw [rhas_hit e, rgo_hit e]; rfl
      · rw [rhas_on e h, rgo_on e h]; exact rhas_eq s m r _ g

/-- along s -/
def Chn (s : α → Option α) : List α → Prop
  | a :: b :: t => s a = some b ∧ Chn s (b :: t)
  | _ => True
theorem Chn.snoc {s : α → Option α} : ∀ {p : List α} {g h : α}, Chn s (p ++ [g]) → s g = some h → Chn s (p ++ [g, h])
  | [], g, h, _, e => ⟨e, trivial⟩
  | [a], g, h, q, e => ⟨q.1, e, trivial⟩
  | a :: b :: p, g, h, q, e => ⟨q.1, Chn.snoc (p := b :: p) q.2 e⟩
theorem Chn.tail {s : α → Option α} {a : α} {t : List α} (h : Chn s (a :: t)) : Chn s t := by
  cases t with
  | nil => exact trivial
  | cons b t => exact h.2
/-- a ring that begins with m: m :: t along s, m does not come in t, the last leads to m -/
structure IsRing (s : α → Option α) (m : α) (l : List α) : Prop where
  ex : ∃ t, l = m :: t ∧ m ∉ t
  chn : Chn s l
  last : ∃ p z, l = p ++ [z] ∧ s z = some m

theorem rgo_ring {s : α → Option α} {m : α} : ∀ {r : Nat} {p : List α} {last : α} {l : List α}, Chn s (p ++ [last]) → (∃ t, p ++ [last] = m :: t ∧ m ∉ t) → rgo s m r (p ++ [last]) last = some l →
    IsRing s m l ∧ l.length + 1 ≤ (p ++ [last]).length + r
  | 0, p, last, l, _, _, h => by simp [rgo] at h
  | r + 1, p, last, l, hc, hm, h => by
    cases e : s last with
    | none => rw [rgo_none e] at h; cases h
    | some g =>
      by_cases q : g = m
      · subst q
        rw [rgo_hit e] at h
        cases h
        exact ⟨⟨hm, hc, p, last, rfl, e⟩, by omega⟩
      · rw [rgo_on e q] at h
        have := rgo_ring (p := p ++ [last]) (last := g) (l := l) (by
          rw [List.append_assoc]; exact hc.snoc e) (by
          obtain ⟨t, e1, e2⟩ := hm
          refine ⟨t ++ [g], by rw [e1]; rfl, fun z => ?_⟩
          rcases List.mem_append.mp z with z | z
          · exact e2 z
          · exact q (List.mem_singleton.mp z).symm) h
        simp at this ⊢
        exact ⟨this.1, by omega⟩
theorem rat_ring {s : α → Option α} {m : α} {n : Nat} {l : List α} (h : rat s n m = some l) : IsRing s m l ∧ l.length ≤ n := by
  have := rgo_ring (p := []) (last := m) (l := l) (r := n) trivial ⟨[], rfl, by simp⟩ h
  simp at this
  exact ⟨this.1, by omega⟩
theorem rgo_of_chn {s : α → Option α} {m : α} : ∀ {r : Nat} {p q : List α} {last z : α}, Chn s (last :: q) → m ∉ q → (∃ w, last :: q = w ++ [z]) → s z = some m → q.length < r → rgo s m r (p ++ [last]) last = some (p ++ last :: q)
  | 0, _, _, _, _, _, _, _, _, h => absurd h (Nat.not_lt_zero _)
  | r + 1, p, [], last, z, hc, hm, ⟨w, ew⟩, hz, hr => by
    have : last = z := by
      cases w with
      | nil => simp at ew; exact ew
      | cons a w => simp at ew
    rw [this]
    exact rgo_hit hz
  | r + 1, p, b :: q, last, z, hc, hm, ⟨w, ew⟩, hz, hr => by
    have hb : b ≠ m := fun e => hm (by rw [e]; exact List.mem_cons_self ..)
    rw [rgo_on hc.1 hb]
    have := rgo_of_chn (r := r) (p := p ++ [last]) (q := q) (last := b) (z := z) hc.2 (fun e => hm (List.mem_cons_of_mem _ e)) (by
      cases w with
      | nil => simp at ew
      | cons a w =>
        have : b :: q = w ++ [z] := (List.cons.inj ew).2
        exact ⟨w, this⟩) hz (by simp at hr; omega)
    rw [this]
    simp
theorem ring_rat {s : α → Option α} {m : α} {n : Nat} {l : List α} (h : IsRing s m l) (hn : l.length ≤ n) : rat s n m = some l := by
  obtain ⟨⟨t, rfl, ht⟩, hc, p, z, e, hz⟩ := h
  exact rgo_of_chn (p := []) (q := t) (last := m) hc ht ⟨p, e⟩ hz (by simp at hn; omega)

/-- the places along a chain -/
theorem chn_stN {s : α → Option α} : ∀ {l : List α} {i j : Nat} {x y : α}, Chn s l → l[i]? = some x → l[i + j]? = some y → stN s j x = some y
  | [], i, j, x, y, _, h, _ => by simp at h
  | a :: t, 0, 0, x, y, _, h1, h2 => by
    rw [h1] at h2; exact h2
  | a :: [], 0, j + 1, x, y, _, h1, h2 => by simp at h2
  | a :: b :: t, 0, j + 1, x, y, hc, h1, h2 => by
    have : a = x := by simpa using h1
    subst this
    show (s a).bind (stN s j) = some y
    rw [hc.1]
    exact chn_stN (l := b :: t) (i := 0) (j := j) hc.2 rfl (by rw [Nat.zero_add] at h2 ⊢; simpa using h2)
  | a :: t, i + 1, j, x, y, hc, h1, h2 => by
    have e : i + 1 + j = (i + j) + 1 := by omega
    rw [e] at h2
    exact chn_stN (l := t) (i := i) (j := j) hc.tail (by simpa using h1) (by simpa using h2)

theorem ring_nodup {s : α → Option α} {m : α} {l : List α} (h : IsRing s m l) : l.Nodup := by
  obtain ⟨⟨t, el, ht⟩, hc, p, z, e, hz⟩ := h
  have hlen : l.length = p.length + 1 := by rw [e]; simp
  have lastz : l[p.length]? = some z := by rw [e]; simp
  have back : ∀ i x, l[i]? = some x → stN s (l.length - i) x = some m := by
    intro i x hx
    have hi : i < l.length := (List.getElem?_eq_some_iff.mp hx).1
    have := chn_stN (i := i) (j := p.length - i) hc hx (by rw [show i + (p.length - i) = p.length by omega]; exact lastz)
    have e2 : l.length - i = (p.length - i) + 1 := by omega
    rw [e2, stN_add, this]
    show (s z).bind (stN s 0) = some m
    rw [hz]; rfl
  have first0 : ∀ i x, l[i]? = some x → stN s i m = some x := by
    intro i x hx
    have h0 : l[0]? = some m := by rw [el]; rfl
    exact chn_stN (i := 0) (j := i) hc h0 (by rw [Nat.zero_add]; exact hx)
  have notm : ∀ i, 0 < i → l[i]? ≠ some m := by
    intro i hi hx
    rw [el] at hx
    cases i with
    | zero => exact absurd hi (Nat.lt_irrefl _)
    | succ i =>
      have : t[i]? = some m := by simpa using hx
      exact ht (List.mem_of_getElem? this)
  -- two equal places i < j: then m stands at i + (length - j)
  have key : ∀ (i j : Nat) (x : α), i < j → l[i]? = some x → l[j]? = some x → False := by
    intro i j x hij h1 h2
    have hj : j < l.length := (List.getElem?_eq_some_iff.mp h2).1
    have b1 := back j x h2
    have f1 := first0 i x h1
    have hm : stN s (i + (l.length - j)) m = some m := by rw [stN_add, f1]; exact b1
    have hk : i + (l.length - j) < l.length := by omega
    have : l[i + (l.length - j)]? = some (l[i + (l.length - j)]'hk) := by simp [hk]
    have f2 := first0 _ _ this
    rw [hm] at f2
    have e3 : l[i + (l.length - j)]? = some m := by rw [this]; exact f2.symm
    exact notm (i + (l.length - j)) (by omega) e3
  unfold List.Nodup
  rw [List.pairwise_iff_getElem]
  intro i j hi hj hij e2
  exact key i j l[i] hij (List.getElem?_eq_getElem hi) (by rw [e2]; exact List.getElem?_eq_getElem hj)

theorem chn_some {s : α → Option α} : ∀ {l : List α} {p : List α} {z m : α}, Chn s l → l = p ++ [z] → s z = some m → ∀ x ∈ l, (s x).isSome = true
  | [], p, z, m, _, e, _ => by simp at e
  | [a], p, z, m, _, e, hz => by
    intro x hx
    have : a = z := by
      cases p with
      | nil => simp at e; exact e
      | cons b p => simp at e
    rw [List.mem_singleton.mp hx, this, hz]; rfl
  | a :: b :: t, p, z, m, hc, e, hz => by
    intro x hx
    cases p with
    | nil => simp at e
    | cons c p =>
      have e2 : b :: t = p ++ [z] := (List.cons.inj e).2
      rcases List.mem_cons.mp hx with q | q
      · rw [q, hc.1]; rfl
      · exact chn_some hc.2 e2 hz x q

/-- enough looks find every ring: n members have a first entry -/
theorem rat_any {s : α → Option α} {ks : List α} (hk : ∀ x, (s x).isSome = true → x ∈ ks) {m : α} {n : Nat} (hn : ks.length ≤ n) : rat s n m = rat s ks.length m := by
  cases e : rat s n m with
  | some l =>
    obtain ⟨r, _⟩ := rat_ring e
    have := pigeon (ring_nodup r) (fun x hx => by
      obtain ⟨_, hc, p, z, el, hz⟩ := r
      exact hk x (chn_some hc el hz x hx))
    exact (ring_rat r this).symm
  | none =>
    cases e2 : rat s ks.length m with
    | none => rfl
    | some l =>
      obtain ⟨r, h⟩ := rat_ring e2
      rw [ring_rat r (Nat.le_trans h hn)] at e
      cases e
/-- who comes back is in a ring -/
theorem rgo_back {s : α → Option α} {m : α} : ∀ {r : Nat} {found : List α} {last : α}, 0 < r → stN s r last = some m → rgo s m r found last ≠ none
  | 0, _, _, h, _ => absurd h (Nat.lt_irrefl _)
  | r + 1, found, last, _, h => by
    have h : (s last).bind (stN s r) = some m := h
    cases e : s last with
    | none => rw [e] at h; cases h
    | some g =>
      by_cases q : g = m
      · subst q; rw [rgo_hit e]; exact fun z => by cases z
      · rw [rgo_on e q]
        rw [e] at h
        have h : stN s r g = some m := h
        cases r with
        | zero => exact absurd (Option.some.inj h) q
        | succ r => exact rgo_back (Nat.succ_pos _) h
theorem noring_of {s : α → Option α} {ks ms : List α} (hk : ∀ x, (s x).isSome = true → x ∈ ks) (h : ∀ x ∈ ms, rat s ks.length x = none) : ∀ y ∈ ms, ∀ k, 0 < k → stN s k y ≠ some y := by
  intro y hy k hk0 e
  have h1 : rat s k y ≠ none := rgo_back hk0 e
  cases e1 : rat s k y with
  | none => exact h1 e1
  | some l =>
    obtain ⟨r, _⟩ := rat_ring e1
    have := pigeon (ring_nodup r) (fun x hx => by
      obtain ⟨_, hc, p, z, el, hz⟩ := r
      exact hk x (chn_some hc el hz x hx))
    have h2 := h y hy
    rw [ring_rat r this] at h2
    cases h2

/-! ### the conflict -/
inductive Conf (α : Type) where
  | unb (x : α) (had named : Nat)
  | ring (l : List α)
  deriving DecidableEq
section
variable (ms : List α) (first : α) (L : α → List α)
def off (x : α) : Bool := decide (¬ (sur ms first L x = 0 ∨ sur ms first L x = 1))
/-- the members with a first entry -/
def keys : List α := ms.filter fun x => (st first L x).isSome
/-- the ring that contains the least member of all rings -/
def lring : Option (List α) := ms.findSome? fun x => rat (st first L) (keys ms first L).length x
def conf : Option (Conf α) := match ms.find? (off ms first L) with
  | some x => some (.unb x (had first L x) (named ms L x))
  | none => (lring ms first L).map .ring
end
section
variable {ms : List α} {first : α} {L L' : α → List α}
theorem mem_keys {x : α} : x ∈ keys ms first L ↔ x ∈ ms ∧ (st first L x).isSome = true := by
  unfold keys; rw [List.mem_filter]
/-- the first entries along ms alone -/
theorem rat_keys {x : α} (h : (st first L x) = none) (n : Nat) : rat (st first L) n x = none := rgo_none h
theorem findSome_filter {β γ : Type} {P : β → Bool} {f : β → Option γ} : ∀ {l : List β}, (∀ x ∈ l, P x = false → f x = none) → l.findSome? f = (l.filter P).findSome? f
  | [], _ => rfl
  | a :: t, h => by
    have ih := findSome_filter (P := P) (f := f) (l := t) fun x hx => h x (List.mem_cons_of_mem _ hx)
    cases e : P a with
    | true =>
      rw [List.filter_cons, if_pos e]
      show (match f a with | some b => some b | none => t.findSome? f) = (match f a with | some b => some b | none => (t.filter P).findSome? f)
      rw [ih]
    | false =>
      rw [List.filter_cons, if_neg (by rw [e]; decide)]
      show (match f a with | some b => some b | none => t.findSome? f) = _
      rw [h a (List.mem_cons_self ..) e]
      exact ih
theorem lring_keys : lring ms first L = (keys ms first L).findSome? fun x => rat (st first L) (keys ms first L).length x := by
  unfold lring
  conv => rhs; unfold keys
  refine findSome_filter fun x _ h => rat_keys ?_ _
  cases e : st first L x with
  | none => rfl
  | some y => rw [e] at h; cases h

theorem st_some {x g : α} (h : st first L x = some g) : x ≠ first ∧ ∃ t, L x = g :: t := by
  unfold st at h
  by_cases e : x = first
  · rw [if_pos e] at h; cases h
  · rw [if_neg e] at h
    cases hl : L x with
    | nil => rw [hl] at h; cases h
    | cons a t => rw [hl] at h; exact ⟨e, t, by rw [show g = a from (Option.some.inj h).symm]⟩
theorem st_mem {x g : α} (hx : x ∈ ms) (hL : Lok ms L) (h : st first L x = some g) : g ∈ ms ∧ g ≠ x := by
  obtain ⟨_, t, e⟩ := st_some h
  exact hL x hx g (by rw [e]; exact List.mem_cons_self ..)

theorem conf_none (hc : conf ms first L = none) : Bal ms first L ∧ ∀ x ∈ ms, rat (st first L) (keys ms first L).length x = none := by
  unfold conf at hc
  cases e : ms.find? (off ms first L) with
  | some x => rw [e] at hc; cases hc
  | none =>
    rw [e] at hc
    have hr : lring ms first L = none := by
      cases q : lring ms first L with
      | none => rfl
      | some l => rw [q] at hc; cases hc
    refine ⟨fun x hx => ?_, fun x hx => ?_⟩
    · have := List.find?_eq_none.mp e x hx
      unfold off at this
      exact Decidable.not_not.mp fun z => this (decide_eq_true z)
    · unfold lring at hr
      exact List.findSome?_eq_none_iff.mp hr x hx
theorem conf_none_of (hb : Bal ms first L) (hr : ∀ x ∈ ms, rat (st first L) (keys ms first L).length x = none) : conf ms first L = none := by
  unfold conf
  have e : ms.find? (off ms first L) = none := List.find?_eq_none.mpr fun x hx => by
    unfold off
    intro z
    exact of_decide_eq_true z (hb x hx)
  rw [e]
  have e2 : lring ms first L = none := List.findSome?_eq_none_iff.mpr hr
  rw [e2]; rfl
end
/-- the first entries of members alone: outside of ms there are none that matter -/
def stm (ms : List α) (first : α) (L : α → List α) (x : α) : Option α := if x ∈ ms then st first L x else none
theorem stm_rgo {ms : List α} {first : α} {L : α → List α} (hL : Lok ms L) {m : α} : ∀ {r : Nat} {found : List α} {last : α}, last ∈ ms → rgo (stm ms first L) m r found last = rgo (st first L) m r found last
  | 0, _, _, _ => rfl
  | r + 1, found, last, h => by
    have e : stm ms first L last = st first L last := if_pos h
    cases q : st first L last with
    | none => rw [rgo_none q, rgo_none (e.trans q)]
    | some g =>
      by_cases z : g = m
      · subst z; rw [rgo_hit q, rgo_hit (e.trans q)]
      · rw [rgo_on q z, rgo_on (e.trans q) z]
        exact stm_rgo hL (st_mem h hL q).1
theorem stm_rat {ms : List α} {first : α} {L : α → List α} (hL : Lok ms L) {m : α} (hm : m ∈ ms) {n : Nat} : rat (stm ms first L) n m = rat (st first L) n m := stm_rgo hL hm
theorem stm_stN {ms : List α} {first : α} {L : α → List α} (hL : Lok ms L) : ∀ {k : Nat} {x : α}, x ∈ ms → stN (stm ms first L) k x = stN (st first L) k x
  | 0, _, _ => rfl
  | k + 1, x, h => by
    have e : stm ms first L x = st first L x := if_pos h
    show (stm ms first L x).bind _ = (st first L x).bind _
    rw [e]
    cases q : st first L x with
    | none => rfl
    | some g => exact stm_stN hL (st_mem h hL q).1
theorem stm_keys {ms : List α} {first : α} {L : α → List α} : ∀ x, (stm ms first L x).isSome = true → x ∈ keys ms first L := fun x h => by
  unfold stm at h
  by_cases e : x ∈ ms
  · rw [if_pos e] at h; exact mem_keys.mpr ⟨e, h⟩
  · rw [if_neg e] at h; cases h

/-- both searches agree: any number of looks from the keys' number on -/
theorem rat_more {ms : List α} {first : α} {L : α → List α} (hL : Lok ms L) {m : α} (hm : m ∈ ms) {n : Nat} (hn : (keys ms first L).length ≤ n) : rat (st first L) n m = rat (st first L) (keys ms first L).length m := by
  rw [← stm_rat hL hm, ← stm_rat hL hm]
  exact rat_any stm_keys hn
theorem noring_conf {ms : List α} {first : α} {L : α → List α} (hL : Lok ms L) (h : ∀ x ∈ ms, rat (st first L) (keys ms first L).length x = none) : ∀ y ∈ ms, ∀ k, 0 < k → stN (st first L) k y ≠ some y := by
  intro y hy k hk e
  refine noring_of (s := stm ms first L) (ms := ms) stm_keys (fun x hx => ?_) y hy k hk ?_
  · rw [stm_rat hL hx]; exact h x hx
  · rw [stm_stN hL hy]; exact e

/-! ### histories have no conflict -/
theorem count_dropLast_total {ms : List α} (hn : ms.Nodup) : ∀ (l : List α), (∀ y ∈ l, y ∈ ms) → ∀ x, nsum (fun y => (lof l y).count x) ms = l.dropLast.count x
  | [], _, x => by
    rw [nsum_congr (g := fun _ => 0) fun y _ => by rw [lof_nil]; rfl, nsum_zero]; rfl
  | [a], _, x => by
    rw [nsum_congr (g := fun _ => 0) fun y _ => by rw [lof_one]; rfl, nsum_zero]; rfl
  | a :: b :: t, h, x => by
    have ih := count_dropLast_total hn (b :: t) (fun y hy => h y (List.mem_cons_of_mem _ hy)) x
    have e : ∀ y ∈ ms, (lof (a :: b :: t) y).count x = (lof (b :: t) y).count x + (if y = b then 1 else 0) * (if a = x then 1 else 0) := by
      intro y _
      rw [lof_cons]
      by_cases q : y = b
      · rw [if_pos q, if_pos q, List.count_cons]
        by_cases z : a = x <;> simp [z]
      · rw [if_neg q, if_neg q]; simp
    rw [nsum_congr e, nsum_add, ih]
    show _ = (a :: (b :: t).dropLast).count x
    rw [List.count_cons]
    by_cases z : a = x
    · simp only [z, if_true, Nat.mul_one, beq_self_eq_true]
      rw [nsum_one hn, if_pos (h b (List.mem_cons_of_mem _ (List.mem_cons_self ..)))]
    · simp only [z, if_false, Nat.mul_zero]
      rw [nsum_zero]
      simp [z]
theorem count_split (l : List α) (x a z : α) (t p : List α) (h1 : l = a :: t) (h2 : l = p ++ [z]) : t.count x + (if x = a then 1 else 0) = p.count x + if x = z then 1 else 0 := by
  have c1 : l.count x = t.count x + if x = a then 1 else 0 := by
    rw [h1, List.count_cons]
    by_cases q : x = a
    · subst q; simp
    · have : ¬ a = x := fun w => q w.symm
      simp [q, this]
  have c2 : l.count x = p.count x + if x = z then 1 else 0 := by
    rw [h2, List.count_append, List.count_cons]
    by_cases q : x = z
    · subst q; simp
    · have : ¬ z = x := fun w => q w.symm
      simp [q, this]
  omega
/-- a history's surpluses: one for the last holder -/
theorem sur_lof {ms : List α} (hn : ms.Nodup) {p : List α} {z a : α} {t : List α} (h : ∀ y ∈ p ++ [z], y ∈ ms) (h1 : p ++ [z] = a :: t) (x : α) : sur ms a (lof (p ++ [z])) x = if x = z then 1 else 0 := by
  unfold sur had named
  rw [count_dropLast_total hn _ h, lof_length_tail]
  have e1 : (p ++ [z]).tail = t := by rw [h1]; rfl
  have e2 : (p ++ [z]).dropLast = p := by simp
  rw [e1, e2]
  have := count_split (p ++ [z]) x a z t p h1 rfl
  generalize (if x = a then 1 else 0 : Nat) = u at *
  by_cases q : x = z
  · rw [if_pos q] at this; rw [if_pos q]; omega
  · rw [if_neg q] at this; rw [if_neg q]; omega

/-- the first entry was a holder earlier -/
theorem st_idx : ∀ (t : List α) (a x g : α), x ≠ a → (lof (a :: t) x).head? = some g → (a :: t).idxOf g < (a :: t).idxOf x
  | [], a, x, g, _, h => by simp [lof_one] at h
  | b :: t, a, x, g, hx, h => by
    rw [lof_cons] at h
    have ha : ¬ a = x := fun z => hx z.symm
    have e1 : (a :: b :: t).idxOf x = (b :: t).idxOf x + 1 := by
      have hb : (a == x) = false := by simpa using ha
      rw [List.idxOf_cons, hb]; rfl
    by_cases q : x = b
    · rw [if_pos q] at h
      have : a = g := by simpa using h
      subst this
      rw [e1]
      have : (a :: b :: t).idxOf a = 0 := by
        have hb : (a == a) = true := by simp
        rw [List.idxOf_cons, hb]; rfl
      omega
    · rw [if_neg q] at h
      have ih := st_idx t b x g q h
      rw [e1]
      have : (a :: b :: t).idxOf g ≤ (b :: t).idxOf g + 1 := by
        rw [List.idxOf_cons]
        cases (a == g)
        · exact Nat.le_refl _
        · exact Nat.zero_le _
      omega
theorem chn_idx {s : α → Option α} {f : α → Nat} (hs : ∀ x g, s x = some g → f g < f x) : ∀ {t : List α} {m : α}, Chn s (m :: t) → ∀ x ∈ m :: t, f x ≤ f m
  | [], m, _, x, hx => by rw [List.mem_singleton.mp hx]; exact Nat.le_refl _
  | b :: t, m, hc, x, hx => by
    rcases List.mem_cons.mp hx with q | q
    · rw [q]; exact Nat.le_refl _
    · have := chn_idx hs hc.2 x q
      have := hs m b hc.1
      omega
theorem noring_lof {a : α} {t : List α} (n : Nat) (m : α) : rat (st a (lof (a :: t))) n m = none := by
  cases e : rat (st a (lof (a :: t))) n m with
  | none => rfl
  | some l =>
    exfalso
    obtain ⟨⟨⟨u, el, _⟩, hc, p, z, ez, hz⟩, _⟩ := rat_ring e
    have hs : ∀ x g, st a (lof (a :: t)) x = some g → (a :: t).idxOf g < (a :: t).idxOf x := fun x g h => by
      unfold st at h
      by_cases q : x = a
      · rw [if_pos q] at h; cases h
      · rw [if_neg q] at h; exact st_idx t a x g q h
    have h1 := chn_idx hs (t := u) (m := m) (by rw [← el]; exact hc) z (by rw [← el, ez]; simp)
    have h2 := hs z m hz
    omega
theorem conf_lof {ms : List α} (hn : ms.Nodup) {a : α} {t : List α} (h : ∀ y ∈ a :: t, y ∈ ms) : conf ms a (lof (a :: t)) = none := by
  refine conf_none_of (fun x _ => ?_) fun x _ => noring_lof _ _
  obtain ⟨p, z, e⟩ : ∃ p z, a :: t = p ++ [z] := by
    rcases List.eq_nil_or_concat (a :: t) with q | ⟨p, z, q⟩
    · cases q
    · exact ⟨p, z, by rw [q, List.concat_eq_append]⟩
  have := sur_lof hn (p := p) (z := z) (a := a) (t := t) (by rw [← e]; exact h) e.symm x
  rw [← e] at this
  rw [this]
  by_cases q : x = z
  · rw [if_pos q]; exact .inr rfl
  · rw [if_neg q]; exact .inl rfl

/-! ### the same names, the same first entries -/
theorem conf_congr {ms : List α} {first : α} {L L' : α → List α} (h1 : ∀ x ∈ ms, (L' x).Perm (L x)) (h2 : ∀ x ∈ ms, st first L' x = st first L x) (hL : Lok ms L) (hf : ∀ x ∈ ms, conf ms first L = none) (hne : first ∈ ms) : conf ms first L' = none := by
  obtain ⟨hb, hr⟩ := conf_none (hf first hne)
  have hd : ∀ x ∈ ms, had first L' x = had first L x := fun x hx => by
    unfold had; rw [(h1 x hx).length_eq]
  have hnm : ∀ x, named ms L' x = named ms L x := fun x => nsum_congr fun y hy => (h1 y hy).count_eq x
  have hL' : Lok ms L' := fun x hx g hg => hL x hx g ((h1 x hx).mem_iff.mp hg)
  refine conf_none_of (fun x hx => ?_) fun x hx => ?_
  · unfold sur
    rw [hd x hx, hnm x]
    exact hb x hx
  · have e1 : keys ms first L' = keys ms first L := by
      unfold keys
      exact List.filter_congr fun x hx => by rw [h2 x hx]
    rw [e1]
    have e2 : stm ms first L' = stm ms first L := by
      funext y
      unfold stm
      by_cases q : y ∈ ms
      · rw [if_pos q, if_pos q, h2 y q]
      · rw [if_neg q, if_neg q]
    rw [← stm_rat hL' hx, e2, stm_rat hL hx]
    exact hr x hx
end GM

set_option maxHeartbeats 4000000
namespace G
open PySem L2
def top (i : Nat) : Stmt := PySem.Challenge.pw_gotfrom_k60_whole_histories_rebuilt.main.body.getD i (.Pass ⟨0, 0, 0, 0⟩)
/-- a def of ours that is called by its name -/
structure Dn (P : Program) (w : World) (K : PySem.W.Frag) (mg : Str → Option Value) (base : Heap) (CX : CXT) (k : Nat) (x : Str) (ps : List Str) (sp : Sp) : Prop where
  ex : ∃ f fd, FnOk P w K mg base CX k f fd ps sp ∧ mg x = some (.ref f) ∧ PySem.W.keepIn K (.ref f) = true ∧ Binds K fd ps []
/-- the built-in names that are used, the constants of the top -/
structure Txt (K : PySem.W.Frag) (mg : Str → Option Value) : Prop where
  len : mg "len" = none
  isinstance : mg "isinstance" = none
  str : mg "str" = none
  list : mg "list" = none
  dict : mg "dict" = none
  tuple : mg "tuple" = none
  int : mg "int" = none
  bool : mg "bool" = none
  all : mg "all" = none
  zip : mg "zip" = none
  sorted : mg "sorted" = none
  range : mg "range" = none
  max : mg "max" = none
  min : mg "min" = none
  letters : ∃ t, mg "LETTERS" = some (.str "abcdefghijklmnopqrstuvwxyz" t)
  maxl : ∃ t, mg "MAX_LETTERS" = some (.int 8 t)
  maxm : ∃ t, mg "MAX_MEMBERS" = some (.int 12 t)
  unb : ∃ t, mg "UNBALANCED" = some (.str "unbalanced" t)
  ring : ∃ t, mg "RING" = some (.str "ring" t)

/-! ### rules in short -/
section
variable {X : Cx} {te tf tg : TE}
theorem call_dn {k k' : Nat} {x : Str} {ps : List Str} {sp : Sp} {e : Expr} {es : List Expr} {p pos : Pos} {t : TA} (D : Dn X.prog X.w X.K X.mg X.base CX0 k x ps sp) (hr : Room k' X.A) (ha : PA X (e :: es) t) (hk : k ≤ k' := by decide) (hg : Gl X x := by rfl)
    (hd : (x == ("__debug__" : Str)) = false := by decide) (he : starEach (e :: es) X.env = (false, eval e X.env) :: starEach es X.env := by rfl) (hpl : (backTo pos (starEach es X.env)).any (·.1) = false := by rfl) :
    PE X (.Call (.Name x p) (e :: es) [] pos) (tCall sp [] E0 t) := by
  obtain ⟨f, fd, F, m, kp, b⟩ := D.ex
  exact pe_call F (hr.mono hk) hg m kp b .nil pass0 ha (hdb := hd) (he := he) (hpl := hpl)
/-- isinstance(x, c) is b -/
def Isi (K : PySem.W.Frag) (H : Hp) (x c : V) (b : Bool) : Prop := ∃ t u, ClsV c u ∧ TyX K H x t ∧ PySem.W.kitOne K t u = some b
def rIsB (K : PySem.W.Frag) : List V → Hp → VK → Prop := fun xs H Q => ∃ x c b, xs = [x, c] ∧ Isi K H x c b ∧ Q (.bl b) H
theorem call_isB : CallR X (.builtin "isinstance") (rIsB X.K) := by
  intro pins s σ H xs us Q I r h
  obtain ⟨x, c, b, e, ⟨t, u, k, ty, kk⟩, q⟩ := h
  exact call_isi pins s σ H xs us Q I r ⟨x, c, t, u, b, e, k, ty, kk, q⟩
theorem g_isi (T : Txt X.K X.mg) {e c : Expr} {p pos : Pos} (he : PE X e te) (hc : PE X c tf) (hg : Gl X "isinstance" := by rfl) (h1 : starEach (e :: [c]) X.env = (false, eval e X.env) :: starEach [c] X.env := by rfl) (h2 : starEach (c :: []) X.env = (false, eval c X.env) :: starEach [] X.env := by rfl)
    (hpl : (backTo pos (starEach [c] X.env)).any (·.1) = false := by rfl) : PE X (.Call (.Name "isinstance" p) [e, c] [] pos) (tCB (rIsB X.K) (tCons te (tCons tf tNil))) :=
  pe_callB call_isB hg T.isinstance PyProof.Rows.boot_isinstance (pa_cons he (pa_cons hc pa_nil h2) h1) (he := h1) (hpl := hpl)
/-! lists of truth -/
def reps (i : Nat) : List V := (List.replicate i true).map V.bl
theorem reps_succ (i : Nat) : reps (i + 1) = reps i ++ [.bl true] := by
  unfold reps
  rw [List.replicate_succ', List.map_append]; rfl
theorem reps_len (i : Nat) : (reps i).length = i := by unfold reps; simp
def rAllT : List V → Hp → VK → Prop := fun xs H Q => ∃ a n, xs = [.ref a] ∧ H a = some (.lst (reps n)) ∧ Q (.bl true) H
theorem cr_allT (hc : X.calm = true) : CallR X (.builtin "all") rAllT := by
  intro pins s σ H xs us Q I r h
  obtain ⟨a, n, e, ha, q⟩ := h
  refine cr_all hc pins s σ H xs us Q I r ⟨a, List.replicate n true, e, SqL.of ha, ?_⟩
  rw [show (List.replicate n true).all id = true from List.all_eq_true.mpr fun b hb => (List.mem_replicate.mp hb).2]
  exact q
theorem boot_all : bootBuiltins "all" = some (.builtin "all") := by decide +kernel
theorem boot_sorted : bootBuiltins "sorted" = some (.builtin "sorted") := by decide +kernel
def rLenL (K : PySem.W.Frag) : List V → Hp → VK → Prop := fun xs H Q => ∃ p ys, xs = [.ref p] ∧ (SqL K H p ys ∨ SqT K H p ys) ∧ Q (.int ys.length) H
def rLenD : List V → Hp → VK → Prop := fun xs H Q => ∃ a kvs, xs = [V.ref a] ∧ H a = some (.dK kvs) ∧ Q (.int kvs.length) H
def rLenS : List V → Hp → VK → Prop := fun xs H Q => ∃ z, xs = [.str z] ∧ z.length ≤ sizeLine ∧ Q (.int z.length) H
theorem g_lenL {K : PySem.W.Frag} {mg : Str → Option Value} (T : Txt K mg) {e : Expr} {p pos : Pos} (he : PE X e te) (hK : X.K = K := by rfl) (hm : X.mg = mg := by rfl) (hg : Gl X "len" := by rfl) (h1 : starEach (e :: []) X.env = (false, eval e X.env) :: starEach [] X.env := by rfl)
    (hpl : (backTo pos (starEach [] X.env)).any (·.1) = false := by rfl) : PE X (.Call (.Name "len" p) [e] [] pos) (tCB (rLenL K) (tCons te tNil)) := by
  subst hK hm
  exact pe_callB call_len_seq hg T.len PySem.boot_len (pa_cons he pa_nil h1) (he := h1) (hpl := hpl)
theorem g_lenD (T : Txt X.K X.mg) {e : Expr} {p pos : Pos} (he : PE X e te) (hg : Gl X "len" := by rfl) (h1 : starEach (e :: []) X.env = (false, eval e X.env) :: starEach [] X.env := by rfl)
    (hpl : (backTo pos (starEach [] X.env)).any (·.1) = false := by rfl) : PE X (.Call (.Name "len" p) [e] [] pos) (tCB rLenD (tCons te tNil)) := pe_callB call_lenD hg T.len PySem.boot_len (pa_cons he pa_nil h1) (he := h1) (hpl := hpl)
theorem g_lenS (T : Txt X.K X.mg) {e : Expr} {p pos : Pos} (he : PE X e te) (hg : Gl X "len" := by rfl) (h1 : starEach (e :: []) X.env = (false, eval e X.env) :: starEach [] X.env := by rfl)
    (hpl : (backTo pos (starEach [] X.env)).any (·.1) = false := by rfl) : PE X (.Call (.Name "len" p) [e] [] pos) (tCB rLenS (tCons te tNil)) := pe_callB call_len_str hg T.len PySem.boot_len (pa_cons he pa_nil h1) (he := h1) (hpl := hpl)
theorem g_all (T : Txt X.K X.mg) {e : Expr} {p pos : Pos} (he : PE X e te) (hc : X.calm = true := by rfl) (hg : Gl X "all" := by rfl) (h1 : starEach (e :: []) X.env = (false, eval e X.env) :: starEach [] X.env := by rfl)
    (hpl : (backTo pos (starEach [] X.env)).any (·.1) = false := by rfl) : PE X (.Call (.Name "all" p) [e] [] pos) (tCB rAllT (tCons te tNil)) := pe_callB (cr_allT hc) hg T.all boot_all (pa_cons he pa_nil h1) (he := h1) (hpl := hpl)
def rInt : List V → Hp → VK → Prop := fun xs H Q => (∃ i, xs = [.int i] ∧ Q (.int i) H) ∨ ∃ k, xs = [.bl k] ∧ Q (.int (if k then 1 else 0)) H
theorem g_int (T : Txt X.K X.mg) {e : Expr} {p pos : Pos} (he : PE X e te) (hg : Gl X "int" := by rfl) (h1 : starEach (e :: []) X.env = (false, eval e X.env) :: starEach [] X.env := by rfl)
    (hpl : (backTo pos (starEach [] X.env)).any (·.1) = false := by rfl) : PE X (.Call (.Name "int" p) [e] [] pos) (tCB rInt (tCons te tNil)) := pe_callTy call_int1 hg T.int PyProof.Rows.boot_int (pa_cons he pa_nil h1) (he := h1) (hpl := hpl)
def rMax2 : List V → Hp → VK → Prop := fun xs H Q => ∃ i j, xs = [.int i, .int j] ∧ Q (.int (if j > i then j else i)) H
def rMin2 : List V → Hp → VK → Prop := fun xs H Q => ∃ i j, xs = [.int i, .int j] ∧ Q (.int (if j < i then j else i)) H
theorem g_max (T : Txt X.K X.mg) {e c : Expr} {p pos : Pos} (he : PE X e te) (hf : PE X c tf) (hc : X.calm = true := by rfl) (hg : Gl X "max" := by rfl) (h1 : starEach (e :: [c]) X.env = (false, eval e X.env) :: starEach [c] X.env := by rfl) (h2 : starEach (c :: []) X.env = (false, eval c X.env) :: starEach [] X.env := by rfl)
    (hpl : (backTo pos (starEach [c] X.env)).any (·.1) = false := by rfl) : PE X (.Call (.Name "max" p) [e, c] [] pos) (tCB rMax2 (tCons te (tCons tf tNil))) := pe_callB (call_max2 hc) hg T.max PyProof.Rows.boot_max (pa_cons he (pa_cons hf pa_nil h2) h1) (he := h1) (hpl := hpl)
theorem g_min (T : Txt X.K X.mg) {e c : Expr} {p pos : Pos} (he : PE X e te) (hf : PE X c tf) (hc : X.calm = true := by rfl) (hg : Gl X "min" := by rfl) (h1 : starEach (e :: [c]) X.env = (false, eval e X.env) :: starEach [c] X.env := by rfl) (h2 : starEach (c :: []) X.env = (false, eval c X.env) :: starEach [] X.env := by rfl)
    (hpl : (backTo pos (starEach [c] X.env)).any (·.1) = false := by rfl) : PE X (.Call (.Name "min" p) [e, c] [] pos) (tCB rMin2 (tCons te (tCons tf tNil))) := pe_callB (call_min2 hc) hg T.min PyProof.Rows.boot_min (pa_cons he (pa_cons hf pa_nil h2) h1) (he := h1) (hpl := hpl)
def rListC (K : PySem.W.Frag) : List V → Hp → VK → Prop := fun xs H Q => ∃ p ys, xs = [.ref p] ∧ (SqL K H p ys ∨ SqT K H p ys) ∧ ∀ l, H l = none → Q (.ref l) (upd H l (.lst ys))
/-- xs[i] -/
theorem g_ixL {K : PySem.W.Frag} {mg : Str → Option Value} (T : Txt K mg) {a b : Expr} {pos : Pos} (ha : PE X a te) (hb : PE X b tf) (hs : PlainIx b) (hK : X.K = K := by rfl) : PE X (.Subscript a b pos) (tOp (rIxL K) te tf) := by
  subst hK
  exact pe_ix ix_list ha hb hs
theorem g_list {K : PySem.W.Frag} {mg : Str → Option Value} (T : Txt K mg) {e : Expr} {p pos : Pos} (he : PE X e te) (hK : X.K = K := by rfl) (hm : X.mg = mg := by rfl) (hg : Gl X "list" := by rfl) (h1 : starEach (e :: []) X.env = (false, eval e X.env) :: starEach [] X.env := by rfl)
    (hpl : (backTo pos (starEach [] X.env)).any (·.1) = false := by rfl) : PE X (.Call (.Name "list" p) [e] [] pos) (tCB (rListC K) (tCons te tNil)) := by
  subst hK hm
  exact pe_callTy call_list_of hg T.list PyProof.Rows.boot_list (pa_cons he pa_nil h1) (he := h1) (hpl := hpl)
def rSrtD : List V → Hp → VK → Prop := fun xs H Q => ∃ (a : Addr) (kvs : List (Key × V)) (ks : List Str), xs = [.ref a] ∧ Rd H a (.dK kvs) ∧ kvs.map (·.1) = ks.map Sum.inr ∧ ks.length < 64 ∧
    ∀ ys p, ys.Perm ks → PyProof.Rows.sortedS ys = true → H p = none → Q (.ref p) (upd H p (.lst (ys.map V.str)))
theorem g_sortedD (T : Txt X.K X.mg) {e : Expr} {p pos : Pos} (he : PE X e te) (hc : X.calm = true := by rfl) (hg : Gl X "sorted" := by rfl) (h1 : starEach (e :: []) X.env = (false, eval e X.env) :: starEach [] X.env := by rfl)
    (hpl : (backTo pos (starEach [] X.env)).any (·.1) = false := by rfl) : PE X (.Call (.Name "sorted" p) [e] [] pos) (tCB rSrtD (tCons te tNil)) := pe_callB (call_sortedD hc) hg T.sorted boot_sorted (pa_cons he pa_nil h1) (he := h1) (hpl := hpl)
theorem g_sortedS (T : Txt X.K X.mg) {e : Expr} {p pos : Pos} (he : PE X e te) (hg : Gl X "sorted" := by rfl) (h1 : starEach (e :: []) X.env = (false, eval e X.env) :: starEach [] X.env := by rfl)
    (hpl : (backTo pos (starEach [] X.env)).any (·.1) = false := by rfl) : PE X (.Call (.Name "sorted" p) [e] [] pos) (tCB (rSortedS X.K) (tCons te tNil)) := pe_callB cr_sortedS hg T.sorted boot_sorted (pa_cons he pa_nil h1) (he := h1) (hpl := hpl)
def rDctP (K : PySem.W.Frag) : List V → Hp → VK → Prop := fun xs H Q => ∃ (a : Addr) (ps : List Addr) (kvs : List (Key × V)), xs = [.ref a] ∧ SqL K H a (ps.map V.ref) ∧ Paired (fun p kv => SqT K H p [kV kv.1, kv.2]) ps kvs ∧
    ∀ p, H p = none → Q (.ref p) (upd H p (.dK (mergeK [] kvs)))
theorem g_dict (T : Txt X.K X.mg) {e : Expr} {p pos : Pos} (he : PE X e te) (hc : X.calm = true := by rfl) (hg : Gl X "dict" := by rfl) (h1 : starEach (e :: []) X.env = (false, eval e X.env) :: starEach [] X.env := by rfl)
    (hpl : (backTo pos (starEach [] X.env)).any (·.1) = false := by rfl) : PE X (.Call (.Name "dict" p) [e] [] pos) (tCB (rDctP X.K) (tCons te tNil)) := pe_callTy (call_dictP hc) hg T.dict PyProof.Rows.boot_dict (pa_cons he pa_nil h1) (he := h1) (hpl := hpl)
/-- what is new is locked at once (it is walked, and never changed) -/
def tFrz (t : TE) : TE := fun σ H Q => t σ H fun v H1 => ∃ d u, v = .ref d ∧ H1 d = some u ∧ Mut (some u) ∧ ∀ o, Q v (upd H1 d (.frz o u))
theorem pe_frz {e : Expr} {t : TE} (h : PE X e t) : PE X e (tFrz t) := by
  refine ⟨fun pins s σ H Q I hw => ?_⟩
  refine thn (h.run pins s σ H _ I hw) fun v s1 ⟨x, H1, I1, r, d, u, e1, e2, mu, q⟩ => ?_
  obtain ⟨od, I2⟩ := I1.lock e2 mu
  exact ⟨x, _, I2, r, q od⟩
/-- name = {..: .. for ..} on one line, the name a local -/
theorem ps_setDc {i : Nat} {y : Str} {py : Pos} {kx vx tgx iter : Expr} {ifs : List Expr} {scope : Scope} {own : List (Str × Nat)} {pos spos : Pos} {wi : TI} {g : TG} {tt : TT} {tk tv : TE} (hc : X.calm = true) (hN : X.N.Nodup) (hy : X.N[i]? = some y) (hyl : X.env.scope.names.lookup y = some .local)
    (hsw : swapsWith (.DictComp kx vx [⟨tgx, iter, ifs, 0⟩] scope pos) (some (.Name y py)) spos.line X.env = pure true) (hi : PI X tgx iter wi) (ok : BlkOk X.N X.env.scope scope own)
    (hg : ∀ (s : Shared) (H : Hp) (C : Addr) (cl : List (Str × Addr)) (fp : List Addr), PG (X.blk s H scope (compEnvC scope cl C X.env) fp) tgx g) (ht : ∀ (s : Shared) (H : Hp) (C : Addr) (cl : List (Str × Addr)) (fp : List Addr), PTs (X.blk s H scope (compEnvC scope cl C X.env) fp) ifs tt)
    (hk : ∀ (s : Shared) (H : Hp) (C : Addr) (cl : List (Str × Addr)) (fp : List Addr), PE (X.blk s H scope (compEnvC scope cl C X.env) fp) kx tk)
    (he : ∀ (s : Shared) (H : Hp) (C : Addr) (cl : List (Str × Addr)) (fp : List Addr), PE (X.blk s H scope (compEnvC scope cl C X.env) fp) vx tv) (hs : ∀ x, foldedSetIterable iter X.env x = pure x := by intro _; rfl) :
    PS X (.Assign [.Name y py] (.DictComp kx vx [⟨tgx, iter, ifs, 0⟩] scope pos) spos) (tAsg (tDc wi g tt tk tv (own.map (·.2))) (gName i)) := by
  refine ⟨fun pins s σ H D I h => ?_⟩
  rw [exec_Assign_Name_used _ _ _ _ hsw]
  refine wpAny_bind (wpAny_standAt (wpAny_bind ?_))
  show wpAny _ X.A (do let _ ← comprehension (.DictComp kx vx [⟨tgx, iter, ifs, 0⟩] scope pos) scope X.env (firstIterPos [⟨tgx, iter, ifs, 0⟩] pos) newDict false (eval iter X.env) (some (assign (.Name y py) X.env))) _ _ s
  have h : tDc wi g tt tk tv (own.map (·.2)) σ H (fun x H1 => gName i x σ H1 D.nx) := h
  refine wpAny_bind (thn (dc_core (Qf := fun _ s' => SP X pins D .next s') hc hN I hi ok hg ht hk he hs h fun L C s' m H' I' q hn f => ?_) fun _ s' hq => wpAny_pure (wpAny_pure hq))
  show wpAny _ _ (assign (.Name y py) X.env (.ref L)) _ _ _
  refine wpAny_assign_Name (store_ok2 (v := V.ref L) I' hN hy (.inl hyl) rfl (fun s2 I2 ⟨a, sb, ha⟩ => ?_) (.inr hyl))
  obtain ⟨f0, f1, f2, f3, f4, f5⟩ := f
  have haC : C ≠ a := by
    rcases ha with z | z
    · rw [z]; exact f1
    · exact fun e => f4 y a z e.symm
  refine ⟨m, hn.sameBut sb haC, fun h3 sb3 => ?_⟩
  exact ⟨_, H', I2.turned (t' := s2.toks) (fun b o hb e => (sb3.2 b hb).trans e) f0 f1 f3 f4 f5, q⟩
theorem sw_trueD {kx vx : Expr} {gs : List Comprehension} {scope : Scope} {pos py : Pos} {y : Str} {l : Nat} {env : Env} (hk : env.scope.kind = .function) (hy : env.scope.names.lookup y = some .local) (hl : (py.line == pos.line) = true)
    (ha : (scope.names.any fun (n, k) => n == y && (k == .local || k == .cell)) = false) : swapsWith (.DictComp kx vx gs scope pos) (some (.Name y py)) l env = pure true := by
  have ky : env.kindOf y = some .local := hy
  have hb : env.blockKind = .function := by unfold Env.blockKind; rw [hk]; rfl
  unfold swapsWith
  simp only [hb, ky, ha, Expr.pos, hl]
  rfl
/-! methods -/
theorem sw_falseD {kx vx : Expr} {gs : List Comprehension} {scope : Scope} {pos py : Pos} {y : Str} {l : Nat} {env : Env} (hy : env.scope.names.lookup y = some .cell) : swapsWith (.DictComp kx vx gs scope pos) (some (.Name y py)) l env = pure false := by
  have ky : env.kindOf y = some .cell := hy
  unfold swapsWith
  simp only [ky, Expr.pos]
  cases env.blockKind <;> rfl
/-! constants of the top -/
theorem c_letters (T : Txt X.K X.mg) {pos : Pos} (hg : Gl X "LETTERS" := by rfl) : PE X (.Name "LETTERS" pos) (tC (.str "abcdefghijklmnopqrstuvwxyz")) := let ⟨_, h⟩ := T.letters; pe_glob hg h ⟨_, rfl⟩
theorem c_maxl (T : Txt X.K X.mg) {pos : Pos} (hg : Gl X "MAX_LETTERS" := by rfl) : PE X (.Name "MAX_LETTERS" pos) (tC (.int 8)) := let ⟨_, h⟩ := T.maxl; pe_glob hg h ⟨_, rfl⟩
theorem c_maxm (T : Txt X.K X.mg) {pos : Pos} (hg : Gl X "MAX_MEMBERS" := by rfl) : PE X (.Name "MAX_MEMBERS" pos) (tC (.int 12)) := let ⟨_, h⟩ := T.maxm; pe_glob hg h ⟨_, rfl⟩
theorem c_unb (T : Txt X.K X.mg) {pos : Pos} (hg : Gl X "UNBALANCED" := by rfl) : PE X (.Name "UNBALANCED" pos) (tC (.str "unbalanced")) := let ⟨_, h⟩ := T.unb; pe_glob hg h ⟨_, rfl⟩
theorem c_ring (T : Txt X.K X.mg) {pos : Pos} (hg : Gl X "RING" := by rfl) : PE X (.Name "RING" pos) (tC (.str "ring")) := let ⟨_, h⟩ := T.ring; pe_glob hg h ⟨_, rfl⟩
/-! lists of texts compared -/
abbrev LS (H : Hp) (a : Addr) (xs : List Str) : Prop := H a = some (.lst (xs.map V.str))
theorem dpAll_strs {K : PySem.W.Frag} {H : Hp} : ∀ xs : List Str, DpAll K H (xs.map V.str) (xs.map PyData.str)
  | [] => .nil
  | x :: xs => .cons (.str x) (dpAll_strs xs)
theorem dp_strs {K : PySem.W.Frag} {H : Hp} {a : Addr} {xs : List Str} (h : LS H a xs) : Dp K H (.ref a) (.list (xs.map PyData.str)) := .lst (SqL.of h) (dpAll_strs xs)
theorem eqvAll_strs : ∀ xs ys : List Str, PyData.eqvAll (xs.map PyData.str) (ys.map PyData.str) = decide (xs = ys)
  | [], [] => by simp [PyData.eqvAll]
  | x :: xs, y :: ys => by
    show (PyData.eqv (.str x) (.str y) && PyData.eqvAll (xs.map PyData.str) (ys.map PyData.str)) = _
    rw [eqvAll_strs xs ys]
    by_cases e : x = y <;> by_cases e2 : xs = ys <;> simp [PyData.eqv, e, e2]
  | [], _ :: _ => by simp [PyData.eqvAll]
  | _ :: _, [] => by simp [PyData.eqvAll]
abbrev SOk (xs : List Str) : Prop := ∀ x ∈ xs, PyData.strOk x = true
theorem canLay_strs : ∀ xs : List Str, SOk xs → PyData.canLayAll0 (xs.map PyData.str) = true
  | [], _ => by simp [PyData.canLayAll0]
  | x :: xs, h => by
    have h1 := h x (List.mem_cons_self ..)
    have h2 := canLay_strs xs fun y hy => h y (List.mem_cons_of_mem _ hy)
    simp [PyData.canLayAll0, PyData.canLay0, h1, h2]
theorem depth_strs : ∀ xs : List Str, PyData.depthAll (xs.map PyData.str) = 0
  | [] => by simp [PyData.depthAll]
  | x :: xs => by simp [PyData.depthAll, PyData.depth, depth_strs xs]
theorem shaped_strs (xs : List Str) (h : SOk xs) : SeqAt.shaped (.list (xs.map PyData.str)) = true := by
  have h1 := canLay_strs xs h
  simp [SeqAt.shaped, PyData.canLay0, h1, PyData.depth, depth_strs]
def rEqL (H0 : Unit) : R2 := fun x y H Q => ∃ a b xs ys, x = .ref a ∧ y = .ref b ∧ LS H a xs ∧ LS H b ys ∧ SOk xs ∧ SOk ys ∧ Q (.bl (decide (xs = ys))) H
def rNeL (H0 : Unit) : R2 := fun x y H Q => ∃ a b xs ys, x = .ref a ∧ y = .ref b ∧ LS H a xs ∧ LS H b ys ∧ SOk xs ∧ SOk ys ∧ Q (.bl (!decide (xs = ys))) H
theorem op_eqL (hu : X.A.units + 64 < cLine) : OpR X (compareOp .Eq) (rEqL ()) := by
  intro pins s σ H x y v u Q I rx ry h
  obtain ⟨a, b, xs, ys, rfl, rfl, ha, hb, o1, o2, q⟩ := h
  refine op_eqD hu pins s σ H _ _ v u Q I rx ry ⟨_, _, dp_strs ha, dp_strs hb, shaped_strs xs o1, shaped_strs ys o2, ?_⟩
  rw [show PyData.eqv (.list (xs.map PyData.str)) (.list (ys.map PyData.str)) = decide (xs = ys) by rw [PyData.eqv, eqvAll_strs]]
  exact q
theorem op_neL (hu : X.A.units + 64 < cLine) : OpR X (compareOp .NotEq) (rNeL ()) := by
  intro pins s σ H x y v u Q I rx ry h
  obtain ⟨a, b, xs, ys, rfl, rfl, ha, hb, o1, o2, q⟩ := h
  refine op_neD hu pins s σ H _ _ v u Q I rx ry ⟨_, _, dp_strs ha, dp_strs hb, shaped_strs xs o1, shaped_strs ys o2, ?_⟩
  rw [show PyData.eqv (.list (xs.map PyData.str)) (.list (ys.map PyData.str)) = decide (xs = ys) by rw [PyData.eqv, eqvAll_strs]]
  exact q
end

/-! ### readings in short -/
theorem Same.new {H : Hp} {p : Addr} {o : HO} (h : H p = none) : Same H (upd H p o) := fun a u e => by
  rw [upd_ne (ne_of_none e h)]; exact e
theorem Same.mut {H H' : Hp} {p : Addr} {o : HO} (e : Same H H') (h : H p = none) : Same H (upd H' p o) := fun a u ha => by
  rw [upd_ne (ne_of_none ha h)]; exact e a u ha
theorem Same.ls {H H' : Hp} (e : Same H H') {a : Addr} {xs : List Str} (h : LS H a xs) : LS H' a xs := e _ _ h
theorem small {n : Nat} (h : n ≤ 100000) : n < sizeLine := Nat.lt_of_le_of_lt h (by decide)
theorem smallE {n : Nat} (h : n ≤ 100000) : n ≤ sizeLine := Nat.le_of_lt (small h)
section
variable {K : PySem.W.Frag} {H : Hp}
theorem isi_str {z : Str} : Isi K H (.str z) (.ty "str") true := ⟨_, _, .ty _, .base (.str z), kit_ty (by decide +kernel)⟩
theorem isi_int {z : Int} : Isi K H (.int z) (.ty "int") true := ⟨_, _, .ty _, .base (.int z), kit_ty (by decide +kernel)⟩
theorem isi_intb {z : Int} : Isi K H (.int z) (.ty "bool") false := ⟨_, _, .ty _, .base (.int z), kit_ty (by decide +kernel)⟩
theorem isi_lst {a : Addr} {xs : List V} (h : H a = some (.lst xs)) : Isi K H (.ref a) (.ty "list") true := ⟨_, _, .ty _, .base (.lst h), kit_ty (by decide +kernel)⟩
theorem isi_tup {a : Addr} {xs : List V} (h : H a = some (.tup xs)) : Isi K H (.ref a) (.ty "tuple") true := ⟨_, _, .ty _, .base (.tup h), kit_ty (by decide +kernel)⟩
theorem isi_dK {a : Addr} {kvs : List (Key × V)} (h : H a = some (.dK kvs)) : Isi K H (.ref a) (.ty "dict") true := ⟨_, _, .ty _, .base (.dK h), kit_ty (by decide +kernel)⟩
end
theorem inV_strs (x : Str) : ∀ xs : List Str, inV (.str x) (xs.map V.str) = decide (x ∈ xs)
  | [] => rfl
  | y :: ys => by
    have ih := inV_strs x ys
    unfold inV at ih ⊢
    rw [List.map_cons, List.any_cons, ih]
    show ((y == x) || _) = _
    by_cases e : y = x
    · subst e; simp
    · have : ¬ x = y := fun z => e z.symm
      simp [e, this]
theorem flat_strs : ∀ xs : List Str, (xs.map V.str).all flatV = true
  | [] => rfl
  | _ :: xs => by rw [List.map_cons, List.all_cons, flat_strs xs]; rfl
/-- behind a turn of a comprehension: the list at D has grown -/
def LcY (H1 : Hp) (D : Addr) (z : List V) (y : V) (H4 : Hp) : Prop := ∃ acc, H4 D = some (.lst acc) ∧ acc.length < sizeLine ∧ Same H1 (upd H4 D (.lst (acc ++ [y]))) ∧ (upd H4 D (.lst (acc ++ [y]))) D = some (.lst z)
/-- a comprehension whose element is pure: ys i is what stands at D ahead of turn i -/
theorem lc_pure {J : It} {n : Nat} {G : Hp → Prop} {Y : Nat → Hp → V → Hp → Prop} (w : Walk J n G Y) {g : TG} {tt : TT} {te : TE} {vs : List Nat} {σ : St} {H1 : Hp} {Qd : Addr → Hp → Prop} (ys : Nat → List V)
    (h0 : ys 0 = []) (hG : ∀ H', Same H1 H' → G H')
    (hs : ∀ D i x H' H'', i < n → H1 D = none → Same H1 H' → H' D = some (.lst (ys i)) → Y i H' x H'' → g x (wipe σ vs) H'' fun σ2 H2 => wipe σ2 vs = wipe σ vs ∧ tt σ2 H2 fun b H3 =>
      if b = true then te σ2 H3 fun y H4 => LcY H1 D (ys (i + 1)) y H4 else Same H1 H3 ∧ H3 D = some (.lst (ys (i + 1))))
    (hd : ∀ D H', H1 D = none → Same H1 H' → H' D = some (.lst (ys n)) → Qd D H') :
    ∀ D, H1 D = none → ∃ W : Nat → Nat → Hp → Prop, (∃ m, W 0 m (upd H1 D (.lst []))) ∧ ∀ i m H, W i m H →
      (J.stop i H ∧ Qd D H) ∨ (J.go i H ∧ ∃ Nx : Hp → Prop, (∀ H', Nx H' → ∃ m', m' < m ∧ W (i + 1) m' H') ∧ ∀ x H', J.yld i H x H' → g x (wipe σ vs) H' fun σ2 H2 => wipe σ2 vs = wipe σ vs ∧ tt σ2 H2 fun b H3 =>
        if b = true then te σ2 H3 fun y H4 => ∃ acc, H4 D = some (.lst acc) ∧ acc.length < sizeLine ∧ Nx (upd H4 D (.lst (acc ++ [y]))) else Nx H3) := fun D hD =>
  lc_it w (Qd := fun H => Qd D H) (fun i H' => Same H1 H' ∧ H' D = some (.lst (ys i))) ⟨Same.new hD, by rw [h0]; exact upd_same⟩ (fun i H' _ p => hG H' p.1) (fun i x H' H'' hi p y => hs D i x H' H'' hi hD p.1 p.2 y) (fun H' p => hd D H' hD p.1 p.2)
theorem lcY {H1 H' H4 : Hp} {D : Addr} {z xs : List V} {y : V} (hD : H1 D = none) (s1 : Same H1 H') (hd : H' D = some (.lst xs)) (s2 : Same H' H4) (hl : xs.length < sizeLine) (e : z = xs ++ [y]) : LcY H1 D z y H4 :=
  ⟨xs, s2 _ _ hd, hl, Same.mut (s1.trans s2) hD, by rw [e]; exact upd_same⟩
end G

set_option maxHeartbeats 4000000
namespace G
open PySem L2
theorem iteDT {c A B : Prop} [Decidable c] (hc : c) (h : A) : if decide c = true then A else B := by
  rw [decide_eq_true hc]; exact iteT h
theorem iteDF {c A B : Prop} [Decidable c] (hc : ¬ c) (h : B) : if decide c = true then A else B := by
  rw [decide_eq_false hc]; exact iteF h
theorem iteNT {c A B : Prop} [Decidable c] (hc : ¬ c) (h : A) : if (!decide c) = true then A else B := by
  rw [decide_eq_false hc]; exact iteT h
theorem iteNB {b : Bool} {A B : Prop} (hc : b = true) (h : B) : if (!b) = true then A else B := by
  rw [hc]; exact iteF h
/-! ### names, members, histories -/
def NameOk (z : Str) : Prop := 1 ≤ z.length ∧ z.length ≤ 8 ∧ ∀ c ∈ z.cps.toList, c ∈ ("abcdefghijklmnopqrstuvwxyz" : Str).cps.toList
def ltS (a b : Str) : Prop := a.cps.toList < b.cps.toList
structure Ms (ms : List Str) : Prop where
  nm : ∀ z ∈ ms, NameOk z
  srt : ms.Pairwise ltS
  l1 : 1 ≤ ms.length
  l12 : ms.length ≤ 12
theorem strOk_of {z : Str} (h : NameOk z) : PyData.strOk z = true := by
  unfold PyData.strOk
  rw [← Array.all_toList]
  refine List.all_eq_true.mpr fun c hc => ?_
  have h1 := h.2.2 c hc
  have h2 : ∀ c ∈ ("abcdefghijklmnopqrstuvwxyz" : Str).cps.toList, (c < 0x110000 : Bool) = true := by decide +kernel
  exact h2 c h1
theorem Ms.sOk {ms : List Str} (h : Ms ms) : SOk ms := fun z hz => strOk_of (h.nm z hz)
theorem ltS_irr (a : Str) : ¬ ltS a a := List.lt_irrefl _
theorem Ms.nd {ms : List Str} (h : Ms ms) : ms.Nodup := List.Pairwise.imp (fun {a b} (q : ltS a b) (e : a = b) => ltS_irr b (by rw [e] at q; exact q)) h.srt
theorem Ms.sOkL {ms xs : List Str} (h : Ms ms) (hx : ∀ x ∈ xs, x ∈ ms) : SOk xs := fun x q => h.sOk x (hx x q)
structure Hist (ms h : List Str) : Prop where
  ne : h ≠ []
  mem : ∀ x ∈ h, x ∈ ms
  alt : GM.Alt h
  len : h.length ≤ 100
/-- xs[1:] -/
theorem cut1 (xs : List V) : cutV xs (some 1) none = xs.drop 1 := by
  unfold cutV
  rw [show HT.sIx xs.length 0 (some 1) = min 1 xs.length from HT.sIx_nat _ _ 1, HT.sIx_none]
  cases xs with
  | nil => rfl
  | cons a t =>
    have e : min 1 (a :: t).length = 1 := by simp
    rw [e]
    exact List.take_of_length_le (by simp)
section
variable {P : Program} {w : World} {K : PySem.W.Frag} {mg : Str → Option Value} {base : Heap}
/-! ### is_name -/
abbrev sIsName : Stmt := top 11
theorem scIsName : FnScope ["value", "letter"] ["value"] (defScope sIsName) := ⟨rfl, rfl, rfl, by decide +kernel, rfl, by decide +kernel, by decide +kernel⟩
def spIsName : Sp := fun vs H Q _ => ∃ z : Str, vs = [.str z] ∧ NameOk z ∧ ∀ H', Same H H' → Q (.bl true) H'
theorem ok_is_name {f : Addr} {fd : FuncData} (F : Fun K "is_name" "is_name" sIsName f fd) (T : Txt K mg) : FnOk P w K mg base CX0 1 f fd ["value"] spIsName := by
  refine F.ok scIsName (fun vs H Q E h => ?_) (fun cdv A outer s H vs Q E hr h => ?_)
  · obtain ⟨z, rfl, _⟩ := h
    rfl
  · obtain ⟨z, rfl, ⟨h1, h8, hc⟩, k⟩ := h
    have hu := hu_of hr
    refine ⟨_, (pss_cons (ps_if (PW.pt (pw_or (pt_not (pt_val (g_isi T (pv 0) (pe_bltn (v := .ty "str") (by rfl) T.str PyProof.Rows.boot_str rfl)))) (pw_or1 (pt_not (pt_chain op_le op_le pe_int (g_lenS T (pv 0)) (c_maxl T)))))) (pss_one (ps_ret pe_bl)) pss_nil)
        (pss_one (ps_ret (g_all T (pe_lc (own := [("letter", 1)]) (g := gName 1) (tt := tYes) rfl scIsName.nd (pi_str (pv 0)) (blkOk_by (N := ["value", "letter"]) (sc := defScope sIsName) (by decide +kernel)) (fun _ _ _ _ _ => pg_name (i := 1) scIsName.nd rfl (by first | exact Or.inl rfl | exact Or.inr rfl)) (fun _ _ _ _ _ => pts_nil) (fun _ _ _ _ _ => (pe_cmpR op_in_sign (pv 1) (c_letters T) rfl))))))), ?_⟩
    refine ⟨_, rfl, _, _, true, rfl, isi_str, _, rfl, iteF ?_⟩
    refine ⟨_, rfl, z, rfl, smallE (by omega), _, _, rfl, rfl, _, rfl, iteDT (by omega) ⟨_, _, rfl, rfl, _, rfl, iteNS (by omega) ?_⟩⟩
    refine ⟨_, rfl, z, rfl, lc_pure walk_str reps rfl (fun _ _ => trivial) (fun D i x H' H'' hi hD s1 d1 y => ?_) (fun D H' hD s1 d1 => ⟨D, _, rfl, d1, k _ s1⟩)⟩
    obtain ⟨rfl, c, hc1, rfl⟩ := y
    refine ⟨rfl, ?_⟩
    refine ⟨_, rfl, c, _, rfl, rfl, ?_⟩
    have m : c ∈ z.cps.toList := by
      rw [Array.mem_toList_iff]
      exact Array.mem_of_getElem? hc1
    rw [decide_eq_true (hc c m)]
    have hsz : z.cps.size ≤ 8 := h8
    exact lcY hD s1 d1 (Same.refl _) (small (by rw [reps_len]; omega)) (reps_succ i)
/-! ### is_members -/
abbrev sIsMembers : Stmt := top 12
theorem scIsMembers : FnScope ["value", "one", "other", "member"] ["value"] (defScope sIsMembers) := ⟨rfl, rfl, rfl, by decide +kernel, rfl, by decide +kernel, by decide +kernel⟩
def spIsMembers : Sp := fun vs H Q _ => ∃ m ms, vs = [.ref m] ∧ LS H m ms ∧ Ms ms ∧ ∀ H', Same H H' → Q (.bl true) H'
theorem ok_is_members {f : Addr} {fd : FuncData} (F : Fun K "is_members" "is_members" sIsMembers f fd) (T : Txt K mg) (Dis_name : Dn P w K mg base CX0 1 "is_name" ["value"] spIsName) : FnOk P w K mg base CX0 2 f fd ["value"] spIsMembers := by
  refine F.ok scIsMembers (fun vs H Q E h => ?_) (fun cdv A outer s H vs Q E hr h => ?_)
  · obtain ⟨m, ms, rfl, _⟩ := h
    rfl
  · obtain ⟨m, ms, rfl, hm, M, k⟩ := h
    have hu := hu_of hr
    have h1 := M.l1
    have h12 := M.l12
    have hlen : (ms.map V.str).length = ms.length := List.length_map ..
    refine ⟨_, (pss_cons (ps_if (PW.pt (pw_or (pt_not (pt_val (g_isi T (pv 0) (pe_bltn (v := .ty "list") (by rfl) T.list PyProof.Rows.boot_list rfl)))) (pw_or1 (pt_not (pt_chain op_le op_le pe_int (g_lenL T (pv 0)) (c_maxm T)))))) (pss_one (ps_ret pe_bl)) pss_nil)
        (pss_cons (ps_if (pt_not (pt_val (g_all T (pe_lc (own := [("member", 3)]) (g := gName 3) (tt := tYes) rfl scIsMembers.nd (pi_list (pv 0)) (blkOk_by (N := ["value", "one", "other", "member"]) (sc := defScope sIsMembers) (by decide +kernel)) (fun _ _ _ _ _ => pg_name (i := 3) scIsMembers.nd rfl (by first | exact Or.inl rfl | exact Or.inr rfl)) (fun _ _ _ _ _ => pts_nil) (fun _ _ _ _ _ => (call_dn Dis_name hr (pa_cons (pv 3) pa_nil))))))) (pss_one (ps_ret pe_bl)) pss_nil)
        (pss_one (ps_ret (g_all T (pe_lc (own := [("one", 1), ("other", 2)]) (g := gTup _ 2 (gCons (gName 1) (gCons (gName 2) gNil))) (tt := tYes) rfl scIsMembers.nd (pi_zip (by rfl) T.zip (pa_cons (pv 0) (pa_cons (pe_slice sl_list (pv 0) (po_some pe_int) po_none) pa_nil))) (blkOk_by (N := ["value", "one", "other", "member"]) (sc := defScope sIsMembers) (by decide +kernel)) (fun _ _ _ _ _ => (pg_tup rfl (pgs_cons (pg_name (i := 1) scIsMembers.nd rfl (by first | exact Or.inl rfl | exact Or.inr rfl)) (pgs_cons (pg_name (i := 2) scIsMembers.nd rfl (by first | exact Or.inl rfl | exact Or.inr rfl)) pgs_nil)))) (fun _ _ _ _ _ => pts_nil) (fun _ _ _ _ _ => (pe_cmpR op_lt_str (pv 1) (pv 2) (nomark _))))))))), ?_⟩
    refine ⟨_, rfl, _, _, true, rfl, isi_lst hm, _, rfl, iteF ?_⟩
    refine ⟨_, rfl, m, _, rfl, .inl (SqL.of hm), _, _, rfl, rfl, _, rfl, iteDT (by omega) ⟨_, _, rfl, rfl, _, rfl, iteNS (by omega) ?_⟩⟩
    -- all names
    refine ⟨_, rfl, m, rfl, ⟨_, SqL.of hm⟩, lc_pure walk_list reps rfl (fun _ e => Same.seq e (SqL.of hm)) (fun D i x H' H'' hi hD s1 d1 y => ?_) (fun D H1 hD s1 d1 => ⟨D, _, rfl, d1, _, rfl, iteF ?_⟩)⟩
    · obtain ⟨rfl, hx⟩ := y
      obtain ⟨z, hz, rfl⟩ := List.mem_map.mp (List.mem_of_getElem? hx)
      refine ⟨rfl, ⟨_, rfl, z, rfl, M.nm z hz, fun H3 s3 => ?_⟩⟩
      exact lcY hD s1 d1 s3 (small (by rw [reps_len]; omega)) (reps_succ i)
    -- ascending
    · have hm1 := Same.ls s1 hm
      refine ⟨_, rfl, _, rfl, _, rfl, m, _, rfl, SqL.of hm1, fun p hp => ?_⟩
      rw [cut1]
      have s2 : Same H (upd H1 p (.lst ((ms.map V.str).drop 1))) := Same.trans s1 (Same.new hp)
      have hm2 : LS (upd H1 p (.lst ((ms.map V.str).drop 1))) m ms := Same.ls s2 hm
      refine ⟨m, p, ms.map V.str, (ms.map V.str).drop 1, rfl, SqL.of hm2, SqL.of upd_same, lc_pure (walk_zip rfl) reps rfl (fun _ e => ⟨Same.seq e (SqL.of hm2), Same.seq e (SqL.of upd_same)⟩) (fun D i x H' H'' hi hD s3 d3 y => ?_) (fun D H3 hD s3 d3 => ⟨D, _, rfl, d3, k _ (Same.trans s2 s3)⟩)⟩
      obtain ⟨t, x1, x2, rfl, ht, rfl, e1, e2⟩ := y
      have hi1 : i < ms.length := by have := List.length_drop (i := 1) (l := ms.map V.str); omega
      have e1 : (ms.map V.str)[i]? = some x1 := e1
      have e2 : ((ms.map V.str).drop 1)[i]? = some x2 := e2
      rw [List.getElem?_map] at e1
      rw [List.getElem?_drop, List.getElem?_map] at e2
      obtain ⟨z1, q1, rfl⟩ : ∃ z1, ms[i]? = some z1 ∧ x1 = .str z1 := by
        cases q : ms[i]? with
        | none => rw [q] at e1; cases e1
        | some z1 => rw [q] at e1; exact ⟨z1, rfl, (Option.some.inj e1).symm⟩
      obtain ⟨z2, q2, rfl⟩ : ∃ z2, ms[1 + i]? = some z2 ∧ x2 = .str z2 := by
        cases q : ms[1 + i]? with
        | none => rw [q] at e2; cases e2
        | some z1 => rw [q] at e2; exact ⟨z1, rfl, (Option.some.inj e2).symm⟩
      have hlt : ltS z1 z2 := by
        obtain ⟨g1, g2⟩ := List.getElem?_eq_some_iff.mp q1
        obtain ⟨g3, g4⟩ := List.getElem?_eq_some_iff.mp q2
        rw [← g2, ← g4]
        exact List.pairwise_iff_getElem.mp M.srt i (1 + i) g1 g3 (by omega)
      refine ⟨t, _, rfl, SqT.of upd_same, rfl, _, _, rfl, _, _, rfl, rfl, rfl, _, rfl, _, rfl, _, _, rfl, rfl, ?_⟩
      rw [decide_eq_true (show z1.cps.toList < z2.cps.toList from hlt)]
      exact lcY hD s3 d3 (Same.new ht) (small (by rw [reps_len]; omega)) (reps_succ i)
/-! ### need_members -/
abbrev sNeedMembers : Stmt := top 13
theorem scNeedMembers : FnScope ["members"] ["members"] (defScope sNeedMembers) := ⟨rfl, rfl, rfl, by decide +kernel, rfl, by decide +kernel, by decide +kernel⟩
def spNeedMembers : Sp := fun vs H Q _ => ∃ m ms, vs = [.ref m] ∧ LS H m ms ∧ Ms ms ∧ ∀ H', Same H H' → Q .non H'
theorem ok_need_members {f : Addr} {fd : FuncData} (F : Fun K "need_members" "need_members" sNeedMembers f fd) (T : Txt K mg) (Dis_members : Dn P w K mg base CX0 2 "is_members" ["value"] spIsMembers) : FnOk P w K mg base CX0 3 f fd ["members"] spNeedMembers := by
  refine F.ok scNeedMembers (fun vs H Q E h => ?_) (fun cdv A outer s H vs Q E hr h => ?_)
  · obtain ⟨m, ms, rfl, _⟩ := h
    rfl
  · obtain ⟨m, ms, rfl, hm, M, k⟩ := h
    refine ⟨_, (pss_one (ps_if (pt_not (pt_val (call_dn Dis_members hr (pa_cons (pv 0) pa_nil)))) (pss_one ps_never) pss_nil)), ?_⟩
    exact ⟨_, rfl, m, ms, rfl, hm, M, fun H1 s1 => ⟨_, rfl, iteF (k H1 s1)⟩⟩
/-! ### is_member, need_member -/
abbrev sIsMember : Stmt := top 14
theorem scIsMember : FnScope ["members", "value"] ["members", "value"] (defScope sIsMember) := ⟨rfl, rfl, rfl, by decide +kernel, rfl, by decide +kernel, by decide +kernel⟩
def spIsMember : Sp := fun vs H Q _ => ∃ m ms v, vs = [.ref m, .str v] ∧ LS H m ms ∧ Q (.bl (decide (v ∈ ms))) H
theorem ok_is_member {f : Addr} {fd : FuncData} (F : Fun K "is_member" "is_member" sIsMember f fd) (T : Txt K mg) : FnOk P w K mg base CX0 1 f fd ["members", "value"] spIsMember := by
  refine F.ok scIsMember (fun vs H Q E h => ?_) (fun cdv A outer s H vs Q E hr h => ?_)
  · obtain ⟨m, ms, v, rfl, _⟩ := h
    rfl
  · obtain ⟨m, ms, v, rfl, hm, k⟩ := h
    refine ⟨_, (pss_one (ps_ret (pe_and (g_isi T (pv 1) (pe_bltn (v := .ty "str") (by rfl) T.str PyProof.Rows.boot_str rfl)) (pe_one (pe_cmpR op_in_seq (pv 1) (pv 0) rfl))))), ?_⟩
    refine ⟨_, rfl, _, _, true, rfl, isi_str, _, rfl, iteT ⟨_, rfl, _, rfl, m, _, rfl, .inl (SqL.of hm), rfl, flat_strs ms, ?_⟩⟩
    show Q (.bl (inV (.str v) (ms.map V.str))) H
    rw [inV_strs]
    exact k
abbrev sNeedMember : Stmt := top 15
theorem scNeedMember : FnScope ["members", "value"] ["members", "value"] (defScope sNeedMember) := ⟨rfl, rfl, rfl, by decide +kernel, rfl, by decide +kernel, by decide +kernel⟩
def spNeedMember : Sp := fun vs H Q _ => ∃ m ms v, vs = [.ref m, .str v] ∧ LS H m ms ∧ v ∈ ms ∧ Q .non H
theorem ok_need_member {f : Addr} {fd : FuncData} (F : Fun K "need_member" "need_member" sNeedMember f fd) (T : Txt K mg) (Dis_member : Dn P w K mg base CX0 1 "is_member" ["members", "value"] spIsMember) : FnOk P w K mg base CX0 2 f fd ["members", "value"] spNeedMember := by
  refine F.ok scNeedMember (fun vs H Q E h => ?_) (fun cdv A outer s H vs Q E hr h => ?_)
  · obtain ⟨m, ms, v, rfl, _⟩ := h
    rfl
  · obtain ⟨m, ms, v, rfl, hm, hv, k⟩ := h
    refine ⟨_, (pss_one (ps_if (pt_not (pt_val (call_dn Dis_member hr (pa_cons (pv 0) (pa_cons (pv 1) pa_nil))))) (pss_one ps_never) pss_nil)), ?_⟩
    exact ⟨_, rfl, _, rfl, m, ms, v, rfl, hm, _, rfl, iteNS hv k⟩
/-! ### is_history, need_history -/
abbrev sIsHistory : Stmt := top 16
theorem scIsHistory : FnScope ["members", "value", "one", "other"] ["members", "value"] (defScope sIsHistory) := ⟨rfl, rfl, rfl, by decide +kernel, rfl, by decide +kernel, by decide +kernel⟩
def spIsHistory : Sp := fun vs H Q _ => ∃ m ms a h, vs = [.ref m, .ref a] ∧ LS H m ms ∧ Ms ms ∧ LS H a h ∧ Hist ms h ∧ ∀ H', Same H H' → Q (.bl true) H'
theorem ok_is_history {f : Addr} {fd : FuncData} (F : Fun K "is_history" "is_history" sIsHistory f fd) (T : Txt K mg) (Dneed_members : Dn P w K mg base CX0 3 "need_members" ["members"] spNeedMembers) (Dis_member : Dn P w K mg base CX0 1 "is_member" ["members", "value"] spIsMember) :
    FnOk P w K mg base CX0 4 f fd ["members", "value"] spIsHistory := by
  refine F.ok scIsHistory (fun vs H Q E h => ?_) (fun cdv A outer s H vs Q E hr h => ?_)
  · obtain ⟨m, ms, a, h, rfl, _⟩ := h
    rfl
  · obtain ⟨m, ms, a, h, rfl, hm, M, ha, Hh, k⟩ := h
    have hl := Hh.len
    have hlen : (h.map V.str).length = h.length := List.length_map ..
    refine ⟨_, (pss_cons (ps_expr (call_dn Dneed_members hr (pa_cons (pv 0) pa_nil)))
        (pss_cons (ps_if (PW.pt (pw_or (pt_not (pt_val (g_isi T (pv 1) (pe_bltn (v := .ty "list") (by rfl) T.list PyProof.Rows.boot_list rfl)))) (pw_or (pt_cmpR (op_eqL hr.units) (pv 1) (pe_lst pa_nil) (nomark _)) (pw_or1 (pt_not (pt_val (g_all T (pe_lc (own := [("one", 2)]) (g := gName 2) (tt := tYes) rfl scIsHistory.nd (pi_list (pv 1)) (blkOk_by (N := ["members", "value", "one", "other"]) (sc := defScope sIsHistory) (by decide +kernel)) (fun _ _ _ _ _ => pg_name (i := 2) scIsHistory.nd rfl (by first | exact Or.inl rfl | exact Or.inr rfl)) (fun _ _ _ _ _ => pts_nil) (fun _ _ _ _ _ => (call_dn Dis_member hr (pa_cons (pv 0) (pa_cons (pv 2) pa_nil)))))))))))) (pss_one (ps_ret pe_bl)) pss_nil)
        (pss_one (ps_ret (g_all T (pe_lc (own := [("one", 2), ("other", 3)]) (g := gTup _ 2 (gCons (gName 2) (gCons (gName 3) gNil))) (tt := tYes) rfl scIsHistory.nd (pi_zip (by rfl) T.zip (pa_cons (pv 1) (pa_cons (pe_slice sl_list (pv 1) (po_some pe_int) po_none) pa_nil))) (blkOk_by (N := ["members", "value", "one", "other"]) (sc := defScope sIsHistory) (by decide +kernel)) (fun _ _ _ _ _ => (pg_tup rfl (pgs_cons (pg_name (i := 2) scIsHistory.nd rfl (by first | exact Or.inl rfl | exact Or.inr rfl)) (pgs_cons (pg_name (i := 3) scIsHistory.nd rfl (by first | exact Or.inl rfl | exact Or.inr rfl)) pgs_nil)))) (fun _ _ _ _ _ => pts_nil) (fun _ _ _ _ _ => (pe_cmpR op_ne (pv 2) (pv 3) (nomark _))))))))), ?_⟩
    refine ⟨_, rfl, m, ms, rfl, hm, M, fun H1 s1 => ?_⟩
    have ha1 := Same.ls s1 ha
    have hm1 := Same.ls s1 hm
    refine ⟨_, rfl, _, _, true, rfl, isi_lst ha1, _, rfl, iteF ?_⟩
    -- not empty
    refine ⟨_, rfl, by show 0 ≤ sizeLine; exact Nat.zero_le _, fun p hp => ⟨a, p, h, [], rfl, rfl, Same.ls (Same.new hp) ha1, upd_same, M.sOkL Hh.mem, (fun _ z => nomatch z), _, rfl, iteDF Hh.ne ?_⟩⟩
    have s2 : Same H (upd H1 p (.lst [])) := Same.trans s1 (Same.new hp)
    -- all members
    refine ⟨_, rfl, a, rfl, ⟨_, SqL.of (Same.ls s2 ha)⟩, lc_pure walk_list reps rfl (fun _ e => Same.seq e (SqL.of (Same.ls s2 ha))) (fun D i x H' H'' hi hD s3 d3 y => ?_) (fun D H3 hD s3 d3 => ⟨D, _, rfl, d3, _, rfl, iteF ?_⟩)⟩
    · obtain ⟨rfl, hx⟩ := y
      obtain ⟨z, hz, rfl⟩ := List.mem_map.mp (List.mem_of_getElem? hx)
      refine ⟨rfl, ⟨_, rfl, _, rfl, m, ms, z, rfl, Same.ls (Same.trans s2 s3) hm, ?_⟩⟩
      rw [decide_eq_true (Hh.mem z hz)]
      exact lcY hD s3 d3 (Same.refl _) (small (by rw [reps_len]; omega)) (reps_succ i)
    -- neighbours differ
    · have s4 := Same.trans s2 s3
      refine ⟨_, rfl, _, rfl, _, rfl, a, _, rfl, SqL.of (Same.ls s4 ha), fun p2 hp2 => ?_⟩
      rw [cut1]
      have s5 : Same H (upd H3 p2 (.lst ((h.map V.str).drop 1))) := Same.trans s4 (Same.new hp2)
      have ha5 := Same.ls s5 ha
      refine ⟨a, p2, h.map V.str, (h.map V.str).drop 1, rfl, SqL.of ha5, SqL.of upd_same, lc_pure (walk_zip rfl) reps rfl (fun _ e => ⟨Same.seq e (SqL.of ha5), Same.seq e (SqL.of upd_same)⟩) (fun D i x H' H'' hi hD s6 d6 y => ?_) (fun D H6 hD s6 d6 => ⟨D, _, rfl, d6, k _ (Same.trans s5 s6)⟩)⟩
      obtain ⟨t, x1, x2, rfl, ht, rfl, e1, e2⟩ := y
      have hi1 : i < h.length := by have := List.length_drop (i := 1) (l := h.map V.str); omega
      have e1 : (h.map V.str)[i]? = some x1 := e1
      have e2 : ((h.map V.str).drop 1)[i]? = some x2 := e2
      rw [List.getElem?_map] at e1
      rw [List.getElem?_drop, List.getElem?_map] at e2
      obtain ⟨z1, q1, rfl⟩ : ∃ z1, h[i]? = some z1 ∧ x1 = .str z1 := by
        cases q : h[i]? with
        | none => rw [q] at e1; cases e1
        | some z1 => rw [q] at e1; exact ⟨z1, rfl, (Option.some.inj e1).symm⟩
      obtain ⟨z2, q2, rfl⟩ : ∃ z2, h[1 + i]? = some z2 ∧ x2 = .str z2 := by
        cases q : h[1 + i]? with
        | none => rw [q] at e2; cases e2
        | some z1 => rw [q] at e2; exact ⟨z1, rfl, (Option.some.inj e2).symm⟩
      have hne : z1 ≠ z2 := Hh.alt.at q1 (by rw [Nat.add_comm]; exact q2)
      refine ⟨t, _, rfl, SqT.of upd_same, rfl, _, _, rfl, _, _, rfl, rfl, rfl, _, rfl, _, rfl, rfl, ?_⟩
      rw [decide_eq_false (show ¬ (V.str z1 = V.str z2) from fun e => hne (V.str.inj e))]
      exact lcY hD s6 d6 (Same.new ht) (small (by rw [reps_len]; omega)) (reps_succ i)
abbrev sNeedHistory : Stmt := top 17
theorem scNeedHistory : FnScope ["members", "history"] ["members", "history"] (defScope sNeedHistory) := ⟨rfl, rfl, rfl, by decide +kernel, rfl, by decide +kernel, by decide +kernel⟩
def spNeedHistory : Sp := fun vs H Q _ => ∃ m ms a h, vs = [.ref m, .ref a] ∧ LS H m ms ∧ Ms ms ∧ LS H a h ∧ Hist ms h ∧ ∀ H', Same H H' → Q .non H'
theorem ok_need_history {f : Addr} {fd : FuncData} (F : Fun K "need_history" "need_history" sNeedHistory f fd) (T : Txt K mg) (Dis_history : Dn P w K mg base CX0 4 "is_history" ["members", "value"] spIsHistory) : FnOk P w K mg base CX0 5 f fd ["members", "history"] spNeedHistory := by
  refine F.ok scNeedHistory (fun vs H Q E h => ?_) (fun cdv A outer s H vs Q E hr h => ?_)
  · obtain ⟨m, ms, a, h, rfl, _⟩ := h
    rfl
  · obtain ⟨m, ms, a, h, rfl, hm, M, ha, Hh, k⟩ := h
    refine ⟨_, (pss_one (ps_if (pt_not (pt_val (call_dn Dis_history hr (pa_cons (pv 0) (pa_cons (pv 1) pa_nil))))) (pss_one ps_never) pss_nil)), ?_⟩
    exact ⟨_, rfl, _, rfl, m, ms, a, h, rfl, hm, M, ha, Hh, fun H1 s1 => ⟨_, rfl, iteF (k H1 s1)⟩⟩
end
end G

set_option maxHeartbeats 4000000
namespace G
open PySem L2
/-! ### dicts whose keys are members -/
def kvM (f : Str → V) (ms : List Str) : List (Key × V) := ms.map fun m => (Sum.inr m, f m)
theorem kvM_len (f : Str → V) (ms : List Str) : (kvM f ms).length = ms.length := by unfold kvM; simp
theorem valV_kvM (f : Str → V) (x : Str) : ∀ ms : List Str, valV (kvM f ms) (Sum.inr x) = if x ∈ ms then some (f x) else none
  | [] => rfl
  | m :: ms => by
    show valV ((Sum.inr m, f m) :: kvM f ms) (Sum.inr x) = _
    by_cases e : m = x
    · subst e
      rw [valV_pos (p := (Sum.inr m, f m)) rfl, if_pos (List.mem_cons_self ..)]
    · rw [valV_neg (p := (Sum.inr m, f m)) (fun z => e (Sum.inr.inj z)), valV_kvM f x ms]
      have : (x ∈ m :: ms) = (x ∈ ms) := by
        apply propext
        constructor
        · intro h
          rcases List.mem_cons.mp h with q | q
          · exact absurd q.symm e
          · exact q
        · exact List.mem_cons_of_mem _
      simp [this]
theorem valV_kvM_in {f : Str → V} {x : Str} {ms : List Str} (h : x ∈ ms) : valV (kvM f ms) (Sum.inr x) = some (f x) := by rw [valV_kvM, if_pos h]
theorem valV_kvM_no {f : Str → V} {x : Str} {ms : List Str} (h : x ∉ ms) : valV (kvM f ms) (Sum.inr x) = none := by rw [valV_kvM, if_neg h]
theorem kvM_congr {f g : Str → V} {ms : List Str} (h : ∀ x ∈ ms, f x = g x) : kvM f ms = kvM g ms := by
  unfold kvM
  exact List.map_congr_left fun x hx => by rw [h x hx]
theorem kvM_snoc (f : Str → V) (ms : List Str) (x : Str) : kvM f (ms ++ [x]) = kvM f ms ++ [(Sum.inr x, f x)] := by
  unfold kvM; rw [List.map_append]; rfl
theorem take_snoc {α : Type} {l : List α} {i : Nat} {x : α} (h : l[i]? = some x) : l.take (i + 1) = l.take i ++ [x] := by
  rw [List.take_add_one, h]; rfl
theorem nd_take {α : Type} {l : List α} (hn : l.Nodup) {i : Nat} {x : α} (h : l[i]? = some x) : x ∉ l.take i := by
  intro m
  obtain ⟨j, hj⟩ := List.getElem?_of_mem m
  have hlt : j < i := by
    have := (List.getElem?_eq_some_iff.mp hj).1
    rw [List.length_take] at this; omega
  rw [List.getElem?_take_of_lt hlt] at hj
  have := nd_ix hn h hj
  omega
theorem putK_new' {f : Str → V} {ms : List Str} {x : Str} (v : V) (h : x ∉ ms) : putK (kvM f ms) (Sum.inr x) v = kvM f ms ++ [(Sum.inr x, v)] := putK_new v (valV_kvM_no h)
theorem putK_old {f : Str → V} {ms : List Str} {x : Str} (v : V) (h : x ∈ ms) : putK (kvM f ms) (Sum.inr x) v = kvM (fun y => if y = x then v else f y) ms := by
  unfold putK
  rw [valV_any, valV_kvM_in h, if_pos (show (some (f x)).isSome = true from rfl)]
  unfold kvM
  rw [List.map_map]
  refine List.map_congr_left fun y hy => ?_
  show (if (Sum.inr y : Key) = Sum.inr x then ((Sum.inr y : Key), v) else (Sum.inr y, f y)) = (Sum.inr y, if y = x then v else f y)
  by_cases e : y = x
  · rw [if_pos e, if_pos (by rw [e])]
  · rw [if_neg e, if_neg (fun z => e (Sum.inr.inj z))]
theorem kvM_keys (f : Str → V) (ms : List Str) : (kvM f ms).map (·.1) = ms.map Sum.inr := by
  unfold kvM; rw [List.map_map]; rfl
theorem kvM_get {f : Str → V} {ms : List Str} {i : Nat} {x : Str} (h : ms[i]? = some x) : (kvM f ms)[i]? = some (Sum.inr x, f x) := by
  unfold kvM; rw [List.getElem?_map, h]; rfl
/-- a dict at d: the members, in order, f of each -/
abbrev DM (H : Hp) (d : Addr) (ms : List Str) (f : Str → V) : Prop := H d = some (.dK (kvM f ms))
theorem dget {H : Hp} {d : Addr} {ms : List Str} {f : Str → V} {x : Str} (h : DM H d ms f) (hx : x ∈ ms) : DGet H d (.str x) (some (f x)) := by
  have := DGet.k (k := Sum.inr x) h
  rw [valV_kvM_in hx] at this
  exact this
theorem dgetF {H : Hp} {d : Addr} {ms : List Str} {f : Str → V} {x : Str} {o : Obj} (h : H d = some (.frz o (.dK (kvM f ms)))) (hx : x ∈ ms) : DGet H d (.str x) (some (f x)) :=
  .inl ⟨kvM f ms, Sum.inr x, .inr ⟨o, h⟩, rfl, (valV_kvM_in hx).symm⟩
theorem dhas {H : Hp} {d : Addr} {ms : List Str} {f : Str → V} (x : Str) (h : DM H d ms f) : DGet H d (.str x) (if x ∈ ms then some (f x) else none) := by
  have := DGet.k (k := Sum.inr x) h
  rw [valV_kvM] at this
  exact this
/-- lists of members at d, the list of x at ad x -/
structure DL (H : Hp) (d : Addr) (ms : List Str) (ad : Str → Addr) (L : Str → List Str) : Prop where
  dk : DM H d ms (fun x => .ref (ad x))
  l : ∀ x ∈ ms, LS H (ad x) (L x)
theorem DL.on {H H' : Hp} {d : Addr} {ms : List Str} {ad : Str → Addr} {L : Str → List Str} (h : DL H d ms ad L) (e : Same H H') : DL H' d ms ad L := ⟨e _ _ h.dk, fun x hx => e _ _ (h.l x hx)⟩
theorem DL.congr {H : Hp} {d : Addr} {ms : List Str} {ad : Str → Addr} {L L' : Str → List Str} (h : DL H d ms ad L) (e : ∀ x ∈ ms, L' x = L x) : DL H d ms ad L' := ⟨h.dk, fun x hx => by rw [e x hx]; exact h.l x hx⟩
/-- such lists, all new since H0 -/
structure NewL (H0 H : Hp) (d : Addr) (ms : List Str) (ad : Str → Addr) (L : Str → List Str) : Prop where
  same : Same H0 H
  d0 : H0 d = none
  dl : DL H d ms ad L
  a0 : ∀ x ∈ ms, H0 (ad x) = none
  inj : ∀ x ∈ ms, ∀ y ∈ ms, ad x = ad y → x = y
theorem NewL.put {H0 H : Hp} {d : Addr} {ms : List Str} {ad : Str → Addr} {L : Str → List Str} (N : NewL H0 H d ms ad L) {r : Str} (hr : r ∈ ms) (xs : List Str) :
    NewL H0 (upd H (ad r) (.lst (xs.map V.str))) d ms ad (fun x => if x = r then xs else L x) := by
  refine ⟨Same.mut N.same (N.a0 r hr), N.d0, ⟨?_, fun x hx => ?_⟩, N.a0, N.inj⟩
  · show upd H (ad r) _ d = _
    rw [upd_ne (ne_of N.dl.dk (N.dl.l r hr) (fun z => nomatch z))]
    exact N.dl.dk
  · show upd H (ad r) _ (ad x) = _
    by_cases e : x = r
    · subst e
      rw [upd_same, if_pos rfl]
    · rw [upd_ne (fun z => e (N.inj x hx r hr z)), if_neg e]
      exact N.dl.l x hx
theorem NewL.congr {H0 H : Hp} {d : Addr} {ms : List Str} {ad : Str → Addr} {L L' : Str → List Str} (h : NewL H0 H d ms ad L) (e : ∀ x ∈ ms, L' x = L x) : NewL H0 H d ms ad L' := ⟨h.same, h.d0, h.dl.congr e, h.a0, h.inj⟩
theorem NewL.more {H0 H H' : Hp} {d : Addr} {ms : List Str} {ad : Str → Addr} {L : Str → List Str} (h : NewL H0 H d ms ad L) (e : Same H H') : NewL H0 H' d ms ad L := ⟨Same.trans h.same e, h.d0, h.dl.on e, h.a0, h.inj⟩
theorem NewL.back {H0 H1 H : Hp} {d : Addr} {ms : List Str} {ad : Str → Addr} {L : Str → List Str} (e : Same H0 H1) (h : NewL H1 H d ms ad L) : NewL H0 H d ms ad L := ⟨Same.trans e h.same, Same.free e h.d0, h.dl, fun x hx => Same.free e (h.a0 x hx), h.inj⟩

/-! ### dict comprehensions over anything that is walked -/
theorem dc_it {J : It} {n : Nat} {G : Hp → Prop} {Y : Nat → Hp → V → Hp → Prop} (w : Walk J n G Y) {g : TG} {tt : TT} {tk tv : TE} {vs : List Nat} {σ : St} {H1 : Hp} {D : Addr} {Qd : Hp → Prop} (Pv : Nat → Hp → Prop) (h0 : Pv 0 (upd H1 D (.dK []))) (hG : ∀ i H, i ≤ n → Pv i H → G H)
    (hs : ∀ i x H H', i < n → Pv i H → Y i H x H' → g x (wipe σ vs) H' fun σ2 H2 => wipe σ2 vs = wipe σ vs ∧ tt σ2 H2 fun b H3 =>
      if b = true then tk σ2 H3 fun y H4 => tv σ2 H4 fun z H5 => ∃ kvs k, y = kV k ∧ H5 D = some (.dK kvs) ∧ kvs.length < sizeLine ∧ Pv (i + 1) (upd H5 D (.dK (putK kvs k z))) else Pv (i + 1) H3) (hd : ∀ H, Pv n H → Qd H) :
    ∃ W : Nat → Nat → Hp → Prop, (∃ m, W 0 m (upd H1 D (.dK []))) ∧ ∀ i m H, W i m H →
      (J.stop i H ∧ Qd H) ∨ (J.go i H ∧ ∃ Nx : Hp → Prop, (∀ H', Nx H' → ∃ m', m' < m ∧ W (i + 1) m' H') ∧ ∀ x H', J.yld i H x H' → g x (wipe σ vs) H' fun σ2 H2 => wipe σ2 vs = wipe σ vs ∧ tt σ2 H2 fun b H3 =>
        if b = true then tk σ2 H3 fun y H4 => tv σ2 H4 fun z H5 => ∃ kvs k, y = kV k ∧ H5 D = some (.dK kvs) ∧ kvs.length < sizeLine ∧ Nx (upd H5 D (.dK (putK kvs k z))) else Nx H3) := by
  refine ⟨fun i m H => m = n - i ∧ i ≤ n ∧ Pv i H, ⟨n, by simp, Nat.zero_le _, h0⟩, ?_⟩
  rintro i m H ⟨rfl, hi, p⟩
  have q := hG i H hi p
  by_cases hlt : i < n
  · refine .inr ⟨w.goes i H hlt q, Pv (i + 1), fun H' p' => ⟨n - (i + 1), by omega, rfl, hlt, p'⟩, fun x H' y => hs i x H H' hlt p (w.yields i H x H' hlt q y)⟩
  · have e : i = n := by omega
    subst e
    exact .inl ⟨w.stops H q, hd H p⟩
def DcY (H1 : Hp) (D : Addr) (kv' : List (Key × V)) (y z : V) (H5 : Hp) : Prop := ∃ kvs k, y = kV k ∧ H5 D = some (.dK kvs) ∧ kvs.length < sizeLine ∧ Same H1 (upd H5 D (.dK (putK kvs k z))) ∧ (upd H5 D (.dK (putK kvs k z))) D = some (.dK kv')
/-- its values pure: ks i is what stands at D ahead of turn i -/
theorem dc_pure {J : It} {n : Nat} {G : Hp → Prop} {Y : Nat → Hp → V → Hp → Prop} (w : Walk J n G Y) {g : TG} {tt : TT} {tk tv : TE} {vs : List Nat} {σ : St} {H1 : Hp} {Qd : Addr → Hp → Prop} (ks : Nat → List (Key × V))
    (h0 : ks 0 = []) (hG : ∀ H', Same H1 H' → G H')
    (hs : ∀ D i x H' H'', i < n → H1 D = none → Same H1 H' → H' D = some (.dK (ks i)) → Y i H' x H'' → g x (wipe σ vs) H'' fun σ2 H2 => wipe σ2 vs = wipe σ vs ∧ tt σ2 H2 fun b H3 =>
      if b = true then tk σ2 H3 fun y H4 => tv σ2 H4 fun z H5 => DcY H1 D (ks (i + 1)) y z H5 else Same H1 H3 ∧ H3 D = some (.dK (ks (i + 1))))
    (hd : ∀ D H', H1 D = none → Same H1 H' → H' D = some (.dK (ks n)) → Qd D H') :
    ∀ D, H1 D = none → ∃ W : Nat → Nat → Hp → Prop, (∃ m, W 0 m (upd H1 D (.dK []))) ∧ ∀ i m H, W i m H →
      (J.stop i H ∧ Qd D H) ∨ (J.go i H ∧ ∃ Nx : Hp → Prop, (∀ H', Nx H' → ∃ m', m' < m ∧ W (i + 1) m' H') ∧ ∀ x H', J.yld i H x H' → g x (wipe σ vs) H' fun σ2 H2 => wipe σ2 vs = wipe σ vs ∧ tt σ2 H2 fun b H3 =>
        if b = true then tk σ2 H3 fun y H4 => tv σ2 H4 fun z H5 => ∃ kvs k, y = kV k ∧ H5 D = some (.dK kvs) ∧ kvs.length < sizeLine ∧ Nx (upd H5 D (.dK (putK kvs k z))) else Nx H3) := fun D hD =>
  dc_it w (Qd := fun H => Qd D H) (fun i H' => Same H1 H' ∧ H' D = some (.dK (ks i))) ⟨Same.new hD, by rw [h0]; exact upd_same⟩ (fun i H' _ p => hG H' p.1) (fun i x H' H'' hi p y => hs D i x H' H'' hi hD p.1 p.2 y) (fun H' p => hd D H' hD p.1 p.2)
/-- a turn that puts member x -/
theorem dcY {H1 H' H5 : Hp} {D : Addr} {ms : List Str} {f : Str → V} {i : Nat} {x : Str} {z : V} (hD : H1 D = none) (s1 : Same H1 H') (hd : H' D = some (.dK (kvM f (ms.take i)))) (s2 : Same H' H5) (hn : ms.Nodup) (hx : ms[i]? = some x) (hl : ms.length ≤ 1000) (e : z = f x) :
    DcY H1 D (kvM f (ms.take (i + 1))) (.str x) z H5 := by
  refine ⟨_, Sum.inr x, rfl, s2 _ _ hd, small (by rw [kvM_len, List.length_take]; omega), Same.mut (Same.trans s1 s2) hD, ?_⟩
  rw [upd_same, putK_new' z (nd_take hn hx), take_snoc hx, kvM_snoc, e]
/-! ### what a member's place tells -/
theorem at_str {ms : List Str} {i : Nat} {v : V} (h : (ms.map V.str)[i]? = some v) : ∃ x, ms[i]? = some x ∧ v = .str x ∧ x ∈ ms := by
  rw [List.getElem?_map] at h
  cases q : ms[i]? with
  | none => rw [q] at h; cases h
  | some x => rw [q] at h; exact ⟨x, rfl, (Option.some.inj h).symm, List.mem_of_getElem? q⟩
theorem at_kvM {f : Str → V} {ms : List Str} {i : Nat} {k : Key} {v : V} (h : (kvM f ms)[i]? = some (k, v)) : ∃ x, ms[i]? = some x ∧ k = Sum.inr x ∧ v = f x ∧ x ∈ ms := by
  unfold kvM at h
  rw [List.getElem?_map] at h
  cases q : ms[i]? with
  | none => rw [q] at h; cases h
  | some x =>
    rw [q] at h
    have := Option.some.inj h
    exact ⟨x, rfl, (congrArg Prod.fst this).symm, (congrArg Prod.snd this).symm, List.mem_of_getElem? q⟩
/-- an item of the locked dict -/
theorem at_item {f : Str → V} {ms : List Str} {i : Nat} {x y : V} (h1 : ((kvM f ms)[i]?.map fun kv => kV kv.1) = some x) (h2 : ((kvM f ms)[i]?.map Prod.snd) = some y) : ∃ z, ms[i]? = some z ∧ x = .str z ∧ y = f z ∧ z ∈ ms := by
  cases q : (kvM f ms)[i]? with
  | none => rw [q] at h1; cases h1
  | some kv =>
    rw [q] at h1 h2
    obtain ⟨k, v⟩ := kv
    obtain ⟨z, hz, rfl, rfl, hm⟩ := at_kvM q
    exact ⟨z, hz, (Option.some.inj h1).symm, (Option.some.inj h2).symm, hm⟩
theorem zip_get {h : List Str} {i : Nat} {x1 x2 : V} (e1 : (h.map V.str)[i]? = some x1) (e2 : ((h.map V.str).drop 1)[i]? = some x2) : ∃ z1 z2, h[i]? = some z1 ∧ h[i + 1]? = some z2 ∧ x1 = .str z1 ∧ x2 = .str z2 ∧ i + 1 < h.length := by
  rw [List.getElem?_drop, Nat.add_comm] at e2
  obtain ⟨z1, q1, rfl, _⟩ := at_str e1
  obtain ⟨z2, q2, rfl, _⟩ := at_str e2
  exact ⟨z1, z2, q1, q2, rfl, rfl, (List.getElem?_eq_some_iff.mp q2).1⟩
theorem inV01 (z : Int) : inV (.int z) [.int 0, .int 1] = decide (z = 0 ∨ z = 1) := by
  unfold inV
  show ((0 == z) || ((1 == z) || false)) = _
  by_cases h0 : z = 0
  · subst h0; rfl
  · by_cases h1 : z = 1
    · subst h1; rfl
    · have a : ((0 : Int) == z) = false := by simpa using fun e : 0 = z => h0 e.symm
      have b : ((1 : Int) == z) = false := by simpa using fun e : 1 = z => h1 e.symm
      rw [a, b]; simp [h0, h1]
end G

set_option maxHeartbeats 4000000
namespace G
open PySem L2
section
variable {P : Program} {w : World} {K : PySem.W.Frag} {mg : Str → Option Value} {base : Heap}
/-! ### lists_of -/
abbrev sListsOf : Stmt := top 18
theorem scListsOf : FnScope ["members", "history", "found", "giver", "receiver", "member"] ["members", "history"] (defScope sListsOf) := ⟨rfl, rfl, rfl, by decide +kernel, rfl, by decide +kernel, by decide +kernel⟩
def spListsOf : Sp := fun vs H Q _ => ∃ m ms a h, vs = [.ref m, .ref a] ∧ LS H m ms ∧ Ms ms ∧ LS H a h ∧ Hist ms h ∧ ∀ H' d ad, NewL H H' d ms ad (GM.lof h) → Q (.ref d) H'
/-- {member: [] for member in members}: new lists -/
theorem newL_dc {H1 : Hp} {m : Addr} {ms : List Str} (hm : LS H1 m ms) (M : Ms ms) {vs : List Nat} {σ : St} {j : Nat} {tk tv : TE} {Qd : Addr → Hp → Prop}
    (hw : ∀ x, wipe ((wipe σ vs).set j (some x)) vs = wipe σ vs) (hk : ∀ x H Q, tk ((wipe σ vs).set j (some x)) H Q = Q x H) (hv : ∀ x H Q, tv ((wipe σ vs).set j (some x)) H Q = ∀ p, H p = none → Q (.ref p) (upd H p (.lst [])))
    (hd : ∀ D H' ad, NewL H1 H' D ms ad (fun _ => []) → Qd D H') :
    ∀ D, H1 D = none → ∃ W : Nat → Nat → Hp → Prop, (∃ m, W 0 m (upd H1 D (.dK []))) ∧ ∀ i n H, W i n H →
      ((Itl K m).stop i H ∧ Qd D H) ∨ ((Itl K m).go i H ∧ ∃ Nx : Hp → Prop, (∀ H', Nx H' → ∃ m', m' < n ∧ W (i + 1) m' H') ∧ ∀ x H', (Itl K m).yld i H x H' → gName j x (wipe σ vs) H' fun σ2 H2 => wipe σ2 vs = wipe σ vs ∧ tYes σ2 H2 fun b H3 =>
        if b = true then tk σ2 H3 fun y H4 => tv σ2 H4 fun z H5 => ∃ kvs k, y = kV k ∧ H5 D = some (.dK kvs) ∧ kvs.length < sizeLine ∧ Nx (upd H5 D (.dK (putK kvs k z))) else Nx H3) := by
  intro D hD
  refine dc_it (walk_list (xs := ms.map V.str)) (Qd := fun H => Qd D H) (fun i H' => ∃ ad, NewL H1 H' D (ms.take i) ad (fun _ => [])) ?_ (fun i H' _ ⟨ad, N⟩ => Same.seq N.same (SqL.of hm)) (fun i x H' H'' hi ⟨ad, N⟩ y => ?_) (fun H' ⟨ad, N⟩ => ?_)
  · exact ⟨fun _ => 0, Same.new hD, hD, ⟨upd_same, fun x hx => absurd hx (by simp)⟩, fun x hx => absurd hx (by simp), fun x hx => absurd hx (by simp)⟩
  · obtain ⟨rfl, e⟩ := y
    obtain ⟨z, hz, rfl, hzm⟩ := at_str e
    refine ⟨hw _, ?_⟩
    show tk ((wipe σ vs).set j (some (.str z))) H'' _
    rw [hk, hv]
    intro p hp
    have h12 := M.l12
    have hno : z ∉ ms.take i := nd_take M.nd hz
    refine ⟨_, Sum.inr z, rfl, Same.new hp _ _ N.dl.dk, small (by rw [kvM_len, List.length_take]; omega), fun x => if x = z then p else ad x, ?_⟩
    have dp : D ≠ p := ne_of_none N.dl.dk hp
    rw [take_snoc hz]
    have adp : ∀ x ∈ ms.take i, ad x ≠ p := fun x hx => ne_of_none (N.dl.l x hx) hp
    have adD : ∀ x ∈ ms.take i, ad x ≠ D := fun x hx => ne_of (N.dl.l x hx) N.dl.dk (fun z => nomatch z)
    have xz : ∀ x ∈ ms.take i, x ≠ z := fun x hx q => hno (q ▸ hx)
    refine ⟨Same.mut (Same.trans N.same (Same.new hp)) hD, hD, ⟨?_, fun x hx => ?_⟩, fun x hx => ?_, fun x hx y hy q => ?_⟩
    · show upd _ D _ D = _
      rw [upd_same, putK_new' _ hno, kvM_snoc, if_pos rfl]
      rw [kvM_congr (f := fun x => V.ref (ad x)) (g := fun x => V.ref (if x = z then p else ad x)) fun x hx => by rw [if_neg (xz x hx)]]
    · show upd _ D _ (if x = z then p else ad x) = _
      rcases List.mem_append.mp hx with q | q
      · rw [if_neg (xz x q), upd_ne (adD x q), upd_ne (adp x q)]
        exact N.dl.l x q
      · rw [if_pos (List.mem_singleton.mp q), upd_ne dp.symm, upd_same]; rfl
    · show H1 (if x = z then p else ad x) = none
      rcases List.mem_append.mp hx with q | q
      · rw [if_neg (xz x q)]; exact N.a0 x q
      · rw [if_pos (List.mem_singleton.mp q)]; exact Same.free N.same hp
    · have q : (if x = z then p else ad x) = (if y = z then p else ad y) := q
      rcases List.mem_append.mp hx with a | a
      · rcases List.mem_append.mp hy with b | b
        · rw [if_neg (xz x a), if_neg (xz y b)] at q; exact N.inj x a y b q
        · rw [if_neg (xz x a), if_pos (List.mem_singleton.mp b)] at q; exact absurd q (adp x a)
      · rcases List.mem_append.mp hy with b | b
        · rw [if_neg (xz y b), if_pos (List.mem_singleton.mp a)] at q; exact absurd q.symm (adp y b)
        · rw [List.mem_singleton.mp a, List.mem_singleton.mp b]
  · rw [List.length_map, List.take_length] at N
    exact hd D H' ad N
theorem ok_lists_of {f : Addr} {fd : FuncData} (F : Fun K "lists_of" "lists_of" sListsOf f fd) (T : Txt K mg) (Dneed_history : Dn P w K mg base CX0 5 "need_history" ["members", "history"] spNeedHistory) : FnOk P w K mg base CX0 6 f fd ["members", "history"] spListsOf := by
  refine F.ok scListsOf (fun vs H Q E h => ?_) (fun cdv A outer s H vs Q E hr h => ?_)
  · obtain ⟨m, ms, a, h, rfl, _⟩ := h
    rfl
  · obtain ⟨m, ms, a, h, rfl, hm, M, ha, Hh, k⟩ := h
    have hu := hu_of hr
    have hl := Hh.len
    refine ⟨_, (pss_cons (ps_expr (call_dn Dneed_history hr (pa_cons (pv 0) (pa_cons (pv 1) pa_nil))))
        (pss_cons (ps_setDc (i := 2) (own := [("member", 5)]) (g := gName 5) (tt := tYes) rfl scListsOf.nd rfl rfl (sw_trueD rfl rfl rfl (by decide +kernel)) (pi_list (pv 0)) (blkOk_by (N := ["members", "history", "found", "giver", "receiver", "member"]) (sc := defScope sListsOf) (by decide +kernel)) (fun _ _ _ _ _ => pg_name (i := 5) scListsOf.nd rfl (by first | exact Or.inl rfl | exact Or.inr rfl)) (fun _ _ _ _ _ => pts_nil) (fun _ _ _ _ _ => (pv 5)) (fun _ _ _ _ _ => (pe_lst pa_nil)))
        (pss_cons (ps_for PassesOwn.never rfl (pi_zip (by rfl) T.zip (pa_cons (pv 1) (pa_cons (pe_slice sl_list (pv 1) (po_some pe_int) po_none) pa_nil))) ((pg_tup rfl (pgs_cons (pg_name (i := 3) scListsOf.nd rfl (by first | exact Or.inl rfl | exact Or.inr rfl)) (pgs_cons (pg_name (i := 4) scListsOf.nd rfl (by first | exact Or.inl rfl | exact Or.inr rfl)) pgs_nil)))) (pss_one (ps_expr (pe_bm PySem.F.plainAttrs_list PySem.F.slot_list_append PySem.F.type_list_append mt_append (pe_dget hu (pv 2) (pv 4) (fun _ _ => rfl)) (pa_cons (pv 3) pa_nil)))))
        (pss_one (ps_ret (pv 2)))))), ?_⟩
    refine ⟨_, rfl, _, rfl, m, ms, a, h, rfl, hm, M, ha, Hh, fun H1 s1 => ?_⟩
    refine ⟨_, rfl, m, rfl, ⟨_, SqL.of (Same.ls s1 hm)⟩, newL_dc (Same.ls s1 hm) M (fun _ => rfl) (fun x H Q => ?_) (fun x H Q => ?_) (fun d H2 ad N => ?_)⟩
    · exact propext ⟨fun ⟨_, e, q⟩ => by cases e; exact q, fun q => ⟨_, rfl, q⟩⟩
    · exact propext ⟨fun ⟨_, q⟩ => q, fun q => ⟨Nat.zero_le _, q⟩⟩
    · -- for giver, receiver in zip(history, history[1:])
      have N0 := N.back s1
      refine ⟨_, rfl, _, rfl, _, rfl, a, _, rfl, SqL.of (Same.ls N0.same ha), fun p hp => ?_⟩
      rw [cut1]
      have N1 := N0.more (Same.new (o := .lst ((h.map V.str).drop 1)) hp)
      have hp0 : H p = none := Same.free N0.same hp
      have hpl : ∀ x ∈ ms, p ≠ ad x := fun x hx => Ne.symm (ne_of_none (N0.dl.l x hx) hp)
      refine ⟨a, p, h.map V.str, (h.map V.str).drop 1, rfl, SqL.of (Same.ls N1.same ha), SqL.of upd_same, for_it (walk_zip rfl) (fun i σ H' => (∃ u v z, σ = [some (.ref m), some (.ref a), some (.ref d), u, v, z]) ∧ H' p = some (.lst ((h.map V.str).drop 1)) ∧ NewL H H' d ms ad (GM.lof (h.take (i + 1))))
        ⟨⟨_, _, _, rfl⟩, upd_same, N1.congr fun x _ => ?_⟩ (fun i σ H' _ ⟨_, q, N2⟩ => ⟨SqL.of (Same.ls N2.same ha), SqL.of q⟩) ?_ ?_⟩
      · cases h with
        | nil => rfl
        | cons b t => exact GM.lof_one b x
      · rintro i x σ H' H'' hi ⟨⟨u, v, z, rfl⟩, q, N2⟩ ⟨t, x1, x2, rfl, ht, rfl, e1, e2⟩
        obtain ⟨g, r, hg, hr2, rfl, rfl, hlt⟩ := zip_get e1 e2
        have hrm : r ∈ ms := Hh.mem r (List.mem_of_getElem? hr2)
        have N3 := N2.more (Same.new (o := .tup [.str g, .str r]) ht)
        refine ⟨t, _, rfl, SqT.of upd_same, rfl, _, _, rfl, _, _, rfl, rfl, ?_⟩
        refine ⟨_, rfl, _, rfl, d, _, rfl, dget N3.dl.dk hrm, Or.inl ⟨rfl, _, SqL.of (N3.dl.l r hrm)⟩, _, rfl, ad r, _, _, rfl, rfl, N3.dl.l r hrm, small ?_, ?_⟩
        · rw [List.length_map]
          have := GM.lof_len_le (h.take (i + 1)) r
          rw [List.length_take] at this
          omega
        · refine ⟨⟨_, _, _, rfl⟩, ?_, ?_⟩
          · rw [upd_ne (hpl r hrm)]
            exact Same.new ht _ _ q
          · have N4 := N3.put hrm (GM.lof (h.take (i + 1)) r ++ [g])
            rw [List.map_append] at N4
            refine N4.congr fun x _ => ?_
            rw [GM.lof_take h i x g r hg hr2]
            by_cases e : x = r
            · subst e; rw [if_pos rfl]
            · rw [if_neg e, if_neg e]
      · rintro σ H' ⟨⟨u, v, z, rfl⟩, _, N2⟩
        refine ⟨_, rfl, k H' d ad ?_⟩
        have e : min (h.map V.str).length ((h.map V.str).drop 1).length + 1 = h.length := by
          have := List.length_drop (i := 1) (l := h.map V.str)
          rw [List.length_map] at this ⊢
          have := List.length_pos_iff.mpr Hh.ne
          omega
        rw [e, List.take_length] at N2
        exact N2
/-! ### are_lists_of, need_lists -/
structure LsOk (ms : List Str) (L : Str → List Str) : Prop where
  ok : GM.Lok ms L
  len : ∀ x ∈ ms, (L x).length ≤ 200
abbrev sAreListsOf : Stmt := top 23
theorem scAreListsOf : FnScope ["members", "value", "member", "entries", "giver"] ["members", "value"] (defScope sAreListsOf) := ⟨rfl, rfl, rfl, by decide +kernel, rfl, by decide +kernel, by decide +kernel⟩
def spAreLists : Sp := fun vs H Q _ => ∃ m ms d ad L, vs = [.ref m, .ref d] ∧ LS H m ms ∧ Ms ms ∧ DL H d ms ad L ∧ LsOk ms L ∧ ∀ H', Same H H' → Q (.bl true) H'
theorem ok_are_lists_of {f : Addr} {fd : FuncData} (F : Fun K "are_lists_of" "are_lists_of" sAreListsOf f fd) (T : Txt K mg) (Dis_member : Dn P w K mg base CX0 1 "is_member" ["members", "value"] spIsMember) : FnOk P w K mg base CX0 2 f fd ["members", "value"] spAreLists := by
  refine F.ok scAreListsOf (fun vs H Q E h => ?_) (fun cdv A outer s H vs Q E hr h => ?_)
  · obtain ⟨m, ms, d, ad, L, rfl, _⟩ := h
    rfl
  · obtain ⟨m, ms, d, ad, L, rfl, hm, M, D, Lo, k⟩ := h
    have hu := hu_of hr
    have h12 := M.l12
    have hlen : (ms.map V.str).length = ms.length := List.length_map ..
    refine ⟨_, (pss_cons (ps_if (PW.pt (pw_or (pt_not (pt_val (g_isi T (pv 1) (pe_bltn (v := .ty "dict") (by rfl) T.dict PyProof.Rows.boot_dict rfl)))) (pw_or (pt_cmpR op_ne (g_lenD T (pv 1)) (g_lenL T (pv 0)) (nomark _)) (pw_or1 (pt_not (pt_val (g_all T (pe_lc (own := [("member", 2)]) (g := gName 2) (tt := tYes) rfl scAreListsOf.nd (pi_list (pv 0)) (blkOk_by (N := ["members", "value", "member", "entries", "giver"]) (sc := defScope sAreListsOf) (by decide +kernel)) (fun _ _ _ _ _ => pg_name (i := 2) scAreListsOf.nd rfl (by first | exact Or.inl rfl | exact Or.inr rfl)) (fun _ _ _ _ _ => pts_nil) (fun _ _ _ _ _ => (pe_cmp (pc_din hu (pv 2) (pv 1)) rfl)))))))))) (pss_one (ps_ret pe_bl)) pss_nil)
        (pss_cons (ps_for PassesOwn.never rfl (pi_list (pv 0)) (pg_name (i := 2) scAreListsOf.nd rfl (by first | exact Or.inl rfl | exact Or.inr rfl)) (pss_cons (ps_set (i := 3) scAreListsOf.nd rfl (Or.inl rfl) (pe_dget hu (pv 1) (pv 2) (fun _ _ => rfl)))
            (pss_cons (ps_if (pt_not (pt_val (g_isi T (pv 3) (pe_bltn (v := .ty "list") (by rfl) T.list PyProof.Rows.boot_list rfl)))) (pss_one (ps_ret pe_bl)) pss_nil)
            (pss_one (ps_if (pt_not (pt_val (g_all T (pe_lc (own := [("giver", 4)]) (g := gName 4) (tt := tYes) rfl scAreListsOf.nd (pi_list (pv 3)) (blkOk_by (N := ["members", "value", "member", "entries", "giver"]) (sc := defScope sAreListsOf) (by decide +kernel)) (fun _ _ _ _ _ => pg_name (i := 4) scAreListsOf.nd rfl (by first | exact Or.inl rfl | exact Or.inr rfl)) (fun _ _ _ _ _ => pts_nil) (fun _ _ _ _ _ => (pe_and (call_dn Dis_member hr (pa_cons (pv 0) (pa_cons (pv 4) pa_nil))) (pe_one (pe_cmpR op_ne (pv 4) (pv 2) (nomark _))))))))) (pss_one (ps_ret pe_bl)) pss_nil)))))
        (pss_one (ps_ret pe_bl)))), ?_⟩
    refine ⟨_, rfl, _, _, true, rfl, isi_dK D.dk, _, rfl, iteF ?_⟩
    refine ⟨_, rfl, d, _, rfl, D.dk, _, rfl, m, _, rfl, .inl (SqL.of hm), rfl, _, rfl, ?_⟩
    rw [decide_eq_true (show V.int ((kvM (fun x => V.ref (ad x)) ms).length : Int) = V.int ((ms.map V.str).length : Int) by rw [kvM_len, hlen])]
    refine iteF ?_
    refine ⟨_, rfl, m, rfl, ⟨_, SqL.of hm⟩, lc_pure walk_list reps rfl (fun _ e => Same.seq e (SqL.of hm)) (fun X i x H' H'' hi hD s1 d1 y => ?_) (fun X H1 hD s1 d1 => ⟨X, _, rfl, d1, _, rfl, iteF ?_⟩)⟩
    · obtain ⟨rfl, hx⟩ := y
      obtain ⟨z, hz, rfl, hzm⟩ := at_str hx
      refine ⟨rfl, ⟨_, rfl, _, rfl, d, _, rfl, dget (D.on s1).dk hzm, ?_⟩⟩
      exact lcY hD s1 d1 (Same.refl _) (small (by rw [reps_len]; omega)) (reps_succ i)
    · refine ⟨_, rfl, m, rfl, ⟨_, SqL.of (Same.ls s1 hm)⟩, for_it (walk_list (xs := ms.map V.str)) (fun i σ H' => (∃ u v z, σ = [some (.ref m), some (.ref d), u, v, z]) ∧ Same H H') ⟨⟨_, _, _, rfl⟩, s1⟩ (fun i σ H' _ q => Same.seq q.2 (SqL.of hm)) ?_ ?_⟩
      · rintro i x σ H' H'' hi ⟨⟨u, v, z, rfl⟩, s2⟩ ⟨rfl, hx⟩
        obtain ⟨x, hx, rfl, hxm⟩ := at_str hx
        have D2 := D.on s2
        refine ⟨_, rfl, _, rfl, d, _, rfl, dget D2.dk hxm, ?_⟩
        refine ⟨_, rfl, _, _, true, rfl, isi_lst (D2.l x hxm), _, rfl, iteF ?_⟩
        refine ⟨_, rfl, ad x, rfl, ⟨_, SqL.of (D2.l x hxm)⟩, lc_pure walk_list reps rfl (fun _ e => Same.seq e (SqL.of (D2.l x hxm))) (fun X j y H3 H4 hj hD s3 d3 yy => ?_) (fun X H3 hD s3 d3 => ⟨X, _, rfl, d3, _, rfl, iteF ⟨⟨_, _, _, rfl⟩, Same.trans s2 s3⟩⟩)⟩
        obtain ⟨rfl, hy⟩ := yy
        obtain ⟨g, hg, rfl, hgm⟩ := at_str hy
        obtain ⟨g1, g2⟩ := Lo.ok x hxm g hgm
        have hll := Lo.len x hxm
        refine ⟨rfl, ⟨_, rfl, _, rfl, m, ms, g, rfl, Same.ls (Same.trans s2 s3) hm, _, rfl, ?_⟩⟩
        rw [decide_eq_true g1]
        refine ⟨_, rfl, _, rfl, rfl, ?_⟩
        rw [decide_eq_false (show ¬ (V.str g = V.str x) from fun e => g2 (V.str.inj e))]
        rw [List.length_map] at hj
        exact lcY hD s3 d3 (Same.refl _) (small (by rw [reps_len]; omega)) (reps_succ j)
      · rintro σ H' ⟨⟨u, v, z, rfl⟩, s2⟩
        exact k H' s2
abbrev sNeedLists : Stmt := top 24
theorem scNeedLists : FnScope ["members", "first", "lists"] ["members", "first", "lists"] (defScope sNeedLists) := ⟨rfl, rfl, rfl, by decide +kernel, rfl, by decide +kernel, by decide +kernel⟩
def spNeedLists : Sp := fun vs H Q _ => ∃ m ms first d ad L, vs = [.ref m, .str first, .ref d] ∧ LS H m ms ∧ Ms ms ∧ first ∈ ms ∧ DL H d ms ad L ∧ LsOk ms L ∧ ∀ H', Same H H' → Q .non H'
theorem ok_need_lists {f : Addr} {fd : FuncData} (F : Fun K "need_lists" "need_lists" sNeedLists f fd) (T : Txt K mg) (Dneed_members : Dn P w K mg base CX0 3 "need_members" ["members"] spNeedMembers)
    (Dneed_member : Dn P w K mg base CX0 2 "need_member" ["members", "value"] spNeedMember) (Dare_lists_of : Dn P w K mg base CX0 2 "are_lists_of" ["members", "value"] spAreLists) : FnOk P w K mg base CX0 4 f fd ["members", "first", "lists"] spNeedLists := by
  refine F.ok scNeedLists (fun vs H Q E h => ?_) (fun cdv A outer s H vs Q E hr h => ?_)
  · obtain ⟨m, ms, first, d, ad, L, rfl, _⟩ := h
    rfl
  · obtain ⟨m, ms, first, d, ad, L, rfl, hm, M, hf, D, Lo, k⟩ := h
    refine ⟨_, (pss_cons (ps_expr (call_dn Dneed_members hr (pa_cons (pv 0) pa_nil)))
        (pss_cons (ps_expr (call_dn Dneed_member hr (pa_cons (pv 0) (pa_cons (pv 1) pa_nil))))
        (pss_one (ps_if (pt_not (pt_val (call_dn Dare_lists_of hr (pa_cons (pv 0) (pa_cons (pv 2) pa_nil))))) (pss_one ps_never) pss_nil)))), ?_⟩
    refine ⟨_, rfl, m, ms, rfl, hm, M, fun H1 s1 => ?_⟩
    refine ⟨_, rfl, _, rfl, m, ms, first, rfl, Same.ls s1 hm, hf, ?_⟩
    exact ⟨_, rfl, _, rfl, m, ms, d, ad, L, rfl, Same.ls s1 hm, M, D.on s1, Lo, fun H2 s2 => ⟨_, rfl, iteF (k H2 (Same.trans s1 s2))⟩⟩
end
end G

set_option maxHeartbeats 4000000
namespace G
open PySem L2
theorem count_flat (L : Str → List Str) (x : Str) : ∀ ms : List Str, (ms.flatMap L).count x = GM.nsum (fun y => (L y).count x) ms
  | [] => rfl
  | m :: ms => by rw [List.flatMap_cons, List.count_append, count_flat L x ms]; rfl
theorem count_snoc (l : List Str) (g y : Str) : (l ++ [g]).count y = l.count y + if y = g then 1 else 0 := by
  rw [List.count_append]
  by_cases e : y = g
  · subst e; rw [List.count_singleton_self, if_pos rfl]
  · have : ¬ g = y := fun z => e z.symm
    rw [List.count_singleton, if_neg e]
    simp [this]
theorem had_int (first : Str) (L : Str → List Str) (x : Str) : (((L x).map V.str).length : Int) + (if decide (V.str x = V.str first) = true then (1 : Int) else 0) = (GM.had first L x : Int) := by
  unfold GM.had
  rw [List.length_map]
  by_cases e : x = first
  · rw [if_pos e, if_pos (decide_eq_true (by rw [e]))]; rfl
  · rw [if_neg e, decide_eq_false (show ¬ V.str x = V.str first from fun z => e (V.str.inj z)), if_neg Bool.false_ne_true]; rfl
section
variable {P : Program} {w : World} {K : PySem.W.Frag} {mg : Str → Option Value} {base : Heap}
/-- the two numbers of each member, at u -/
def Uses (H : Hp) (u : Addr) (ms : List Str) (first : Str) (L : Str → List Str) (ta : Str → Addr) : Prop :=
  DM H u ms (fun x => .ref (ta x)) ∧ ∀ x ∈ ms, H (ta x) = some (.tup [.int (GM.had first L x), .int (GM.named ms L x)])
/-! ### uses_of -/
abbrev sUsesOf : Stmt := top 25
theorem scUsesOf : FnScope ["members", "first", "lists", "named", "entries", "giver", "member"] ["members", "first", "lists"] (defScope sUsesOf) := ⟨rfl, rfl, rfl, by decide +kernel, rfl, by decide +kernel, by decide +kernel⟩
def spUses : Sp := fun vs H Q _ => ∃ m ms first d ad L, vs = [.ref m, .str first, .ref d] ∧ LS H m ms ∧ Ms ms ∧ DL H d ms ad L ∧ LsOk ms L ∧ ∀ H' u ta, Same H H' → H u = none → Uses H' u ms first L ta → Q (.ref u) H'
theorem ok_uses_of {f : Addr} {fd : FuncData} (F : Fun K "uses_of" "uses_of" sUsesOf f fd) (T : Txt K mg) : FnOk P w K mg base CX0 1 f fd ["members", "first", "lists"] spUses := by
  refine F.ok scUsesOf (fun vs H Q E h => ?_) (fun cdv A outer s H vs Q E hr h => ?_)
  · obtain ⟨m, ms, first, d, ad, L, rfl, _⟩ := h
    rfl
  · obtain ⟨m, ms, first, d, ad, L, rfl, hm, M, D, Lo, k⟩ := h
    have hu := hu_of hr
    have h12 := M.l12
    have hlen : (ms.map V.str).length = ms.length := List.length_map ..
    refine ⟨_, (pss_cons (ps_set (i := 3) scUsesOf.nd rfl (Or.inr rfl) (pe_dc (own := [("member", 6)]) (g := gName 6) (tt := tYes) rfl scUsesOf.nd (pi_list (pv 0)) (blkOk_by (N := ["members", "first", "lists", "named", "entries", "giver", "member"]) (sc := defScope sUsesOf) (by decide +kernel)) (fun _ _ _ _ _ => pg_name (i := 6) scUsesOf.nd rfl (by first | exact Or.inl rfl | exact Or.inr rfl)) (fun _ _ _ _ _ => pts_nil) (fun _ _ _ _ _ => (pv 6)) (fun _ _ _ _ _ => pe_int)))
        (pss_cons (ps_lock (ps_for PassesOwn.never rfl (pi_values (pv 2)) (pg_name (i := 4) scUsesOf.nd rfl (by first | exact Or.inl rfl | exact Or.inr rfl)) (pss_one (ps_for PassesOwn.never rfl (pi_list (pv 4)) (pg_name (i := 5) scUsesOf.nd rfl (by first | exact Or.inl rfl | exact Or.inr rfl)) (pss_one (ps_daug hu (pv 3) (pv 5) pe_int in_add (fun _ _ _ => rfl)))))))
        (pss_one (ps_ret (pe_dc (own := [("member", 6)]) (g := gName 6) (tt := tYes) rfl scUsesOf.nd (pi_list (pv 0)) (blkOk_by (N := ["members", "first", "lists", "named", "entries", "giver", "member"]) (sc := defScope sUsesOf) (by decide +kernel)) (fun _ _ _ _ _ => pg_name (i := 6) scUsesOf.nd rfl (by first | exact Or.inl rfl | exact Or.inr rfl)) (fun _ _ _ _ _ => pts_nil) (fun _ _ _ _ _ => (pv 6)) (fun _ _ _ _ _ => (pe_tup (pa_cons (pe_op op_add (g_lenL T (pe_dget hu (pv 2) (pv 6) (fun _ _ => rfl))) (g_int T (pe_cmpR op_eq (pv 6) (pv 1) (nomark _)))) (pa_cons (pe_dget hu (pv 3) (pv 6) (fun _ _ => rfl)) pa_nil))))))))), ?_⟩
    -- named = {member: 0 ..}
    refine ⟨_, rfl, m, rfl, ⟨_, SqL.of hm⟩, dc_pure walk_list (fun i => kvM (fun _ => .int 0) (ms.take i)) rfl (fun _ e => Same.seq e (SqL.of hm)) (fun X i x H' H'' hi hD s1 d1 y => ?_) (fun nd H1 hnd s1 d1 => ?_)⟩
    · obtain ⟨rfl, hx⟩ := y
      obtain ⟨z, hz, rfl, hzm⟩ := at_str hx
      exact ⟨rfl, ⟨_, rfl, dcY hD s1 d1 (Same.refl _) M.nd hz (by omega) rfl⟩⟩
    rw [hlen, List.take_length] at d1
    have D1 := D.on s1
    have dnd : d ≠ nd := ne_of_none D.dk hnd
    -- the loops, while lists is locked
    refine ⟨d, _, D1.dk, trivial, fun od => ?_⟩
    refine ⟨_, rfl, d, od, _, rfl, upd_same, for_it (walk_values (o := od) (kvs := kvM (fun x => V.ref (ad x)) ms)) (fun i σ H' => (∃ u v z, σ = [some (.ref m), some (.str first), some (.ref d), some (.ref nd), u, v, z]) ∧ H' d = some (.frz od (.dK (kvM (fun x => V.ref (ad x)) ms))) ∧ (∀ b o, H b = some o → b ≠ d → H' b = some o) ∧ DM H' nd ms (fun x => .int (((ms.take i).flatMap L).count x : Nat)))
      ⟨⟨_, _, _, rfl⟩, upd_same, fun b o e ne => by rw [upd_ne ne]; exact s1 _ _ e, ?_⟩ (fun i σ H' _ q => q.2.1) ?_ ?_⟩
    · show upd H1 d _ nd = _
      rw [upd_ne dnd.symm, d1]; rfl
    · rintro i x σ H' H'' hi ⟨⟨u, v, z, rfl⟩, q1, q2, q3⟩ ⟨rfl, kk, e⟩
      obtain ⟨x, hx, rfl, rfl, hxm⟩ := at_kvM e
      have hax : H'' (ad x) = some (.lst ((L x).map V.str)) := q2 _ _ (D.l x hxm) (ne_of (D.l x hxm) D.dk (fun z => nomatch z))
      have h0x : H (ad x) ≠ none := by rw [D.l x hxm]; exact fun z => nomatch z
      refine ⟨_, rfl, ad x, rfl, ⟨_, SqL.of hax⟩, for_it (walk_list (xs := (L x).map V.str)) (fun j σ H3 => (∃ v z, σ = [some (.ref m), some (.str first), some (.ref d), some (.ref nd), some (.ref (ad x)), v, z]) ∧ H3 d = some (.frz od (.dK (kvM (fun x => V.ref (ad x)) ms))) ∧ (∀ b o, H b = some o → b ≠ d → H3 b = some o) ∧ DM H3 nd ms (fun y => .int (((ms.take i).flatMap L ++ (L x).take j).count y : Nat)))
        ⟨⟨_, _, rfl⟩, q1, q2, by rw [List.take_zero, List.append_nil]; exact q3⟩ (fun j σ H3 _ q => SqL.of (q.2.2.1 _ _ (D.l x hxm) (ne_of (D.l x hxm) D.dk (fun z => nomatch z)))) ?_ ?_⟩
      · rintro j y σ H3 H4 hj ⟨⟨v, z, rfl⟩, p1, p2, p3⟩ ⟨rfl, hy⟩
        obtain ⟨g, hg, rfl, hgm⟩ := at_str hy
        have gms := (Lo.ok x hxm g hgm).1
        refine ⟨_, rfl, _, rfl, nd, _, rfl, dget p3 gms, _, _, rfl, rfl, _, DPut.k (k := Sum.inr g) p3 (small (by rw [kvM_len]; omega)), ⟨_, _, rfl⟩, ?_, fun b o e ne => ?_, ?_⟩
        · rw [upd_ne dnd]; exact p1
        · rw [upd_ne (ne_of_none e hnd)]; exact p2 b o e ne
        · show upd H4 nd _ nd = _
          rw [upd_same, putK_old _ gms]
          refine congrArg (fun l => some (HO.dK l)) (kvM_congr fun y hy => ?_)
          rw [take_snoc hg, ← List.append_assoc, count_snoc]
          by_cases e : y = g
          · subst e
            rw [if_pos rfl, if_pos rfl]; rfl
          · rw [if_neg e, if_neg e]; rfl
      · rintro σ H3 ⟨⟨v, z, rfl⟩, p1, p2, p3⟩
        refine ⟨⟨_, _, _, rfl⟩, p1, p2, ?_⟩
        rw [List.length_map, List.take_length] at p3
        rw [take_snoc hx, List.flatMap_append]
        show DM H3 nd ms fun y => .int (((ms.take i).flatMap L ++ [x].flatMap L).count y : Nat)
        rw [List.flatMap_singleton]
        exact p3
    · rintro σ H2 ⟨⟨u, v, z, rfl⟩, q1, q2, q3⟩
      refine ⟨q1, ?_⟩
      rw [kvM_len, List.take_length] at q3
      have s3 : Same H (upd H2 d (.dK (kvM (fun x => V.ref (ad x)) ms))) := fun b o e => by
        by_cases hb : b = d
        · subst hb; rw [upd_same]
          have e2 : H b = some (.dK (kvM (fun x => V.ref (ad x)) ms)) := D.dk
          exact e2.symm.trans e
        · rw [upd_ne hb]; exact q2 b o e hb
      have q3' : DM (upd H2 d (.dK (kvM (fun x => V.ref (ad x)) ms))) nd ms (fun x => .int ((ms.flatMap L).count x : Nat)) := by
        show upd H2 d _ nd = _
        rw [upd_ne dnd.symm]; exact q3
      -- return {member: (.., ..) ..}
      generalize upd H2 d (.dK (kvM (fun x => V.ref (ad x)) ms)) = H3 at s3 q3'
      refine ⟨_, rfl, m, rfl, ⟨_, SqL.of (Same.ls s3 hm)⟩, fun U hU => dc_it (walk_list (xs := ms.map V.str)) (Qd := fun H => Q (.ref U) H) (fun i H' => Same H3 H' ∧ ∃ ta, True ∧ True ∧ DM H' U (ms.take i) (fun x => .ref (ta x)) ∧ ∀ x ∈ ms.take i, H' (ta x) = some (.tup [.int (GM.had first L x), .int (GM.named ms L x)])) ⟨Same.new hU, fun _ => 0, trivial, trivial, upd_same, fun x hx => absurd hx (by simp)⟩ (fun i H' _ q => Same.seq q.1 (SqL.of (Same.ls s3 hm))) (fun i x H4 H5 hi q y => ?_) (fun H4 q => ?_)⟩
      · obtain ⟨s4, ta, _, _, a1, a2⟩ := q
        obtain ⟨rfl, hx⟩ := y
        obtain ⟨z, hz, rfl, hzm⟩ := at_str hx
        have D4 := (D.on s3).on s4
        have n4 : DM H5 nd ms (fun x => .int ((ms.flatMap L).count x : Nat)) := s4 _ _ q3'
        refine ⟨rfl, ⟨_, rfl, ?_⟩⟩
        refine ⟨_, rfl, _, rfl, d, _, rfl, dget D4.dk hzm, ad z, _, rfl, .inl (SqL.of (D4.l z hzm)), ?_⟩
        refine ⟨_, rfl, _, rfl, rfl, .inr ⟨_, rfl, _, _, rfl, rfl, ?_⟩⟩
        refine ⟨_, rfl, _, rfl, nd, _, rfl, dget n4 hzm, by show 2 ≤ sizeLine; decide, fun p hp => ?_⟩
        have hno : z ∉ ms.take i := nd_take M.nd hz
        have up : U ≠ p := ne_of_none a1 hp
        refine ⟨_, Sum.inr z, rfl, Same.new hp _ _ a1, small (by rw [kvM_len, List.length_take]; omega), Same.mut (Same.trans s4 (Same.new hp)) hU, fun x => if x = z then p else ta x, ?_⟩
        have key : DM (upd (upd H5 p (.tup [.int ((((L z).map V.str).length : Nat) + (if decide (V.str z = V.str first) = true then (1 : Int) else 0)), .int (((ms.flatMap L).count z : Nat) : Int)])) U (.dK (putK (kvM (fun x => V.ref (ta x)) (ms.take i)) (Sum.inr z) (.ref p)))) U (ms.take (i + 1)) (fun x => .ref (if x = z then p else ta x)) ∧ ∀ x ∈ ms.take (i + 1), (upd (upd H5 p (.tup [.int ((((L z).map V.str).length : Nat) + (if decide (V.str z = V.str first) = true then (1 : Int) else 0)), .int (((ms.flatMap L).count z : Nat) : Int)])) U (.dK (putK (kvM (fun x => V.ref (ta x)) (ms.take i)) (Sum.inr z) (.ref p)))) (if x = z then p else ta x) = some (.tup [.int (GM.had first L x), .int (GM.named ms L x)]) := by
          have tp : ∀ x ∈ ms.take i, ta x ≠ p := fun x hx => ne_of_none (a2 x hx) hp
          have tU : ∀ x ∈ ms.take i, ta x ≠ U := fun x hx => ne_of (a2 x hx) a1 (fun z => nomatch z)
          have xz : ∀ x ∈ ms.take i, x ≠ z := fun x hx q => hno (q ▸ hx)
          refine ⟨?_, fun x hx => ?_⟩
          · show upd _ U _ U = _
            rw [upd_same, putK_new' _ hno, take_snoc hz, kvM_snoc, if_pos rfl]
            rw [kvM_congr (f := fun x => V.ref (ta x)) (g := fun x => V.ref (if x = z then p else ta x)) fun x hx => by rw [if_neg (xz x hx)]]
          · rw [take_snoc hz] at hx
            rcases List.mem_append.mp hx with q | q
            · rw [if_neg (xz x q), upd_ne (tU x q), upd_ne (tp x q)]
              exact a2 x q
            · have e := List.mem_singleton.mp q
              rw [if_pos e, upd_ne up.symm, upd_same, e, had_int, count_flat]; rfl
        exact ⟨trivial, trivial, key.1, key.2⟩
      · obtain ⟨s4, ta, _, _, a1, a2⟩ := q
        rw [hlen, List.take_length] at a1 a2
        exact k H4 U ta (Same.trans s3 s4) (Same.free s3 hU) ⟨a1, a2⟩
end
end G

set_option maxHeartbeats 4000000
namespace G
open PySem L2
theorem frz_same {H H1 : Hp} {u : Addr} {o : Obj} {t : HO} (s : Same H H1) (h0 : H u = none) : Same H (upd H1 u (.frz o t)) := Same.mut s h0
section
variable {P : Program} {w : World} {K : PySem.W.Frag} {mg : Str → Option Value} {base : Heap}
/-! ### surpluses_of -/
abbrev sSurplusesOf : Stmt := top 26
theorem scSurplusesOf : FnScope ["members", "first", "lists", "member", "had", "named"] ["members", "first", "lists"] (defScope sSurplusesOf) := ⟨rfl, rfl, rfl, by decide +kernel, rfl, by decide +kernel, by decide +kernel⟩
def spSurpl : Sp := fun vs H Q _ => ∃ m ms first d ad L, vs = [.ref m, .str first, .ref d] ∧ LS H m ms ∧ Ms ms ∧ DL H d ms ad L ∧ LsOk ms L ∧ ∀ H' u, Same H H' → H u = none → DM H' u ms (fun x => .int (GM.sur ms first L x)) → Q (.ref u) H'
theorem ok_surpluses_of {f : Addr} {fd : FuncData} (F : Fun K "surpluses_of" "surpluses_of" sSurplusesOf f fd) (T : Txt K mg) (Duses_of : Dn P w K mg base CX0 1 "uses_of" ["members", "first", "lists"] spUses) : FnOk P w K mg base CX0 2 f fd ["members", "first", "lists"] spSurpl := by
  refine F.ok scSurplusesOf (fun vs H Q E h => ?_) (fun cdv A outer s H vs Q E hr h => ?_)
  · obtain ⟨m, ms, first, d, ad, L, rfl, _⟩ := h
    rfl
  · obtain ⟨m, ms, first, d, ad, L, rfl, hm, M, D, Lo, k⟩ := h
    have hu := hu_of hr
    have h12 := M.l12
    refine ⟨_, (pss_one (ps_ret (pe_dc (own := [("member", 3), ("had", 4), ("named", 5)]) (g := gTup _ 2 (gCons (gName 3) (gCons (gTup _ 2 (gCons (gName 4) (gCons (gName 5) gNil))) gNil))) (tt := tYes) rfl scSurplusesOf.nd (pi_items (pe_frz (call_dn Duses_of hr (pa_cons (pv 0) (pa_cons (pv 1) (pa_cons (pv 2) pa_nil)))))) (blkOk_by (N := ["members", "first", "lists", "member", "had", "named"]) (sc := defScope sSurplusesOf) (by decide +kernel)) (fun _ _ _ _ _ => (pg_tup rfl (pgs_cons (pg_name (i := 3) scSurplusesOf.nd rfl (by first | exact Or.inl rfl | exact Or.inr rfl)) (pgs_cons ((pg_tup rfl (pgs_cons (pg_name (i := 4) scSurplusesOf.nd rfl (by first | exact Or.inl rfl | exact Or.inr rfl)) (pgs_cons (pg_name (i := 5) scSurplusesOf.nd rfl (by first | exact Or.inl rfl | exact Or.inr rfl)) pgs_nil)))) pgs_nil)))) (fun _ _ _ _ _ => pts_nil) (fun _ _ _ _ _ => (pv 3)) (fun _ _ _ _ _ => (pe_op op_sub (pv 4) (pv 5)))))), ?_⟩
    refine ⟨_, rfl, _, rfl, _, rfl, m, ms, first, d, ad, L, rfl, hm, M, D, Lo, fun H1 u ta s1 hu0 U => ⟨u, _, rfl, U.1, trivial, fun o => ?_⟩⟩
    have s2 : Same H (upd H1 u (.frz o (.dK (kvM (fun x => .ref (ta x)) ms)))) := frz_same s1 hu0
    have tu : ∀ x ∈ ms, ta x ≠ u := fun x hx => ne_of (U.2 x hx) U.1 (fun z => nomatch z)
    refine ⟨u, o, _, rfl, upd_same, dc_pure (walk_items (kvs := kvM (fun x => V.ref (ta x)) ms)) (fun i => kvM (fun x => .int (GM.sur ms first L x)) (ms.take i)) rfl (fun _ e => e _ _ upd_same) (fun X i x H' H'' hi hD s3 d3 y => ?_) (fun X H3 hX s3 d3 => ?_)⟩
    · obtain ⟨t, x1, x2, rfl, ht, rfl, e1, e2⟩ := y
      obtain ⟨z, hz, rfl, rfl, hzm⟩ := at_item e1 e2
      have ht1 : upd H1 u (.frz o (.dK (kvM (fun x => .ref (ta x)) ms))) (ta z) = some (.tup [.int (GM.had first L z), .int (GM.named ms L z)]) := by rw [upd_ne (tu z hzm)]; exact U.2 z hzm
      have ht2 := Same.new (o := .tup [.str z, .ref (ta z)]) ht _ _ (s3 _ _ ht1)
      refine ⟨t, _, rfl, SqT.of upd_same, rfl, _, _, rfl, _, _, rfl, ⟨ta z, _, rfl, SqT.of ht2, rfl, _, _, rfl, _, _, rfl, rfl, rfl, rfl, _, rfl, _, rfl, _, rfl, _, _, rfl, rfl, ?_⟩⟩
      exact dcY hD s3 d3 (Same.new ht) M.nd hz (by omega) rfl
    · rw [kvM_len, List.take_length] at d3
      exact k H3 X (Same.trans s2 s3) (Same.free s2 hX) d3
/-! ### starts_of -/
def fst1 (L : Str → List Str) (x : Str) : Str := (L x).headD x
theorem keys_take {ms : List Str} {first : Str} {L : Str → List Str} {i : Nat} {x : Str} (h : ms[i]? = some x) : GM.keys (ms.take (i + 1)) first L = if x ≠ first ∧ L x ≠ [] then GM.keys (ms.take i) first L ++ [x] else GM.keys (ms.take i) first L := by
  unfold GM.keys
  rw [take_snoc h, List.filter_append]
  have : (GM.st first L x).isSome = decide (x ≠ first ∧ L x ≠ []) := by
    unfold GM.st
    by_cases e : x = first
    · rw [if_pos e]; simp [e]
    · rw [if_neg e]
      cases L x with
      | nil => simp
      | cons a t => simp [e]
  rw [List.filter_cons, this]
  by_cases e : x ≠ first ∧ L x ≠ []
  · rw [if_pos e, if_pos (decide_eq_true e)]; rfl
  · rw [if_neg e, if_neg (by rw [decide_eq_false e]; decide)]; simp
abbrev sStartsOf : Stmt := top 27
theorem scStartsOf : FnScope ["members", "first", "lists", "member"] ["members", "first", "lists"] (defScope sStartsOf) := ⟨rfl, rfl, rfl, by decide +kernel, rfl, by decide +kernel, by decide +kernel⟩
def spStarts : Sp := fun vs H Q _ => ∃ m ms first d ad L, vs = [.ref m, .str first, .ref d] ∧ LS H m ms ∧ Ms ms ∧ DL H d ms ad L ∧ LsOk ms L ∧ ∀ H' u, Same H H' → H u = none → DM H' u (GM.keys ms first L) (fun x => .str (fst1 L x)) → Q (.ref u) H'
theorem ok_starts_of {f : Addr} {fd : FuncData} (F : Fun K "starts_of" "starts_of" sStartsOf f fd) (T : Txt K mg) : FnOk P w K mg base CX0 1 f fd ["members", "first", "lists"] spStarts := by
  refine F.ok scStartsOf (fun vs H Q E h => ?_) (fun cdv A outer s H vs Q E hr h => ?_)
  · obtain ⟨m, ms, first, d, ad, L, rfl, _⟩ := h
    rfl
  · obtain ⟨m, ms, first, d, ad, L, rfl, hm, M, D, Lo, k⟩ := h
    have hu := hu_of hr
    have h12 := M.l12
    refine ⟨_, (pss_one (ps_ret (pe_dc (own := [("member", 3)]) (g := gName 3) rfl scStartsOf.nd (pi_list (pv 0)) (blkOk_by (N := ["members", "first", "lists", "member"]) (sc := defScope sStartsOf) (by decide +kernel)) (fun _ _ _ _ _ => pg_name (i := 3) scStartsOf.nd rfl (by first | exact Or.inl rfl | exact Or.inr rfl)) (fun _ _ _ _ _ => (pts_one (PW.pt (pw_and (pt_cmpR op_ne (pv 3) (pv 1) (nomark _)) (pw_and1 (pt_cmpR (op_neL hr.units) (pe_dget hu (pv 2) (pv 3) (fun _ _ => rfl)) (pe_lst pa_nil) (nomark _))))))) (fun _ _ _ _ _ => (pv 3)) (fun _ _ _ _ _ => (g_ixL T (pe_dget hu (pv 2) (pv 3) (fun _ _ => rfl)) pe_int (fun _ _ => rfl)))))), ?_⟩
    refine ⟨_, rfl, m, rfl, ⟨_, SqL.of hm⟩, dc_pure walk_list (fun i => kvM (fun x => .str (fst1 L x)) (GM.keys (ms.take i) first L)) rfl (fun _ e => Same.seq e (SqL.of hm)) (fun X i x H' H'' hi hD s3 d3 y => ?_) (fun X H3 hX s3 d3 => ?_)⟩
    · obtain ⟨rfl, hx⟩ := y
      obtain ⟨z, hz, rfl, hzm⟩ := at_str hx
      have D3 := D.on s3
      have hno : z ∉ GM.keys (ms.take i) first L := fun q => nd_take M.nd hz (GM.mem_keys.mp q).1
      have hl : (GM.keys (ms.take i) first L).length ≤ 100 := by
        unfold GM.keys
        have := List.length_filter_le (fun x => (GM.st first L x).isSome) (ms.take i)
        rw [List.length_take] at this
        omega
      refine ⟨rfl, ⟨_, rfl, _, rfl, rfl, _, rfl, ?_⟩⟩
      by_cases e : z = first
      · have hk : GM.keys (ms.take (i + 1)) first L = GM.keys (ms.take i) first L := by rw [keys_take hz, if_neg (fun q => q.1 e)]
        rw [decide_eq_true (show V.str z = V.str first by rw [e])]
        show Same H H'' ∧ H'' X = some (.dK (kvM (fun x => .str (fst1 L x)) (GM.keys (ms.take (i + 1)) first L)))
        rw [hk]
        exact ⟨s3, d3⟩
      · rw [decide_eq_false (show ¬ V.str z = V.str first from fun q => e (V.str.inj q))]
        refine ⟨_, rfl, _, rfl, d, _, rfl, dget D3.dk hzm, Nat.zero_le _, fun p hp => ?_⟩
        have s4 := Same.new (o := .lst []) hp
        refine ⟨ad z, p, L z, [], rfl, rfl, Same.ls s4 (D3.l z hzm), upd_same, M.sOkL (fun x hx => (Lo.ok z hzm x hx).1), (fun _ q => nomatch q), _, rfl, ?_⟩
        by_cases e2 : L z = []
        · have hk : GM.keys (ms.take (i + 1)) first L = GM.keys (ms.take i) first L := by rw [keys_take hz, if_neg (fun q => q.2 e2)]
          rw [decide_eq_true e2]
          show Same H (upd H'' p (.lst [])) ∧ (upd H'' p (.lst [])) X = some (.dK (kvM (fun x => .str (fst1 L x)) (GM.keys (ms.take (i + 1)) first L)))
          rw [hk]
          exact ⟨Same.trans s3 s4, s4 _ _ d3⟩
        · have hk : GM.keys (ms.take (i + 1)) first L = GM.keys (ms.take i) first L ++ [z] := by rw [keys_take hz, if_pos ⟨e, e2⟩]
          rw [decide_eq_false e2]
          have h0 : ((L z).map V.str)[0]? = some (.str (fst1 L z)) := by
            unfold fst1
            cases q : L z with
            | nil => exact absurd q e2
            | cons a t => rfl
          refine ⟨_, rfl, _, rfl, _, rfl, d, _, rfl, dget (D3.on s4).dk hzm, ad z, _, 0, .str (fst1 L z), rfl, rfl, SqL.of ((D3.on s4).l z hzm), atI_nat (j := 0) h0, ?_⟩
          refine ⟨_, Sum.inr z, rfl, s4 _ _ d3, small (by rw [kvM_len]; omega), Same.mut (Same.trans s3 s4) hD, ?_⟩
          rw [upd_same, putK_new' _ hno]
          show _ = some (HO.dK (kvM (fun x => .str (fst1 L x)) (GM.keys (ms.take (i + 1)) first L)))
          rw [hk, kvM_snoc]
    · rw [List.length_map, List.take_length] at d3
      exact k H3 X s3 hX d3
/-! ### ring_at -/
/-- a list of texts, or None -/
def RingV (H : Hp) : Option (List Str) → V → Prop
  | none, r => r = .non
  | some l, r => ∃ p, r = .ref p ∧ LS H p l
theorem RingV.on {H H' : Hp} (e : Same H H') : ∀ {o : Option (List Str)} {r : V}, RingV H o r → RingV H' o r
  | none, _, h => h
  | some l, _, ⟨p, a, b⟩ => ⟨p, a, e _ _ b⟩
def sOf (ks : List Str) (fs : Str → Str) (x : Str) : Option Str := if x ∈ ks then some (fs x) else none
abbrev sRingAt : Stmt := top 28
theorem scRingAt : FnScope ["starts", "member", "found", "giver"] ["starts", "member"] (defScope sRingAt) := ⟨rfl, rfl, rfl, by decide +kernel, rfl, by decide +kernel, by decide +kernel⟩
def spRingAt : Sp := fun vs H Q _ => ∃ u ks fs m, vs = [.ref u, .str m] ∧ DM H u ks (fun x => .str (fs x)) ∧ ks.length ≤ 100 ∧ ∀ H' r, Same H H' → RingV H' (GM.rat (sOf ks fs) ks.length m) r → Q r H'
theorem ok_ring_at {f : Addr} {fd : FuncData} (F : Fun K "ring_at" "ring_at" sRingAt f fd) (T : Txt K mg) : FnOk P w K mg base CX0 1 f fd ["starts", "member"] spRingAt := by
  refine F.ok scRingAt (fun vs H Q E h => ?_) (fun cdv A outer s H vs Q E hr h => ?_)
  · obtain ⟨u, ks, fs, m, rfl, _⟩ := h
    rfl
  · obtain ⟨u, ks, fs, m, rfl, hU, hl, k⟩ := h
    have hu := hu_of hr
    refine ⟨_, (pss_cons (ps_set (i := 2) scRingAt.nd rfl (Or.inl rfl) (pe_lst (pa_cons (pv 1) pa_nil)))
        (pss_cons (ps_while PassesOwn.never (PW.pt (pw_and (pt_cmp (pc_din hu (g_ixL T (pv 2) (pe_un un_neg pe_int) (fun _ _ => rfl)) (pv 0))) (pw_and1 (pt_cmpR op_le (g_lenL T (pv 2)) (g_lenD T (pv 0)) (nomark _))))) (pss_cons (ps_set (i := 3) scRingAt.nd rfl (Or.inl rfl) (pe_dget hu (pv 0) (g_ixL T (pv 2) (pe_un un_neg pe_int) (fun _ _ => rfl)) (fun _ _ => rfl)))
            (pss_cons (ps_if (pt_cmpR op_eq (pv 3) (pv 1) (nomark _)) (pss_one (ps_ret (pv 2))) pss_nil)
            (pss_one (ps_expr (pe_bm PySem.F.plainAttrs_list PySem.F.slot_list_append PySem.F.type_list_append mt_append (pv 2) (pa_cons (pv 3) pa_nil)))))))
        (pss_one (ps_ret pe_non)))), ?_⟩
    refine ⟨_, rfl, by show 1 ≤ sizeLine; decide, fun p hp => ?_⟩
    refine ⟨fun r σ H' => ∃ pre last gv, σ = [some (.ref u), some (.str m), some (.ref p), gv] ∧ Same H H' ∧ LS H' p (pre ++ [last]) ∧ pre.length + r = ks.length ∧ GM.rgo (sOf ks fs) m r (pre ++ [last]) last = GM.rat (sOf ks fs) ks.length m, ⟨ks.length, [], m, none, rfl, Same.new hp, upd_same, Nat.zero_add _, rfl⟩, ?_⟩
    rintro r σ H' ⟨pre, last, gv, rfl, s1, hP, hlen, hgo⟩
    have hU1 : DM H' u ks (fun x => .str (fs x)) := s1 _ _ hU
    have hat : atI ((pre ++ [last]).map V.str) (-1) = some (.str last) := by rw [List.map_append]; exact atI_last _ _
    have hsz : ((pre ++ [last]).map V.str).length = pre.length + 1 := by simp
    refine ⟨_, rfl, _, rfl, p, _, _, .str last, rfl, rfl, SqL.of hP, hat, _, rfl, u, _, rfl, dhas last hU1, _, rfl, ?_⟩
    by_cases hin : last ∈ ks
    · rw [if_pos hin]
      have es : sOf ks fs last = some (fs last) := if_pos hin
      refine ⟨_, rfl, p, _, rfl, .inl (SqL.of hP), _, rfl, u, _, rfl, hU1, _, _, rfl, rfl, _, rfl, ?_⟩
      rw [hsz, kvM_len]
      cases r with
      | zero =>
        refine iteDF (show ¬ (((pre.length + 1 : Nat) : Int) ≤ (ks.length : Int)) by omega) (k H' .non s1 ?_)
        rw [← hgo]
        exact rfl
      | succ r =>
        refine iteDT (show (((pre.length + 1 : Nat) : Int) ≤ (ks.length : Int)) by omega) ⟨fun σ' H3 => ∃ pre last gv, σ' = [some (.ref u), some (.str m), some (.ref p), gv] ∧ Same H H3 ∧ LS H3 p (pre ++ [last]) ∧ pre.length + r = ks.length ∧ GM.rgo (sOf ks fs) m r (pre ++ [last]) last = GM.rat (sOf ks fs) ks.length m, fun σ' H3 q => ⟨r, Nat.lt_succ_self r, q⟩, ?_⟩
        -- giver = starts[found[-1]]
        refine ⟨_, rfl, _, rfl, _, rfl, p, _, _, .str last, rfl, rfl, SqL.of hP, hat, u, _, rfl, dget hU1 hin, ?_⟩
        -- if giver == member
        refine ⟨_, rfl, _, rfl, rfl, _, rfl, ?_⟩
        by_cases e : fs last = m
        · rw [decide_eq_true (show V.str (fs last) = V.str m by rw [e])]
          refine ⟨_, rfl, k H' (.ref p) s1 ?_⟩
          rw [← hgo, GM.rgo_hit (es.trans (congrArg some e))]
          exact ⟨p, rfl, hP⟩
        · rw [decide_eq_false (show ¬ V.str (fs last) = V.str m from fun q => e (V.str.inj q))]
          refine ⟨_, rfl, Or.inl ⟨rfl, _, SqL.of hP⟩, _, rfl, p, _, _, rfl, rfl, hP, small (by rw [hsz]; omega), ?_⟩
          refine ⟨pre ++ [last], fs last, _, rfl, Same.mut s1 hp, ?_, by rw [List.length_append]; simp; omega, ?_⟩
          · show upd H' p _ p = _
            rw [upd_same, List.map_append (l₂ := [fs last])]; rfl
          · rw [← hgo, GM.rgo_on es e]
    · rw [if_neg hin]
      have es : sOf ks fs last = none := if_neg hin
      refine k H' .non s1 ?_
      rw [← hgo, GM.rgo_none es]
      exact rfl
/-! ### least_ring -/
def leS (a b : Str) : Prop := a.cps.toList ≤ b.cps.toList
theorem leS_trans {a b c : Str} (h1 : leS a b) (h2 : leS b c) : leS a c := List.le_trans h1 h2
theorem leS_of_lt {a b : Str} (h : ltS a b) : leS a b := List.le_of_lt h
theorem leS_anti {a b : Str} (h1 : leS a b) (h2 : leS b a) : a = b := by
  have e := List.le_antisymm h1 h2
  cases a with
  | mk x => cases b with
    | mk y =>
      have : x = y := Array.ext' e
      rw [this]
theorem rising_le : ∀ (l : List Str) (p : Str), PyProof.Rows.risingS p l = true → (∀ x ∈ l, leS p x) ∧ l.Pairwise leS
  | [], _, _ => ⟨fun x hx => absurd hx (by simp), List.Pairwise.nil⟩
  | y :: l, p, h => by
    have h : (!Spec.ltCps y.cps.toList p.cps.toList && PyProof.Rows.risingS y l) = true := h
    rw [Bool.and_eq_true] at h
    obtain ⟨h1, h2⟩ := h
    rw [PyProof.Rows.ltCps_eq] at h1
    have py : leS p y := by
      show ¬ (y.cps.toList < p.cps.toList)
      simpa using h1
    obtain ⟨i1, i2⟩ := rising_le l y h2
    refine ⟨fun x hx => ?_, List.pairwise_cons.mpr ⟨i1, i2⟩⟩
    rcases List.mem_cons.mp hx with q | q
    · rw [q]; exact py
    · exact leS_trans py (i1 x q)
theorem sorted_le {l : List Str} (h : PyProof.Rows.sortedS l = true) : l.Pairwise leS := by
  cases l with
  | nil => exact List.Pairwise.nil
  | cons a t =>
    obtain ⟨i1, i2⟩ := rising_le t a h
    exact List.pairwise_cons.mpr ⟨i1, i2⟩
theorem srt_eq {ys ks : List Str} (hk : ks.Pairwise ltS) (hp : ys.Perm ks) (hs : PyProof.Rows.sortedS ys = true) : ys = ks :=
  List.Perm.eq_of_pairwise (le := leS) (fun _ _ _ _ a b => leS_anti a b) (sorted_le hs) (hk.imp leS_of_lt) hp
theorem findSome_take {β γ : Type} {f : β → Option γ} {l : List β} {i : Nat} {x : β} {y : γ} (h1 : ∀ z ∈ l.take i, f z = none) (h2 : l[i]? = some x) (h3 : f x = some y) : l.findSome? f = some y := by
  have e : l = l.take i ++ x :: l.drop (i + 1) := by
    obtain ⟨a, b⟩ := List.getElem?_eq_some_iff.mp h2
    rw [← b]
    rw [List.getElem_cons_drop, List.take_append_drop]
  rw [e, List.findSome?_append, List.findSome?_eq_none_iff.mpr h1]
  show List.findSome? f (x :: _) = some y
  rw [List.findSome?_cons, h3]
abbrev sLeastRing : Stmt := top 29
theorem scLeastRing : FnScope ["starts", "member", "ring"] ["starts"] (defScope sLeastRing) := ⟨rfl, rfl, rfl, by decide +kernel, rfl, by decide +kernel, by decide +kernel⟩
def spLeast : Sp := fun vs H Q _ => ∃ u ks fs, vs = [.ref u] ∧ DM H u ks (fun x => .str (fs x)) ∧ ks.length ≤ 60 ∧ ks.Pairwise ltS ∧ ∀ H' r, Same H H' → RingV H' (ks.findSome? fun x => GM.rat (sOf ks fs) ks.length x) r → Q r H'
theorem ok_least_ring {f : Addr} {fd : FuncData} (F : Fun K "least_ring" "least_ring" sLeastRing f fd) (T : Txt K mg) (Dring_at : Dn P w K mg base CX0 1 "ring_at" ["starts", "member"] spRingAt) : FnOk P w K mg base CX0 2 f fd ["starts"] spLeast := by
  refine F.ok scLeastRing (fun vs H Q E h => ?_) (fun cdv A outer s H vs Q E hr h => ?_)
  · obtain ⟨u, ks, fs, rfl, _⟩ := h
    rfl
  · obtain ⟨u, ks, fs, rfl, hU, hl, hsrt, k⟩ := h
    have hu := hu_of hr
    refine ⟨_, (pss_cons (ps_for PassesOwn.never rfl (pi_list (g_sortedD T (pv 0))) (pg_name (i := 1) scLeastRing.nd rfl (by first | exact Or.inl rfl | exact Or.inr rfl)) (pss_cons (ps_set (i := 2) scLeastRing.nd rfl (Or.inl rfl) (call_dn Dring_at hr (pa_cons (pv 0) (pa_cons (pv 1) pa_nil))))
            (pss_one (ps_if (pt_cmpR op_notN (pv 2) pe_non (nomark _)) (pss_one (ps_ret (pv 2))) pss_nil))))
        (pss_one (ps_ret pe_non))), ?_⟩
    refine ⟨_, rfl, u, _, ks, rfl, .inl hU, kvM_keys _ _, by omega, fun ys p hperm hss hp => ?_⟩
    have e := srt_eq hsrt hperm hss
    subst e
    refine ⟨p, rfl, ⟨_, SqL.of upd_same⟩, for_it (walk_list (xs := ys.map V.str)) (fun i σ H' => (∃ a b, σ = [some (.ref u), a, b]) ∧ Same H H' ∧ LS H' p ys ∧ ∀ x ∈ ys.take i, GM.rat (sOf ys fs) ys.length x = none) ⟨⟨_, _, rfl⟩, Same.new hp, upd_same, fun x hx => absurd hx (by simp)⟩ (fun i σ H' _ q => SqL.of q.2.2.1) ?_ ?_⟩
    · rintro i x σ H' H'' hi ⟨⟨a, b, rfl⟩, s1, hP, hno⟩ ⟨rfl, hx⟩
      obtain ⟨z, hz, rfl, hzm⟩ := at_str hx
      refine ⟨_, rfl, _, rfl, u, ys, fs, z, rfl, s1 _ _ hU, by omega, fun H3 r s2 hR => ?_⟩
      refine ⟨_, rfl, rfl, _, rfl, ?_⟩
      cases e : GM.rat (sOf ys fs) ys.length z with
      | none =>
        rw [e] at hR
        have hR : r = .non := hR
        rw [decide_eq_true hR]
        refine ⟨⟨_, _, rfl⟩, Same.trans s1 s2, s2 _ _ hP, fun x hx => ?_⟩
        rw [take_snoc hz] at hx
        rcases List.mem_append.mp hx with q | q
        · exact hno x q
        · rw [List.mem_singleton.mp q]; exact e
      | some l =>
        rw [e] at hR
        obtain ⟨q, rfl, hq⟩ := hR
        rw [decide_eq_false (show ¬ V.ref q = V.non from fun z => nomatch z)]
        refine ⟨_, rfl, k H3 _ (Same.trans s1 s2) ?_⟩
        rw [findSome_take hno hz e]
        exact ⟨q, rfl, hq⟩
    · rintro σ H' ⟨⟨a, b, rfl⟩, s1, hP, hno⟩
      refine k H' .non s1 ?_
      rw [List.length_map, List.take_length] at hno
      rw [List.findSome?_eq_none_iff.mpr hno]
      exact rfl
/-! ### conflict_in, conflict_of -/
/-- a conflict as a value, or None -/
def ConfV (H : Hp) : Option (GM.Conf Str) → V → Prop
  | none, r => r = .non
  | some (.unb x a b), r => ∃ p, r = .ref p ∧ H p = some (.tup [.str "unbalanced", .str x, .int (a : Nat), .int (b : Nat)])
  | some (.ring l), r => ∃ p q, r = .ref p ∧ H p = some (.tup [.str "ring", .ref q]) ∧ LS H q l
theorem ConfV.on {H H' : Hp} (e : Same H H') : ∀ {o : Option (GM.Conf Str)} {r : V}, ConfV H o r → ConfV H' o r
  | none, _, h => h
  | some (.unb _ _ _), _, ⟨p, a, b⟩ => ⟨p, a, e _ _ b⟩
  | some (.ring _), _, ⟨p, q, a, b, c⟩ => ⟨p, q, a, e _ _ b, e _ _ c⟩
theorem sOf_keys {ms : List Str} {first : Str} {L : Str → List Str} : sOf (GM.keys ms first L) (fst1 L) = GM.stm ms first L := by
  funext x
  unfold sOf GM.stm
  by_cases hx : x ∈ ms
  · rw [if_pos hx]
    by_cases hk : x ∈ GM.keys ms first L
    · rw [if_pos hk]
      have := (GM.mem_keys.mp hk).2
      cases e : GM.st first L x with
      | none => rw [e] at this; cases this
      | some g =>
        obtain ⟨_, t, e2⟩ := GM.st_some e
        unfold fst1
        rw [e2]; rfl
    · rw [if_neg hk]
      cases e : GM.st first L x with
      | none => rfl
      | some g => exact absurd (GM.mem_keys.mpr ⟨hx, by rw [e]; rfl⟩) hk
  · rw [if_neg hx, if_neg (fun q => hx (GM.mem_keys.mp q).1)]
theorem least_eq {ms : List Str} {first : Str} {L : Str → List Str} (hL : GM.Lok ms L) : (GM.keys ms first L).findSome? (fun x => GM.rat (sOf (GM.keys ms first L) (fst1 L)) (GM.keys ms first L).length x) = GM.lring ms first L := by
  rw [GM.lring_keys, sOf_keys]
  have : ∀ l : List Str, (∀ x ∈ l, x ∈ ms) → l.findSome? (fun x => GM.rat (GM.stm ms first L) (GM.keys ms first L).length x) = l.findSome? fun x => GM.rat (GM.st first L) (GM.keys ms first L).length x := by
    intro l
    induction l with
    | nil => intro _; rfl
    | cons a t ih =>
      intro h
      rw [List.findSome?_cons, List.findSome?_cons, GM.stm_rat hL (h a (List.mem_cons_self ..)), ih fun x hx => h x (List.mem_cons_of_mem _ hx)]
  exact this _ fun x hx => (GM.mem_keys.mp hx).1
theorem keys_srt {ms : List Str} {first : Str} {L : Str → List Str} (M : Ms ms) : (GM.keys ms first L).Pairwise ltS := by
  unfold GM.keys
  exact List.Pairwise.sublist List.filter_sublist M.srt
theorem keys_len {ms : List Str} {first : Str} {L : Str → List Str} (M : Ms ms) : (GM.keys ms first L).length ≤ 12 := by
  unfold GM.keys
  exact Nat.le_trans (List.length_filter_le _ _) M.l12
theorem find_take {β : Type} {f : β → Bool} {l : List β} {i : Nat} {x : β} (h1 : ∀ z ∈ l.take i, f z = false) (h2 : l[i]? = some x) (h3 : f x = true) : l.find? f = some x := by
  have e : l = l.take i ++ x :: l.drop (i + 1) := by
    obtain ⟨a, b⟩ := List.getElem?_eq_some_iff.mp h2
    rw [← b]
    rw [List.getElem_cons_drop, List.take_append_drop]
  rw [e, List.find?_append, List.find?_eq_none.mpr (fun z hz => by rw [h1 z hz]; decide)]
  show List.find? f (x :: _) = some x
  rw [List.find?_cons, h3]
abbrev sConflictIn : Stmt := top 30
theorem scConflictIn : FnScope ["members", "first", "lists", "member", "had", "named", "ring"] ["members", "first", "lists"] (defScope sConflictIn) := ⟨rfl, rfl, rfl, by decide +kernel, rfl, by decide +kernel, by decide +kernel⟩
def spConflict : Sp := fun vs H Q _ => ∃ m ms first d ad L, vs = [.ref m, .str first, .ref d] ∧ LS H m ms ∧ Ms ms ∧ first ∈ ms ∧ DL H d ms ad L ∧ LsOk ms L ∧ ∀ H' r, Same H H' → ConfV H' (GM.conf ms first L) r → Q r H'
theorem ok_conflict_in {f : Addr} {fd : FuncData} (F : Fun K "conflict_in" "conflict_in" sConflictIn f fd) (T : Txt K mg) (Duses_of : Dn P w K mg base CX0 1 "uses_of" ["members", "first", "lists"] spUses) (Dstarts_of : Dn P w K mg base CX0 1 "starts_of" ["members", "first", "lists"] spStarts)
    (Dleast_ring : Dn P w K mg base CX0 2 "least_ring" ["starts"] spLeast) : FnOk P w K mg base CX0 3 f fd ["members", "first", "lists"] spConflict := by
  refine F.ok scConflictIn (fun vs H Q E h => ?_) (fun cdv A outer s H vs Q E hr h => ?_)
  · obtain ⟨m, ms, first, d, ad, L, rfl, _⟩ := h
    rfl
  · obtain ⟨m, ms, first, d, ad, L, rfl, hm, M, hf, D, Lo, k⟩ := h
    have hu := hu_of hr
    have h12 := M.l12
    refine ⟨_, (pss_cons (ps_for PassesOwn.never rfl (pi_items (pe_frz (call_dn Duses_of hr (pa_cons (pv 0) (pa_cons (pv 1) (pa_cons (pv 2) pa_nil)))))) ((pg_tup rfl (pgs_cons (pg_name (i := 3) scConflictIn.nd rfl (by first | exact Or.inl rfl | exact Or.inr rfl)) (pgs_cons ((pg_tup rfl (pgs_cons (pg_name (i := 4) scConflictIn.nd rfl (by first | exact Or.inl rfl | exact Or.inr rfl)) (pgs_cons (pg_name (i := 5) scConflictIn.nd rfl (by first | exact Or.inl rfl | exact Or.inr rfl)) pgs_nil)))) pgs_nil)))) (pss_one (ps_if (pt_cmpR op_notIn_seq (pe_op op_sub (pv 4) (pv 5)) (pe_tup (pa_cons pe_int (pa_cons pe_int pa_nil))) rfl) (pss_one (ps_ret (pe_tup (pa_cons (c_unb T) (pa_cons (pv 3) (pa_cons (pv 4) (pa_cons (pv 5) pa_nil))))))) pss_nil)))
        (pss_cons (ps_set (i := 6) scConflictIn.nd rfl (Or.inl rfl) (call_dn Dleast_ring hr (pa_cons (call_dn Dstarts_of hr (pa_cons (pv 0) (pa_cons (pv 1) (pa_cons (pv 2) pa_nil)))) pa_nil)))
        (pss_one (ps_ret (pe_ifExp (pt_cmpR op_isN (pv 6) pe_non (nomark _)) pe_non (pe_tup (pa_cons (c_ring T) (pa_cons (pv 6) pa_nil)))))))), ?_⟩
    refine ⟨_, rfl, _, rfl, _, rfl, m, ms, first, d, ad, L, rfl, hm, M, D, Lo, fun H1 u ta s1 hu0 U => ⟨u, _, rfl, U.1, trivial, fun o => ?_⟩⟩
    have s2 : Same H (upd H1 u (.frz o (.dK (kvM (fun x => .ref (ta x)) ms)))) := frz_same s1 hu0
    have tu : ∀ x ∈ ms, ta x ≠ u := fun x hx => ne_of (U.2 x hx) U.1 (fun z => nomatch z)
    have ut : ∀ x ∈ ms, upd H1 u (.frz o (.dK (kvM (fun x => .ref (ta x)) ms))) (ta x) = some (.tup [.int (GM.had first L x), .int (GM.named ms L x)]) := fun x hx => by rw [upd_ne (tu x hx)]; exact U.2 x hx
    have uu : upd H1 u (.frz o (.dK (kvM (fun x => V.ref (ta x)) ms))) u = some (.frz o (.dK (kvM (fun x => V.ref (ta x)) ms))) := upd_same
    generalize upd H1 u (.frz o (.dK (kvM (fun x => V.ref (ta x)) ms))) = H2 at s2 ut uu
    refine ⟨u, o, _, rfl, uu, for_it (walk_items (kvs := kvM (fun x => V.ref (ta x)) ms)) (fun i σ H' => (∃ a b c e, σ = [some (.ref m), some (.str first), some (.ref d), a, b, c, e]) ∧ Same H2 H' ∧ ∀ x ∈ ms.take i, GM.off ms first L x = false) ⟨⟨_, _, _, _, rfl⟩, Same.refl _, fun x hx => absurd hx (by simp)⟩ (fun i σ H' _ q => q.2.1 _ _ uu) ?_ ?_⟩
    · rintro i x σ H' H'' hi ⟨⟨a, b, c, e, rfl⟩, s3, hno⟩ ⟨t, x1, x2, rfl, ht, rfl, e1, e2⟩
      obtain ⟨z, hz, rfl, rfl, hzm⟩ := at_item e1 e2
      have s4 : Same H2 (upd H' t (.tup [.str z, .ref (ta z)])) := Same.trans s3 (Same.new ht)
      refine ⟨t, _, rfl, SqT.of upd_same, rfl, _, _, rfl, _, _, rfl, ⟨ta z, _, rfl, SqT.of (s4 _ _ (ut z hzm)), rfl, _, _, rfl, _, _, rfl, rfl, rfl, ?_⟩⟩
      -- if had - named not in (0, 1)
      refine ⟨_, rfl, _, rfl, _, _, rfl, rfl, by show 2 ≤ sizeLine; decide, fun p hp => ⟨p, _, rfl, .inr (SqT.of upd_same), rfl, rfl, _, rfl, ?_⟩⟩
      have s5 := Same.trans s4 (Same.new (o := .tup [.int 0, .int 1]) hp)
      show if (!inV (.int (GM.sur ms first L z)) [.int 0, .int 1]) = true then _ else _
      rw [inV01]
      by_cases q : GM.sur ms first L z = 0 ∨ GM.sur ms first L z = 1
      · refine iteNS q ?_
        refine ⟨⟨_, _, _, _, rfl⟩, s5, fun x hx => ?_⟩
        rw [take_snoc hz] at hx
        rcases List.mem_append.mp hx with w | w
        · exact hno x w
        · rw [List.mem_singleton.mp w]
          unfold GM.off
          exact decide_eq_false (fun n => n q)
      · refine iteNT q ?_
        refine ⟨_, rfl, _, rfl, _, rfl, by show 4 ≤ sizeLine; decide, fun p2 hp2 => k _ _ (Same.trans s2 (Same.trans s5 (Same.new hp2))) ?_⟩
        unfold GM.conf
        rw [find_take hno hz (by unfold GM.off; exact decide_eq_true q)]
        exact ⟨p2, rfl, upd_same⟩
    · rintro σ H' ⟨⟨a, b, c, e, rfl⟩, s3, hno⟩
      rw [kvM_len, List.take_length] at hno
      have s4 := Same.trans s2 s3
      refine ⟨_, rfl, _, rfl, _, rfl, m, ms, first, d, ad, L, rfl, Same.ls s4 hm, M, D.on s4, Lo, fun H3 us s5 _ hS => ?_⟩
      refine ⟨us, _, _, rfl, hS, Nat.le_trans (keys_len M) (by decide), keys_srt M, fun H4 r s6 hR => ?_⟩
      rw [least_eq Lo.ok] at hR
      have ec : GM.conf ms first L = (GM.lring ms first L).map .ring := by
        unfold GM.conf
        rw [List.find?_eq_none.mpr fun x hx => by rw [hno x hx]; decide]
      refine ⟨_, rfl, rfl, _, rfl, ?_⟩
      cases e : GM.lring ms first L with
      | none =>
        rw [e] at hR ec
        have hR : r = .non := hR
        rw [decide_eq_true hR]
        refine k H4 .non (Same.trans s4 (Same.trans s5 s6)) ?_
        rw [ec]; exact rfl
      | some l =>
        rw [e] at hR ec
        obtain ⟨q, rfl, hq⟩ := hR
        rw [decide_eq_false (show ¬ V.ref q = V.non from fun z => nomatch z)]
        refine ⟨_, rfl, by show 2 ≤ sizeLine; decide, fun p hp => k _ _ (Same.trans s4 (Same.trans s5 (Same.trans s6 (Same.new hp)))) ?_⟩
        rw [ec]
        exact ⟨p, q, rfl, upd_same, Same.ls (Same.new hp) hq⟩
abbrev sConflictOf : Stmt := top 33
theorem scConflictOf : FnScope ["members", "first", "lists"] ["members", "first", "lists"] (defScope sConflictOf) := ⟨rfl, rfl, rfl, by decide +kernel, rfl, by decide +kernel, by decide +kernel⟩
theorem ok_conflict_of {f : Addr} {fd : FuncData} (F : Fun K "conflict_of" "conflict_of" sConflictOf f fd) (T : Txt K mg) (Dneed_lists : Dn P w K mg base CX0 4 "need_lists" ["members", "first", "lists"] spNeedLists) (Dconflict_in : Dn P w K mg base CX0 3 "conflict_in" ["members", "first", "lists"] spConflict) : FnOk P w K mg base CX0 5 f fd ["members", "first", "lists"] spConflict := by
  refine F.ok scConflictOf (fun vs H Q E h => ?_) (fun cdv A outer s H vs Q E hr h => ?_)
  · obtain ⟨m, ms, first, d, ad, L, rfl, _⟩ := h
    rfl
  · obtain ⟨m, ms, first, d, ad, L, rfl, hm, M, hf, D, Lo, k⟩ := h
    refine ⟨_, (pss_cons (ps_expr (call_dn Dneed_lists hr (pa_cons (pv 0) (pa_cons (pv 1) (pa_cons (pv 2) pa_nil)))))
        (pss_one (ps_ret (call_dn Dconflict_in hr (pa_cons (pv 0) (pa_cons (pv 1) (pa_cons (pv 2) pa_nil))))))), ?_⟩
    refine ⟨_, rfl, _, rfl, _, rfl, m, ms, first, d, ad, L, rfl, hm, M, hf, D, Lo, fun H1 s1 => ?_⟩
    exact ⟨_, rfl, _, rfl, _, rfl, m, ms, first, d, ad, L, rfl, Same.ls s1 hm, M, hf, D.on s1, Lo, fun H2 r s2 hR => k H2 r (Same.trans s1 s2) hR⟩
end
end G

set_option maxHeartbeats 4000000
namespace G
open PySem L2
section
variable {P : Program} {w : World} {K : PySem.W.Frag} {mg : Str → Option Value} {base : Heap}
/-! ### walked -/
/-- last is the one member with surplus 1 -/
def LastOf (ms : List Str) (first : Str) (L : Str → List Str) (last : Str) : Prop := ms.filter (fun x => decide (GM.sur ms first L x = 1)) = [last]
/-- the walk's history -/
def hist (ms : List Str) (L : Str → List Str) (last : Str) : List Str := (last :: GM.bw L (GM.nsum (fun x => (L x).length) ms) (fun x => (L x).length) last).reverse
theorem nsum_le {ms : List Str} {f : Str → Nat} {b : Nat} (h : ∀ x ∈ ms, f x ≤ b) : GM.nsum f ms ≤ ms.length * b := by
  induction ms with
  | nil => exact Nat.zero_le _
  | cons a t ih =>
    have := ih fun x hx => h x (List.mem_cons_of_mem _ hx)
    have := h a (List.mem_cons_self ..)
    rw [GM.nsum_cons, List.length_cons, Nat.add_mul]
    omega
theorem sur1_take {ms : List Str} {first : Str} {L : Str → List Str} {i : Nat} {x : Str} (h : ms[i]? = some x) :
    (ms.take (i + 1)).filter (fun x => decide (GM.sur ms first L x = 1)) = if GM.sur ms first L x = 1 then (ms.take i).filter (fun x => decide (GM.sur ms first L x = 1)) ++ [x] else (ms.take i).filter (fun x => decide (GM.sur ms first L x = 1)) := by
  rw [take_snoc h, List.filter_append, List.filter_cons]
  by_cases e : GM.sur ms first L x = 1
  · rw [if_pos e, if_pos (decide_eq_true e)]; rfl
  · rw [if_neg e, if_neg (by rw [decide_eq_false e]; decide)]; simp
abbrev sWalked : Stmt := top 31
theorem scWalked : FnScope ["members", "first", "lists", "left", "holder", "found", "member", "surplus"] ["members", "first", "lists"] (defScope sWalked) := ⟨rfl, rfl, rfl, by decide +kernel, rfl, by decide +kernel, by decide +kernel⟩
def spWalked : Sp := fun vs H Q _ => ∃ m ms first d ad L last, vs = [.ref m, .str first, .ref d] ∧ LS H m ms ∧ Ms ms ∧ DL H d ms ad L ∧ LsOk ms L ∧ LastOf ms first L last ∧ ∀ H' p, Same H H' → H p = none → LS H' p (hist ms L last) → Q (.ref p) H'
theorem ok_walked {f : Addr} {fd : FuncData} (F : Fun K "walked" "walked" sWalked f fd) (T : Txt K mg) (Dsurpluses_of : Dn P w K mg base CX0 2 "surpluses_of" ["members", "first", "lists"] spSurpl) : FnOk P w K mg base CX0 3 f fd ["members", "first", "lists"] spWalked := by
  refine F.ok scWalked (fun vs H Q E h => ?_) (fun cdv A outer s H vs Q E hr h => ?_)
  · obtain ⟨m, ms, first, d, ad, L, last, rfl, _⟩ := h
    rfl
  · obtain ⟨m, ms, first, d, ad, L, last, rfl, hm, M, D, Lo, hL, k⟩ := h
    have hu := hu_of hr
    have h12 := M.l12
    have hN : GM.nsum (fun x => (L x).length) ms ≤ 2400 := by
      have := nsum_le (f := fun x => (L x).length) Lo.len
      omega
    refine ⟨_, (pss_cons (ps_setDc (i := 3) (own := [("member", 6)]) (g := gName 6) (tt := tYes) rfl scWalked.nd rfl rfl (sw_trueD rfl rfl rfl (by decide +kernel)) (pi_list (pv 0)) (blkOk_by (N := ["members", "first", "lists", "left", "holder", "found", "member", "surplus"]) (sc := defScope sWalked) (by decide +kernel)) (fun _ _ _ _ _ => pg_name (i := 6) scWalked.nd rfl (by first | exact Or.inl rfl | exact Or.inr rfl)) (fun _ _ _ _ _ => pts_nil) (fun _ _ _ _ _ => (pv 6)) (fun _ _ _ _ _ => (g_lenL T (pe_dget hu (pv 2) (pv 6) (fun _ _ => rfl)))))
        (pss_cons (ps_set (i := 4) scWalked.nd rfl (Or.inl rfl) (g_ixL T (pe_lc (own := [("member", 6), ("surplus", 7)]) (g := gTup _ 2 (gCons (gName 6) (gCons (gName 7) gNil))) rfl scWalked.nd (pi_items (pe_frz (call_dn Dsurpluses_of hr (pa_cons (pv 0) (pa_cons (pv 1) (pa_cons (pv 2) pa_nil)))))) (blkOk_by (N := ["members", "first", "lists", "left", "holder", "found", "member", "surplus"]) (sc := defScope sWalked) (by decide +kernel)) (fun _ _ _ _ _ => (pg_tup rfl (pgs_cons (pg_name (i := 6) scWalked.nd rfl (by first | exact Or.inl rfl | exact Or.inr rfl)) (pgs_cons (pg_name (i := 7) scWalked.nd rfl (by first | exact Or.inl rfl | exact Or.inr rfl)) pgs_nil)))) (fun _ _ _ _ _ => (pts_one (pt_cmpR op_eq (pv 7) pe_int (nomark _)))) (fun _ _ _ _ _ => (pv 6))) pe_int (fun _ _ => rfl)))
        (pss_cons (ps_set (i := 5) scWalked.nd rfl (Or.inl rfl) (pe_lst (pa_cons (pv 4) pa_nil)))
        (pss_cons (ps_while PassesOwn.never (pt_cmpR op_gt (pe_dget hu (pv 3) (pv 4) (fun _ _ => rfl)) pe_int (nomark _)) (pss_cons (ps_daug hu (pv 3) (pv 4) pe_int in_sub (fun _ _ _ => rfl))
            (pss_cons (ps_set (i := 4) scWalked.nd rfl (Or.inl rfl) (g_ixL T (pe_dget hu (pv 2) (pv 4) (fun _ _ => rfl)) (pe_dget hu (pv 3) (pv 4) (fun _ _ => rfl)) (fun _ _ => rfl)))
            (pss_one (ps_expr (pe_bm PySem.F.plainAttrs_list PySem.F.slot_list_append PySem.F.type_list_append mt_append (pv 5) (pa_cons (pv 4) pa_nil)))))))
        (pss_one (ps_ret (pe_revL (pv 5)))))))), ?_⟩
    -- left
    refine ⟨_, rfl, m, rfl, ⟨_, SqL.of hm⟩, dc_pure walk_list (fun i => kvM (fun x => .int ((L x).length : Nat)) (ms.take i)) rfl (fun _ e => Same.seq e (SqL.of hm)) (fun X i x H' H'' hi hD s3 d3 y => ?_) (fun lf H1 hlf s1 d1 => ?_)⟩
    · obtain ⟨rfl, hx⟩ := y
      obtain ⟨z, hz, rfl, hzm⟩ := at_str hx
      have D3 := D.on s3
      refine ⟨rfl, ⟨_, rfl, _, rfl, _, rfl, d, _, rfl, dget D3.dk hzm, ad z, _, rfl, .inl (SqL.of (D3.l z hzm)), ?_⟩⟩
      exact dcY hD s3 d3 (Same.refl _) M.nd hz (by omega) (by rw [List.length_map])
    rw [List.length_map, List.take_length] at d1
    -- holder
    refine ⟨_, rfl, _, rfl, _, rfl, m, ms, first, d, ad, L, rfl, Same.ls s1 hm, M, D.on s1, Lo, fun H2 u s2 hu0 U => ⟨u, _, rfl, U, trivial, fun o => ?_⟩⟩
    have s3 : Same H1 (upd H2 u (.frz o (.dK (kvM (fun x => .int (GM.sur ms first L x)) ms)))) := frz_same s2 hu0
    have uu : upd H2 u (.frz o (.dK (kvM (fun x => V.int (GM.sur ms first L x)) ms))) u = some (.frz o (.dK (kvM (fun x => V.int (GM.sur ms first L x)) ms))) := upd_same
    generalize upd H2 u (.frz o (.dK (kvM (fun x => V.int (GM.sur ms first L x)) ms))) = H3 at s3 uu
    refine ⟨u, o, _, rfl, uu, lc_pure (walk_items (kvs := kvM (fun x => V.int (GM.sur ms first L x)) ms)) (fun i => ((ms.take i).filter (fun x => decide (GM.sur ms first L x = 1))).map V.str) rfl (fun _ e => e _ _ uu) (fun X i x H' H'' hi hD s4 d4 y => ?_) (fun X H4 hX s4 d4 => ?_)⟩
    · obtain ⟨t, x1, x2, rfl, ht, rfl, e1, e2⟩ := y
      obtain ⟨z, hz, rfl, rfl, hzm⟩ := at_item e1 e2
      have s5 := Same.new (o := .tup [.str z, .int (GM.sur ms first L z)]) ht
      refine ⟨t, _, rfl, SqT.of upd_same, rfl, _, _, rfl, _, _, rfl, rfl, rfl, _, rfl, rfl, _, rfl, ?_⟩
      have hsm : (((ms.take i).filter (fun x => decide (GM.sur ms first L x = 1))).map V.str).length ≤ 100 := by
        rw [List.length_map]
        have := List.length_filter_le (fun x => decide (GM.sur ms first L x = 1)) (ms.take i)
        rw [List.length_take] at this
        omega
      by_cases e : GM.sur ms first L z = 1
      · rw [decide_eq_true (show V.int (GM.sur ms first L z) = V.int 1 by rw [e])]
        refine ⟨_, rfl, ?_⟩
        refine lcY hD s4 d4 s5 (small (by omega)) ?_
        show ((ms.take (i + 1)).filter _).map V.str = _
        rw [sur1_take hz, if_pos e, List.map_append]; rfl
      · rw [decide_eq_false (show ¬ V.int (GM.sur ms first L z) = V.int 1 from fun q => e (V.int.inj q))]
        refine ⟨Same.trans s4 s5, ?_⟩
        show _ = some (HO.lst (((ms.take (i + 1)).filter _).map V.str))
        rw [sur1_take hz, if_neg e]
        exact s5 _ _ d4
    rw [kvM_len, List.take_length] at d4
    have hL' : ms.filter (fun x => decide (GM.sur ms first L x = 1)) = [last] := hL
    rw [hL'] at d4
    have hlast : last ∈ ms := (List.mem_filter.mp (by rw [hL']; exact List.mem_cons_self ..)).1
    refine ⟨X, _, 0, .str last, rfl, rfl, SqL.of d4, atI_nat (j := 0) rfl, ?_⟩
    have s5 : Same H H4 := Same.trans s1 (Same.trans s3 s4)
    have l4 : DM H4 lf ms (fun x => .int ((L x).length : Nat)) := Same.trans s3 s4 _ _ d1
    -- found = [holder]
    refine ⟨_, rfl, by show 1 ≤ sizeLine; decide, fun p hp => ?_⟩
    have hp0 : H p = none := Same.free s5 hp
    have lp : lf ≠ p := ne_of_none l4 hp
    refine ⟨fun n σ H' => ∃ left h acc a b, σ = [some (.ref m), some (.str first), some (.ref d), some (.ref lf), some (.str h), some (.ref p), a, b] ∧ Same H H' ∧ DM H' lf ms (fun x => .int (left x : Nat)) ∧ LS H' p acc ∧ h ∈ ms ∧ (∀ x ∈ ms, left x ≤ (L x).length) ∧ GM.nsum left ms = n ∧ acc.length + n ≤ 3000 ∧
      acc ++ GM.bw L n left h = last :: GM.bw L (GM.nsum (fun x => (L x).length) ms) (fun x => (L x).length) last, ⟨GM.nsum (fun x => (L x).length) ms, fun x => (L x).length, last, [last], none, none, rfl, Same.trans s5 (Same.new hp), ?_, upd_same, hlast, fun x _ => Nat.le_refl _, rfl, by show 1 + _ ≤ 3000; omega, rfl⟩, ?_⟩
    · exact Same.new hp _ _ l4
    · rintro n σ H' ⟨left, h, acc, a, b, rfl, s6, d6, f6, hh, hle, hn, hacc, hbw⟩
      refine ⟨_, rfl, _, rfl, lf, _, rfl, dget d6 hh, _, _, rfl, rfl, _, rfl, ?_⟩
      by_cases e : left h = 0
      · refine iteDF (show ¬ ((0 : Int) < (left h : Nat)) by omega) ?_
        refine ⟨_, rfl, p, _, rfl, SqL.of f6, fun r hr => ?_⟩
        rw [GM.bw_stop e, List.append_nil] at hbw
        refine k _ r (Same.trans s6 (Same.new hr)) (Same.free s6 hr) ?_
        show upd H' r _ r = _
        rw [upd_same, hbw, ← List.map_reverse]; rfl
      · have hlt : left h - 1 < (L h).length := by have := hle h hh; omega
        obtain ⟨g, eg⟩ : ∃ g, (L h)[left h - 1]? = some g := ⟨(L h)[left h - 1], by simp [hlt]⟩
        have gms := (Lo.ok h hh g (List.mem_of_getElem? eg)).1
        have dsum : GM.nsum (GM.dn left h) ms + 1 = GM.nsum left ms := GM.nsum_fall M.nd hh (fun x _ q => by unfold GM.dn; rw [if_neg q]) (by unfold GM.dn; rw [if_pos rfl]; omega)
        obtain ⟨n', rfl⟩ : ∃ n', n = n' + 1 := ⟨n - 1, by omega⟩
        refine iteDT (show ((0 : Int) < (left h : Nat)) by omega) ⟨fun σ' H3 => ∃ left h acc a b, σ' = [some (.ref m), some (.str first), some (.ref d), some (.ref lf), some (.str h), some (.ref p), a, b] ∧ Same H H3 ∧ DM H3 lf ms (fun x => .int (left x : Nat)) ∧ LS H3 p acc ∧ h ∈ ms ∧ (∀ x ∈ ms, left x ≤ (L x).length) ∧ GM.nsum left ms = n' ∧ acc.length + n' ≤ 3000 ∧
          acc ++ GM.bw L n' left h = last :: GM.bw L (GM.nsum (fun x => (L x).length) ms) (fun x => (L x).length) last, fun σ' H3 q => ⟨n', Nat.lt_succ_self _, q⟩, ?_⟩
        -- left[holder] -= 1
        refine ⟨_, rfl, _, rfl, lf, _, rfl, dget d6 hh, _, _, rfl, rfl, _, DPut.k (k := Sum.inr h) d6 (small (by rw [kvM_len]; omega)), ?_⟩
        have e7 : kvM (fun y => if y = h then V.int ((left h : Nat) - 1) else V.int (left y : Nat)) ms = kvM (fun y => V.int (GM.dn left h y : Nat)) ms := kvM_congr fun y _ => by
          unfold GM.dn
          by_cases q : y = h
          · subst q
            rw [if_pos rfl, if_pos rfl]
            exact congrArg V.int (by omega)
          · rw [if_neg q, if_neg q]
        have d7 : DM (upd H' lf (.dK (putK (kvM (fun x => V.int (left x : Nat)) ms) (Sum.inr h) (V.int ((left h : Nat) - 1))))) lf ms (fun y => .int (GM.dn left h y : Nat)) := by
          show upd H' lf _ lf = _
          rw [upd_same, putK_old _ hh, e7]
        have s7 : Same H (upd H' lf (.dK (putK (kvM (fun x => V.int (left x : Nat)) ms) (Sum.inr h) (V.int ((left h : Nat) - 1))))) := Same.mut s6 hlf
        have f7 : LS (upd H' lf (.dK (putK (kvM (fun x => V.int (left x : Nat)) ms) (Sum.inr h) (V.int ((left h : Nat) - 1))))) p acc := by
          show upd H' lf _ p = _
          rw [upd_ne lp.symm]; exact f6
        generalize upd H' lf (.dK (putK (kvM (fun x => V.int (left x : Nat)) ms) (Sum.inr h) (V.int ((left h : Nat) - 1)))) = H7 at d7 s7 f7
        have D7 := D.on s7
        -- holder = lists[holder][left[holder]]
        have hi : (GM.dn left h h : Nat) = left h - 1 := by unfold GM.dn; rw [if_pos rfl]
        refine ⟨_, rfl, _, rfl, d, _, rfl, dget D7.dk hh, _, rfl, _, rfl, lf, _, rfl, dget d7 hh, ad h, _, _, .str g, rfl, rfl, SqL.of (D7.l h hh), at_of (j := left h - 1) (by rw [hi]) (by rw [List.getElem?_map, eg]; rfl), ?_⟩
        -- found.append(holder)
        refine ⟨_, rfl, Or.inl ⟨rfl, _, SqL.of f7⟩, _, rfl, p, _, _, rfl, rfl, f7, small (by rw [List.length_map]; omega), ?_⟩
        refine ⟨GM.dn left h, g, acc ++ [g], a, b, rfl, Same.mut s7 hp0, ?_, ?_, gms, fun x hx => ?_, by omega, by simp; omega, ?_⟩
        · show upd H7 p _ lf = _
          rw [upd_ne lp]; exact d7
        · show upd H7 p _ p = _
          rw [upd_same, List.map_append]; rfl
        · have := hle x hx
          unfold GM.dn
          by_cases q : x = h
          · rw [if_pos q]; omega
          · rw [if_neg q]; exact this
        · rw [← hbw, GM.bw_go e eg, List.append_assoc]; rfl
/-! ### is_count, is_ring, is_conflict -/
abbrev sIsCount : Stmt := top 34
theorem scIsCount : FnScope ["value", "number"] ["value", "number"] (defScope sIsCount) := ⟨rfl, rfl, rfl, by decide +kernel, rfl, by decide +kernel, by decide +kernel⟩
def spIsCount : Sp := fun vs H Q _ => ∃ n : Int, vs = [.int n, .int n] ∧ Q (.bl true) H
theorem ok_is_count {f : Addr} {fd : FuncData} (F : Fun K "is_count" "is_count" sIsCount f fd) (T : Txt K mg) : FnOk P w K mg base CX0 1 f fd ["value", "number"] spIsCount := by
  refine F.ok scIsCount (fun vs H Q E h => ?_) (fun cdv A outer s H vs Q E hr h => ?_)
  · obtain ⟨n, rfl, _⟩ := h
    rfl
  · obtain ⟨n, rfl, k⟩ := h
    refine ⟨_, (pss_one (ps_ret (pe_and (g_isi T (pv 0) (pe_bltn (v := .ty "int") (by rfl) T.int PyProof.Rows.boot_int rfl)) (pe_and (pe_not (g_isi T (pv 0) (pe_bltn (v := .ty "bool") (by rfl) T.bool PyProof.Rows.boot_bool rfl))) (pe_one (pe_cmpR op_eq (pv 0) (pv 1) (nomark _))))))), ?_⟩
    refine ⟨_, rfl, _, _, true, rfl, isi_int, _, rfl, ?_⟩
    refine ⟨_, rfl, _, _, false, rfl, isi_intb, _, rfl, _, rfl, ?_⟩
    refine ⟨_, rfl, _, rfl, rfl, ?_⟩
    rw [decide_eq_true (show V.int n = V.int n from rfl)]
    exact k
abbrev sIsRing : Stmt := top 35
theorem scIsRing : FnScope ["starts", "value"] ["starts", "value"] (defScope sIsRing) := ⟨rfl, rfl, rfl, by decide +kernel, rfl, by decide +kernel, by decide +kernel⟩
def spIsRing : Sp := fun vs H Q _ => ∃ u ks fs p l m, vs = [.ref u, .ref p] ∧ DM H u ks (fun x => .str (fs x)) ∧ ks.length ≤ 100 ∧ LS H p l ∧ l.head? = some m ∧ GM.rat (sOf ks fs) ks.length m = some l ∧ SOk l ∧ ∀ H', Same H H' → Q (.bl true) H'
theorem ok_is_ring {f : Addr} {fd : FuncData} (F : Fun K "is_ring" "is_ring" sIsRing f fd) (T : Txt K mg) (Dring_at : Dn P w K mg base CX0 1 "ring_at" ["starts", "member"] spRingAt) : FnOk P w K mg base CX0 2 f fd ["starts", "value"] spIsRing := by
  refine F.ok scIsRing (fun vs H Q E h => ?_) (fun cdv A outer s H vs Q E hr h => ?_)
  · obtain ⟨u, ks, fs, p, l, m, rfl, _⟩ := h
    rfl
  · obtain ⟨u, ks, fs, p, l, m, rfl, hU, hl, hP, hm, hR, ok, k⟩ := h
    have hu := hu_of hr
    obtain ⟨t, rfl⟩ : ∃ t, l = m :: t := by
      cases l with
      | nil => cases hm
      | cons a t => exact ⟨t, by rw [show a = m from Option.some.inj hm]⟩
    refine ⟨_, (pss_cons (ps_if (PW.pt (pw_or (pt_not (pt_val (g_isi T (pv 1) (pe_bltn (v := .ty "list") (by rfl) T.list PyProof.Rows.boot_list rfl)))) (pw_or (pt_cmpR (op_eqL hr.units) (pv 1) (pe_lst pa_nil) (nomark _)) (pw_or1 (pt_not (pt_val (g_isi T (g_ixL T (pv 1) pe_int (fun _ _ => rfl)) (pe_bltn (v := .ty "str") (by rfl) T.str PyProof.Rows.boot_str rfl)))))))) (pss_one (ps_ret pe_bl)) pss_nil)
        (pss_one (ps_ret (pe_cmpR (op_eqL hr.units) (call_dn Dring_at hr (pa_cons (pv 0) (pa_cons (g_ixL T (pv 1) pe_int (fun _ _ => rfl)) pa_nil))) (pv 1) (nomark _))))), ?_⟩
    refine ⟨_, rfl, _, _, true, rfl, isi_lst hP, _, rfl, iteF ?_⟩
    refine ⟨_, rfl, Nat.zero_le _, fun e he => ⟨p, e, m :: t, [], rfl, rfl, Same.ls (Same.new he) hP, upd_same, ok, (fun _ q => nomatch q), _, rfl, ?_⟩⟩
    rw [decide_eq_false (show ¬ (m :: t = []) from fun q => nomatch q)]
    have s1 := Same.new (o := .lst []) he
    refine iteF ⟨_, rfl, p, _, 0, .str m, rfl, rfl, SqL.of (Same.ls s1 hP), atI_nat (j := 0) rfl, _, _, true, rfl, isi_str, _, rfl, iteF ?_⟩
    refine ⟨_, rfl, _, rfl, p, _, 0, .str m, rfl, rfl, SqL.of (Same.ls s1 hP), atI_nat (j := 0) rfl, u, ks, fs, m, rfl, s1 _ _ hU, hl, fun H2 r s2 hR2 => ?_⟩
    rw [hR] at hR2
    obtain ⟨q, rfl, hq⟩ := hR2
    refine ⟨_, rfl, q, p, m :: t, m :: t, rfl, rfl, hq, Same.ls (Same.trans s1 s2) hP, ok, ok, ?_⟩
    rw [decide_eq_true rfl]
    exact k H2 (Same.trans s1 s2)
end
end G

set_option maxHeartbeats 4000000
namespace G
open PySem L2
/-- a conflict, or None, as data -/
def confD : Option (GM.Conf Str) → PyData
  | none => .none
  | some (.unb x a b) => .tuple [.str "unbalanced", .str x, .int (a : Nat), .int (b : Nat)]
  | some (.ring l) => .tuple [.str "ring", .list (l.map PyData.str)]
def confS : Option (GM.Conf Str) → List Str
  | none => []
  | some (.unb x _ _) => [x]
  | some (.ring l) => l
theorem dp_conf {K : PySem.W.Frag} {H : Hp} : ∀ {o : Option (GM.Conf Str)} {r : V}, ConfV H o r → Dp K H r (confD o)
  | none, r, h => by
    have h : r = .non := h
    subst h; exact .non
  | some (.unb x a b), r, h => by
    obtain ⟨p, rfl, hp⟩ := h
    exact .tup (SqT.of hp) (.cons (.str _) (.cons (.str _) (.cons (.int _) (.cons (.int _) .nil))))
  | some (.ring l), r, h => by
    obtain ⟨p, q, rfl, hp, hq⟩ := h
    exact .tup (SqT.of hp) (.cons (.str _) (.cons (dp_strs hq) .nil))
theorem unbOk : PyData.strOk "unbalanced" = true := by decide +kernel
theorem ringOk : PyData.strOk "ring" = true := by decide +kernel
theorem canLay_conf : ∀ {o : Option (GM.Conf Str)}, SOk (confS o) → PyData.canLay0 (confD o) = true
  | none, _ => by simp [confD, PyData.canLay0]
  | some (.unb x a b), h => by
    have := h x (List.mem_cons_self ..)
    simp [confD, PyData.canLay0, PyData.canLayAll0, this, unbOk]
  | some (.ring l), h => by
    have := canLay_strs l h
    simp [confD, PyData.canLay0, PyData.canLayAll0, this, ringOk]
theorem shaped_conf {o : Option (GM.Conf Str)} (h : SOk (confS o)) : SeqAt.shaped (confD o) = true := by
  have h1 := canLay_conf h
  have h2 : (confD o).depth ≤ 64 := by
    cases o with
    | none => simp [confD, PyData.depth]
    | some c =>
      cases c with
      | unb x a b => simp [confD, PyData.depth, PyData.depthAll]
      | ring l => simp [confD, PyData.depth, PyData.depthAll, depth_strs]
  unfold SeqAt.shaped
  rw [h1, decide_eq_true h2]; rfl
theorem eqv_conf {o : Option (GM.Conf Str)} (h : SOk (confS o)) : PyData.eqv (confD o) (confD o) = true := SeqAt.eqv_refl _ (canLay_conf h)
theorem shaped_nil : SeqAt.shaped (.tuple []) = true := by simp [SeqAt.shaped, PyData.canLay0, PyData.canLayAll0, PyData.depth, PyData.depthAll]
theorem eqv_conf_nil (c : GM.Conf Str) : PyData.eqv (confD (some c)) (.tuple []) = false := by
  cases c <;> simp [confD, PyData.eqv, PyData.eqvAll]
/-- what a conflict names are members -/
theorem confS_mem {ms : List Str} {first : Str} {L : Str → List Str} (hL : GM.Lok ms L) : ∀ x ∈ confS (GM.conf ms first L), x ∈ ms := by
  unfold GM.conf
  cases e : ms.find? (GM.off ms first L) with
  | some y =>
    intro x hx
    have : x = y := by simpa [confS] using hx
    rw [this]
    exact List.mem_of_find?_eq_some e
  | none =>
    cases e2 : GM.lring ms first L with
    | none => intro x hx; simp [confS] at hx
    | some l =>
      intro x hx
      have hx : x ∈ l := hx
      unfold GM.lring at e2
      obtain ⟨y, hy, e3⟩ := List.exists_of_findSome?_eq_some e2
      rw [← GM.stm_rat hL hy] at e3
      obtain ⟨⟨_, hc, p, z, el, hz⟩, _⟩ := GM.rat_ring e3
      have := GM.chn_some hc el hz x hx
      exact (GM.mem_keys.mp (GM.stm_keys x this)).1
/-- the ring that is returned is one -/
theorem conf_ring {ms : List Str} {first : Str} {L : Str → List Str} {l : List Str} (hL : GM.Lok ms L) (h : GM.conf ms first L = some (.ring l)) : ∃ m, l.head? = some m ∧ m ∈ ms ∧ GM.rat (GM.stm ms first L) (GM.keys ms first L).length m = some l := by
  unfold GM.conf at h
  cases e : ms.find? (GM.off ms first L) with
  | some y => rw [e] at h; cases h
  | none =>
    rw [e] at h
    have h : (GM.lring ms first L).map GM.Conf.ring = some (.ring l) := h
    cases e2 : GM.lring ms first L with
    | none => rw [e2] at h; cases h
    | some l' =>
      rw [e2] at h
      have : l' = l := by
        have := Option.some.inj h
        injection this
      subst this
      unfold GM.lring at e2
      obtain ⟨y, hy, e3⟩ := List.exists_of_findSome?_eq_some e2
      rw [← GM.stm_rat hL hy] at e3
      obtain ⟨⟨⟨t, el, _⟩, _⟩, _⟩ := GM.rat_ring e3
      exact ⟨y, by rw [el]; rfl, hy, e3⟩
theorem conf_unb {ms : List Str} {first : Str} {L : Str → List Str} {x : Str} {a b : Nat} (h : GM.conf ms first L = some (.unb x a b)) : x ∈ ms ∧ a = GM.had first L x ∧ b = GM.named ms L x ∧ ¬ (GM.sur ms first L x = 0 ∨ GM.sur ms first L x = 1) := by
  unfold GM.conf at h
  cases e : ms.find? (GM.off ms first L) with
  | none =>
    rw [e] at h
    have h : (GM.lring ms first L).map GM.Conf.ring = some (.unb x a b) := h
    cases e2 : GM.lring ms first L with
    | none => rw [e2] at h; cases h
    | some l => rw [e2] at h; cases h
  | some y =>
    rw [e] at h
    have h : some (GM.Conf.unb y (GM.had first L y) (GM.named ms L y)) = some (.unb x a b) := h
    injection h with h
    injection h with h1 h2 h3
    subst h1
    refine ⟨List.mem_of_find?_eq_some e, h2.symm, h3.symm, ?_⟩
    have := List.find?_some e
    unfold GM.off at this
    exact of_decide_eq_true this
section
variable {P : Program} {w : World} {K : PySem.W.Frag} {mg : Str → Option Value} {base : Heap}
abbrev sIsConflict : Stmt := top 36
theorem scIsConflict : FnScope ["members", "first", "lists", "value", "had", "named"] ["members", "first", "lists", "value"] (defScope sIsConflict) := ⟨rfl, rfl, rfl, by decide +kernel, rfl, by decide +kernel, by decide +kernel⟩
def spIsConflict : Sp := fun vs H Q _ => ∃ m ms first d ad L v c, vs = [.ref m, .str first, .ref d, v] ∧ LS H m ms ∧ Ms ms ∧ first ∈ ms ∧ DL H d ms ad L ∧ LsOk ms L ∧ GM.conf ms first L = some c ∧ ConfV H (some c) v ∧ ∀ H', Same H H' → Q (.bl true) H'
theorem ok_is_conflict {f : Addr} {fd : FuncData} (F : Fun K "is_conflict" "is_conflict" sIsConflict f fd) (T : Txt K mg) (Dneed_lists : Dn P w K mg base CX0 4 "need_lists" ["members", "first", "lists"] spNeedLists) (Dis_ring : Dn P w K mg base CX0 2 "is_ring" ["starts", "value"] spIsRing)
    (Dstarts_of : Dn P w K mg base CX0 1 "starts_of" ["members", "first", "lists"] spStarts) (Dis_member : Dn P w K mg base CX0 1 "is_member" ["members", "value"] spIsMember) (Duses_of : Dn P w K mg base CX0 1 "uses_of" ["members", "first", "lists"] spUses) (Dis_count : Dn P w K mg base CX0 1 "is_count" ["value", "number"] spIsCount) :
    FnOk P w K mg base CX0 5 f fd ["members", "first", "lists", "value"] spIsConflict := by
  refine F.ok scIsConflict (fun vs H Q E h => ?_) (fun cdv A outer s H vs Q E hr h => ?_)
  · obtain ⟨m, ms, first, d, ad, L, v, c, rfl, _⟩ := h
    rfl
  · obtain ⟨m, ms, first, d, ad, L, v, c, rfl, hm, M, hf, D, Lo, hc, hV, k⟩ := h
    have hu := hu_of hr
    refine ⟨_, (pss_cons (ps_expr (call_dn Dneed_lists hr (pa_cons (pv 0) (pa_cons (pv 1) (pa_cons (pv 2) pa_nil)))))
        (pss_cons (ps_if (PW.pt (pw_or (pt_not (pt_val (g_isi T (pv 3) (pe_bltn (v := .ty "tuple") (by rfl) T.tuple PyProof.Rows.boot_tuple rfl)))) (pw_or (pt_cmpR (op_eqD hr.units) (pv 3) (pe_tup pa_nil) (nomark _)) (pw_or1 (pt_not (pt_val (g_isi T (pe_ix ix_tup (pv 3) pe_int (fun _ _ => rfl)) (pe_bltn (v := .ty "str") (by rfl) T.str PyProof.Rows.boot_str rfl)))))))) (pss_one (ps_ret pe_bl)) pss_nil)
        (pss_cons (ps_if (pt_cmpR op_eq (pe_ix ix_tup (pv 3) pe_int (fun _ _ => rfl)) (c_ring T) (nomark _)) (pss_one (ps_ret (pe_and (pe_cmpR op_eq (g_lenL T (pv 3)) pe_int (nomark _)) (pe_one (call_dn Dis_ring hr (pa_cons (call_dn Dstarts_of hr (pa_cons (pv 0) (pa_cons (pv 1) (pa_cons (pv 2) pa_nil)))) (pa_cons (pe_ix ix_tup (pv 3) pe_int (fun _ _ => rfl)) pa_nil))))))) pss_nil)
        (pss_cons (ps_if (PW.pt (pw_or (pt_cmpR op_ne (pe_ix ix_tup (pv 3) pe_int (fun _ _ => rfl)) (c_unb T) (nomark _)) (pw_or (pt_cmpR op_ne (g_lenL T (pv 3)) pe_int (nomark _)) (pw_or1 (pt_not (pt_val (call_dn Dis_member hr (pa_cons (pv 0) (pa_cons (pe_ix ix_tup (pv 3) pe_int (fun _ _ => rfl)) pa_nil))))))))) (pss_one (ps_ret pe_bl)) pss_nil)
        (pss_cons (ps_asg (pe_dget hu (call_dn Duses_of hr (pa_cons (pv 0) (pa_cons (pv 1) (pa_cons (pv 2) pa_nil)))) (pe_ix ix_tup (pv 3) pe_int (fun _ _ => rfl)) (fun _ _ => rfl)) (pg_tup rfl (pgs_cons (pg_name (i := 4) scIsConflict.nd rfl (by first | exact Or.inl rfl | exact Or.inr rfl)) (pgs_cons (pg_name (i := 5) scIsConflict.nd rfl (by first | exact Or.inl rfl | exact Or.inr rfl)) pgs_nil))))
        (pss_one (ps_ret (pe_and (call_dn Dis_count hr (pa_cons (pe_ix ix_tup (pv 3) pe_int (fun _ _ => rfl)) (pa_cons (pv 4) pa_nil))) (pe_and (call_dn Dis_count hr (pa_cons (pe_ix ix_tup (pv 3) pe_int (fun _ _ => rfl)) (pa_cons (pv 5) pa_nil))) (pe_one (pe_cmpR op_notIn_seq (pe_op op_sub (pv 4) (pv 5)) (pe_tup (pa_cons pe_int (pa_cons pe_int pa_nil))) rfl))))))))))), ?_⟩
    refine ⟨_, rfl, _, rfl, _, rfl, m, ms, first, d, ad, L, rfl, hm, M, hf, D, Lo, fun H1 s1 => ?_⟩
    have hV1 := ConfV.on s1 hV
    have D1 := D.on s1
    have hm1 := Same.ls s1 hm
    have sok : SOk (confS (some c)) := by rw [← hc]; exact M.sOkL (confS_mem Lo.ok)
    cases c with
    | ring l =>
      obtain ⟨p, q, rfl, hp, hq⟩ := id hV1
      obtain ⟨x, hx, hxm, hR⟩ := conf_ring Lo.ok hc
      refine ⟨_, rfl, _, _, true, rfl, isi_tup hp, _, rfl, iteF ?_⟩
      refine ⟨_, rfl, Nat.zero_le _, fun e he => ⟨_, .tuple [], dp_conf (ConfV.on (Same.new he) hV1), .tup (SqT.of upd_same) .nil, shaped_conf sok, shaped_nil, _, rfl, ?_⟩⟩
      rw [eqv_conf_nil]
      have s2 := Same.new (o := .tup []) he
      have hp2 := s2 _ _ hp
      have at0 : atI [V.str "ring", V.ref q] 0 = some (.str "ring") := atI_nat (j := 0) rfl
      have at1 : atI [V.str "ring", V.ref q] 1 = some (.ref q) := atI_nat (j := 1) rfl
      refine iteF ⟨_, rfl, p, _, 0, _, rfl, rfl, SqT.of hp2, at0, _, _, true, rfl, isi_str, _, rfl, iteF ?_⟩
      refine ⟨_, rfl, p, _, 0, _, rfl, rfl, SqT.of hp2, at0, rfl, _, rfl, ?_⟩
      rw [decide_eq_true (show V.str "ring" = V.str "ring" from rfl)]
      refine ⟨_, rfl, p, _, rfl, .inr (SqT.of hp2), rfl, _, rfl, ?_⟩
      rw [decide_eq_true (show V.int (([V.str "ring", V.ref q] : List V).length : Nat) = V.int 2 from rfl)]
      refine ⟨_, rfl, _, rfl, _, rfl, m, ms, first, d, ad, L, rfl, Same.ls s2 hm1, M, D1.on s2, Lo, fun H3 u s3 _ hU => ?_⟩
      refine ⟨_, rfl, p, _, 1, _, rfl, rfl, SqT.of (s3 _ _ hp2), at1, u, _, _, q, l, x, rfl, hU, Nat.le_trans (keys_len M) (by decide), Same.ls (Same.trans s2 s3) hq, hx, ?_, sok, fun H4 s4 => k H4 (Same.trans s1 (Same.trans s2 (Same.trans s3 s4)))⟩
      rw [sOf_keys]
      exact hR
    | unb x a b =>
      obtain ⟨p, rfl, hp⟩ := id hV1
      obtain ⟨hxm, rfl, rfl, hoff⟩ := conf_unb hc
      refine ⟨_, rfl, _, _, true, rfl, isi_tup hp, _, rfl, iteF ?_⟩
      refine ⟨_, rfl, Nat.zero_le _, fun e he => ⟨_, .tuple [], dp_conf (ConfV.on (Same.new he) hV1), .tup (SqT.of upd_same) .nil, shaped_conf sok, shaped_nil, _, rfl, ?_⟩⟩
      rw [eqv_conf_nil]
      have s2 := Same.new (o := .tup []) he
      have hp2 := s2 _ _ hp
      have at0 : atI [V.str "unbalanced", V.str x, V.int (GM.had first L x), V.int (GM.named ms L x)] 0 = some (.str "unbalanced") := atI_nat (j := 0) rfl
      have at1 : atI [V.str "unbalanced", V.str x, V.int (GM.had first L x), V.int (GM.named ms L x)] 1 = some (.str x) := atI_nat (j := 1) rfl
      have at2 : atI [V.str "unbalanced", V.str x, V.int (GM.had first L x), V.int (GM.named ms L x)] 2 = some (.int (GM.had first L x)) := atI_nat (j := 2) rfl
      have at3 : atI [V.str "unbalanced", V.str x, V.int (GM.had first L x), V.int (GM.named ms L x)] 3 = some (.int (GM.named ms L x)) := atI_nat (j := 3) rfl
      refine iteF ⟨_, rfl, p, _, 0, _, rfl, rfl, SqT.of hp2, at0, _, _, true, rfl, isi_str, _, rfl, iteF ?_⟩
      refine ⟨_, rfl, p, _, 0, _, rfl, rfl, SqT.of hp2, at0, rfl, _, rfl, ?_⟩
      rw [decide_eq_false (show ¬ V.str "unbalanced" = V.str "ring" by decide +kernel)]
      refine iteF ?_
      -- value[0] != UNBALANCED or len(value) != 4 or not is_member
      refine ⟨_, rfl, p, _, 0, _, rfl, rfl, SqT.of hp2, at0, rfl, _, rfl, ?_⟩
      rw [decide_eq_true (show V.str "unbalanced" = V.str "unbalanced" from rfl)]
      refine iteF ⟨_, rfl, p, _, rfl, .inr (SqT.of hp2), rfl, _, rfl, ?_⟩
      rw [decide_eq_true (show V.int (([V.str "unbalanced", V.str x, V.int (GM.had first L x), V.int (GM.named ms L x)] : List V).length : Nat) = V.int 4 from rfl)]
      refine iteF ⟨_, rfl, _, rfl, p, _, 1, _, rfl, rfl, SqT.of hp2, at1, m, ms, x, rfl, Same.ls s2 hm1, _, rfl, ?_⟩
      rw [decide_eq_true hxm]
      refine iteF ?_
      -- had, named = uses_of(..)[value[1]]
      refine ⟨_, rfl, _, rfl, _, rfl, m, ms, first, d, ad, L, rfl, Same.ls s2 hm1, M, D1.on s2, Lo, fun H3 u ta s3 _ U => ?_⟩
      have hp3 := s3 _ _ hp2
      refine ⟨_, rfl, p, _, 1, _, rfl, rfl, SqT.of hp3, at1, u, _, rfl, dget U.1 hxm, ta x, _, rfl, SqT.of (U.2 x hxm), rfl, _, _, rfl, _, _, rfl, rfl, ?_⟩
      refine ⟨_, rfl, p, _, 2, _, rfl, rfl, SqT.of hp3, at2, _, rfl, _, rfl, _, rfl, ?_⟩
      refine ⟨_, rfl, p, _, 3, _, rfl, rfl, SqT.of hp3, at3, _, rfl, _, rfl, _, rfl, ?_⟩
      refine ⟨_, rfl, _, rfl, _, _, rfl, rfl, by show 2 ≤ sizeLine; decide, fun p2 hp4 => ⟨p2, _, rfl, .inr (SqT.of upd_same), rfl, rfl, ?_⟩⟩
      show Q (.bl (!inV (.int (GM.sur ms first L x)) [.int 0, .int 1])) _
      rw [inV01, decide_eq_false hoff]
      exact k _ (Same.trans s1 (Same.trans s2 (Same.trans s3 (Same.new hp4))))
end
end G

set_option maxHeartbeats 4000000
namespace G
open PySem L2
theorem mergeK_kvM {f : Str → V} : ∀ (ms acc : List Str), (acc ++ ms).Nodup → mergeK (kvM f acc) (kvM f ms) = kvM f (acc ++ ms)
  | [], acc, _ => by rw [List.append_nil]; rfl
  | m :: ms, acc, h => by
    have hno : m ∉ acc := fun q => by
      have := List.nodup_append.mp h
      exact this.2.2 m q m (List.mem_cons_self ..) rfl
    show mergeK (putK (kvM f acc) (Sum.inr m) (f m)) (kvM f ms) = _
    rw [putK_new' _ hno, ← kvM_snoc, mergeK_kvM ms (acc ++ [m]) (by rw [List.append_assoc]; exact h), List.append_assoc]; rfl
theorem mergeK_ms {f : Str → V} {ms : List Str} (h : ms.Nodup) : mergeK [] (kvM f ms) = kvM f ms := mergeK_kvM ms [] h
theorem paired_ms {K : PySem.W.Frag} {H : Hp} {f : Str → V} {tp : Str → Addr} : ∀ {ms : List Str}, (∀ x ∈ ms, H (tp x) = some (.tup [.str x, f x])) → Paired (fun p (kv : Key × V) => SqT K H p [kV kv.1, kv.2]) (ms.map tp) (kvM f ms)
  | [], _ => .nil
  | m :: ms, h => .cons (SqT.of (h m (List.mem_cons_self ..))) (paired_ms fun x hx => h x (List.mem_cons_of_mem _ hx))
section
variable {P : Program} {w : World} {K : PySem.W.Frag} {mg : Str → Option Value} {base : Heap}
/-! ### _law_lists -/
abbrev sLawLists : Stmt := top 45
theorem scLawLists : FnScope ["_law_members_here", "_law_history", "_law_found", "_law_at", "_law_member"] ["_law_members_here", "_law_history"] (defScope sLawLists) := ⟨rfl, rfl, rfl, by decide +kernel, rfl, by decide +kernel, by decide +kernel⟩
def spLawLists : Sp := fun vs H Q _ => ∃ m ms a h, vs = [.ref m, .ref a] ∧ LS H m ms ∧ Ms ms ∧ LS H a h ∧ (∀ x ∈ h, x ∈ ms) ∧ h ≠ [] ∧ h.length ≤ 5000 ∧ ∀ H' d ad, NewL H H' d ms ad (GM.lof h) → Q (.ref d) H'
theorem ok_law_lists {f : Addr} {fd : FuncData} (F : Fun K "_law_lists" "_law_lists" sLawLists f fd) (T : Txt K mg) : FnOk P w K mg base CX0 1 f fd ["_law_members_here", "_law_history"] spLawLists := by
  refine F.ok scLawLists (fun vs H Q E h => ?_) (fun cdv A outer s H vs Q E hr h => ?_)
  · obtain ⟨m, ms, a, h, rfl, _⟩ := h
    rfl
  · obtain ⟨m, ms, a, h, rfl, hm, M, ha, hh, hne, hl, k⟩ := h
    have hu := hu_of hr
    have h12 := M.l12
    have hpos := List.length_pos_iff.mpr hne
    refine ⟨_, (pss_cons (ps_set (i := 2) scLawLists.nd rfl (Or.inl rfl) (g_dict T (pe_lc (own := [("_law_member", 4)]) (g := gName 4) (tt := tYes) rfl scLawLists.nd (pi_list (pv 0)) (blkOk_by (N := ["_law_members_here", "_law_history", "_law_found", "_law_at", "_law_member"]) (sc := defScope sLawLists) (by decide +kernel)) (fun _ _ _ _ _ => pg_name (i := 4) scLawLists.nd rfl (by first | exact Or.inl rfl | exact Or.inr rfl)) (fun _ _ _ _ _ => pts_nil) (fun _ _ _ _ _ => (pe_tup (pa_cons (pv 4) (pa_cons (pe_lst pa_nil) pa_nil)))))))
        (pss_cons (ps_for PassesOwn.never rfl (pi_range2 (by rfl) T.range (pa_cons pe_int (pa_cons (g_lenL T (pv 1)) pa_nil))) (pg_name (i := 3) scLawLists.nd rfl (by first | exact Or.inl rfl | exact Or.inr rfl)) (pss_one (ps_expr (pe_bm PySem.F.plainAttrs_list PySem.F.slot_list_append PySem.F.type_list_append mt_append (pe_dget hu (pv 2) (g_ixL T (pv 1) (pv 3) (fun _ _ => rfl)) (fun _ _ => rfl)) (pa_cons (g_ixL T (pv 1) (pe_op op_sub (pv 3) pe_int) (fun _ _ => rfl)) pa_nil)))))
        (pss_one (ps_ret (pv 2))))), ?_⟩
    refine ⟨_, rfl, m, rfl, ⟨_, SqL.of hm⟩, fun X hX => lc_it (walk_list (xs := ms.map V.str)) (fun i H' => ∃ (ad tp : Str → Addr), NewL H (upd H' X (.dK (kvM (fun x => .ref (ad x)) (ms.take i)))) X (ms.take i) ad (fun _ => []) ∧ Same H H' ∧ H' X = some (.lst ((ms.take i).map fun x => .ref (tp x))) ∧ ∀ x ∈ ms.take i, H' (tp x) = some (.tup [.str x, .ref (ad x)])) ?_ (fun i H' _ ⟨_, _, _, q, _⟩ => Same.seq q (SqL.of hm)) (fun i x H' H'' hi q y => ?_) (fun H1 q => ?_)⟩
    · refine ⟨fun _ => 0, fun _ => 0, ⟨Same.mut (Same.new hX) hX, hX, ⟨upd_same, fun x hx => absurd hx (by simp)⟩, fun x hx => absurd hx (by simp), fun x hx => absurd hx (by simp)⟩, Same.new hX, upd_same, fun x hx => absurd hx (by simp)⟩
    · obtain ⟨ad, tp, N, s1, hl1, ht1⟩ := q
      obtain ⟨rfl, hx⟩ := y
      obtain ⟨z, hz, rfl, hzm⟩ := at_str hx
      have hno : z ∉ ms.take i := nd_take M.nd hz
      refine ⟨rfl, ⟨_, rfl, Nat.zero_le _, fun p hp => ⟨by show 2 ≤ sizeLine; decide, fun t ht => ?_⟩⟩⟩
      have pt : p ≠ t := ne_of_none (show upd H'' p (.lst []) p = some (.lst []) from upd_same) ht
      have ht' : H'' t = none := by rw [upd_ne pt.symm] at ht; exact ht
      have s2 : Same H'' (upd (upd H'' p (.lst [])) t (.tup [.str z, .ref p])) := Same.trans (Same.new hp) (Same.new ht)
      refine ⟨_, s2 _ _ hl1, small (by rw [List.length_map, List.length_take]; omega), fun x => if x = z then p else ad x, fun x => if x = z then t else tp x, ?_, Same.mut (Same.trans s1 s2) hX, ?_, fun x hx => ?_⟩
      · -- the lists, as if the dict stood at X
        have Xp : X ≠ p := ne_of_none hl1 hp
        have Xt : X ≠ t := ne_of_none hl1 ht'
        have xz : ∀ x ∈ ms.take i, x ≠ z := fun x hx q => hno (q ▸ hx)
        have adX : ∀ x ∈ ms.take i, ad x ≠ X := fun x hx => ne_of (N.dl.l x hx) N.dl.dk (fun z => nomatch z)
        have adl : ∀ x ∈ ms.take i, H'' (ad x) = some (.lst []) := fun x hx => by
          have := N.dl.l x hx
          have this : upd H'' X (.dK (kvM (fun x => .ref (ad x)) (ms.take i))) (ad x) = some (.lst []) := this
          rw [upd_ne (adX x hx)] at this; exact this
        have adp : ∀ x ∈ ms.take i, ad x ≠ p := fun x hx => ne_of_none (adl x hx) hp
        have adt : ∀ x ∈ ms.take i, ad x ≠ t := fun x hx => ne_of_none (adl x hx) ht'
        rw [take_snoc hz]
        refine ⟨Same.mut (Same.mut (Same.trans s1 s2) hX) hX, hX, ⟨upd_same, fun x hx => ?_⟩, fun x hx => ?_, fun x hx y hy q => ?_⟩
        · show upd (upd _ X _) X _ (if x = z then p else ad x) = _
          rcases List.mem_append.mp hx with q | q
          · rw [if_neg (xz x q), upd_ne (adX x q), upd_ne (adX x q), upd_ne (adt x q), upd_ne (adp x q)]
            exact adl x q
          · rw [if_pos (List.mem_singleton.mp q), upd_ne Xp.symm, upd_ne Xp.symm, upd_ne pt, upd_same]; rfl
        · show H (if x = z then p else ad x) = none
          rcases List.mem_append.mp hx with q | q
          · rw [if_neg (xz x q)]; exact N.a0 x q
          · rw [if_pos (List.mem_singleton.mp q)]; exact Same.free s1 hp
        · have q : (if x = z then p else ad x) = (if y = z then p else ad y) := q
          rcases List.mem_append.mp hx with a | a
          · rcases List.mem_append.mp hy with b | b
            · rw [if_neg (xz x a), if_neg (xz y b)] at q; exact N.inj x a y b q
            · rw [if_neg (xz x a), if_pos (List.mem_singleton.mp b)] at q; exact absurd q (adp x a)
          · rcases List.mem_append.mp hy with b | b
            · rw [if_neg (xz y b), if_pos (List.mem_singleton.mp a)] at q; exact absurd q.symm (adp y b)
            · rw [List.mem_singleton.mp a, List.mem_singleton.mp b]
      · have xz : ∀ x ∈ ms.take i, x ≠ z := fun x hx q => hno (q ▸ hx)
        rw [upd_same, take_snoc hz, List.map_append]
        refine congrArg (fun l => some (HO.lst l)) ?_
        show _ ++ [V.ref t] = _ ++ [V.ref (if z = z then t else tp z)]
        rw [if_pos rfl]
        refine congrArg (· ++ [V.ref t]) (List.map_congr_left fun x hx => ?_)
        show V.ref (tp x) = V.ref (if x = z then t else tp x)
        rw [if_neg (xz x hx)]
      · have xz : ∀ x ∈ ms.take i, x ≠ z := fun x hx q => hno (q ▸ hx)
        rw [take_snoc hz] at hx
        have Xt : X ≠ t := ne_of_none hl1 ht'
        rcases List.mem_append.mp hx with q | q
        · have e1 : tp x ≠ X := ne_of (ht1 x q) hl1 (fun z => nomatch z)
          show upd _ X _ (if x = z then t else tp x) = some (.tup [.str x, .ref (if x = z then p else ad x)])
          rw [if_neg (xz x q), if_neg (xz x q), upd_ne e1]
          exact s2 _ _ (ht1 x q)
        · have e := List.mem_singleton.mp q
          show upd _ X _ (if x = z then t else tp x) = some (.tup [.str x, .ref (if x = z then p else ad x)])
          rw [if_pos e, if_pos e, upd_ne Xt.symm, upd_same, e]
    · -- dict(..)
      obtain ⟨ad, tp, N, s1, hl1, ht1⟩ := q
      rw [List.length_map, List.take_length] at N hl1 ht1
      refine ⟨X, ms.map tp, kvM (fun x => .ref (ad x)) ms, rfl, SqL.of (by rw [hl1, List.map_map]; rfl), paired_ms ht1, fun d hd => ?_⟩
      rw [mergeK_ms M.nd]
      have N1 : NewL H (upd H1 d (.dK (kvM (fun x => .ref (ad x)) ms))) d ms ad (fun _ => []) := by
        refine ⟨Same.mut s1 (Same.free s1 hd), Same.free s1 hd, ⟨upd_same, fun x hx => ?_⟩, N.a0, N.inj⟩
        have adX : ad x ≠ X := ne_of (N.dl.l x hx) N.dl.dk (fun z => nomatch z)
        have adl : H1 (ad x) = some (.lst []) := by
          have this : upd H1 X (.dK (kvM (fun x => .ref (ad x)) ms)) (ad x) = some (.lst []) := N.dl.l x hx
          rw [upd_ne adX] at this; exact this
        exact Same.new hd _ _ adl
      generalize upd H1 d (.dK (kvM (fun x => V.ref (ad x)) ms)) = H2 at N1
      -- for at in range(1, len(history))
      refine ⟨_, rfl, a, _, rfl, .inl (SqL.of (Same.ls N1.same ha)), 1, _, rfl, ⟨by decide, by decide, by rw [List.length_map]; omega, by rw [List.length_map]; omega⟩, for_it (walk_range) (fun i σ H' => (∃ u v, σ = [some (.ref m), some (.ref a), some (.ref d), u, v]) ∧ NewL H H' d ms ad (GM.lof (h.take (i + 1)))) ⟨⟨_, _, rfl⟩, N1.congr fun x _ => ?_⟩ (fun _ _ _ _ _ => trivial) ?_ ?_⟩
      · cases h with
        | nil => rfl
        | cons b t => exact GM.lof_one b x
      · rintro i x σ H3 H4 hi ⟨⟨u, v, rfl⟩, N2⟩ ⟨rfl, rfl⟩
        rw [List.length_map] at hi
        have hlt : i + 1 < h.length := by omega
        obtain ⟨g, hg⟩ : ∃ g, h[i]? = some g := ⟨h[i], List.getElem?_eq_getElem (by omega)⟩
        obtain ⟨r, hr2⟩ : ∃ r, h[i + 1]? = some r := ⟨h[i + 1], List.getElem?_eq_getElem hlt⟩
        have hrm : r ∈ ms := hh r (List.mem_of_getElem? hr2)
        have ha2 := SqL.of (K := K) (Same.ls N2.same ha)
        refine ⟨_, rfl, _, rfl, _, rfl, a, _, _, .str r, rfl, rfl, ha2, at_of (j := i + 1) (by omega) (by rw [List.getElem?_map, hr2]; rfl), d, _, rfl, dget N2.dl.dk hrm, Or.inl ⟨rfl, _, SqL.of (N2.dl.l r hrm)⟩, ?_⟩
        refine ⟨_, rfl, _, rfl, _, _, rfl, rfl, a, _, _, .str g, rfl, rfl, ha2, at_of (j := i) (by omega) (by rw [List.getElem?_map, hg]; rfl), ad r, _, _, rfl, rfl, N2.dl.l r hrm, small ?_, ?_⟩
        · rw [List.length_map]
          have := GM.lof_len_le (h.take (i + 1)) r
          rw [List.length_take] at this
          omega
        · refine ⟨⟨_, _, rfl⟩, ?_⟩
          have N4 := N2.put hrm (GM.lof (h.take (i + 1)) r ++ [g])
          rw [List.map_append] at N4
          refine N4.congr fun x _ => ?_
          rw [GM.lof_take h i x g r hg hr2]
          by_cases e : x = r
          · subst e; rw [if_pos rfl]
          · rw [if_neg e, if_neg e]
      · rintro σ H3 ⟨⟨u, v, rfl⟩, N2⟩
        refine ⟨_, rfl, k H3 d ad ?_⟩
        have e : (((h.map V.str).length : Int) - 1).toNat + 1 = h.length := by rw [List.length_map]; omega
        rw [e, List.take_length] at N2
        exact N2
/-! ### _law_surplus -/
abbrev sLawSurplus : Stmt := top 46
theorem scLawSurplus : FnScope ["_law_members_here", "_law_first", "_law_lists_here", "_law_member", "_law_found", "_law_giver"] ["_law_members_here", "_law_first", "_law_lists_here"] (defScope sLawSurplus) := ⟨rfl, rfl, rfl, by decide +kernel, rfl, by decide +kernel, by decide +kernel⟩
theorem ok_law_surplus {f : Addr} {fd : FuncData} (F : Fun K "_law_surplus" "_law_surplus" sLawSurplus f fd) (T : Txt K mg) : FnOk P w K mg base CX0 1 f fd ["_law_members_here", "_law_first", "_law_lists_here"] spSurpl := by
  refine F.ok scLawSurplus (fun vs H Q E h => ?_) (fun cdv A outer s H vs Q E hr h => ?_)
  · obtain ⟨m, ms, first, d, ad, L, rfl, _⟩ := h
    rfl
  · obtain ⟨m, ms, first, d, ad, L, rfl, hm, M, D, Lo, k⟩ := h
    have hu := hu_of hr
    have h12 := M.l12
    refine ⟨_, (pss_cons (ps_set (i := 4) scLawSurplus.nd rfl (Or.inl rfl) (g_dict T (pe_lc (own := [("_law_member", 3)]) (g := gName 3) (tt := tYes) rfl scLawSurplus.nd (pi_list (pv 0)) (blkOk_by (N := ["_law_members_here", "_law_first", "_law_lists_here", "_law_member", "_law_found", "_law_giver"]) (sc := defScope sLawSurplus) (by decide +kernel)) (fun _ _ _ _ _ => pg_name (i := 3) scLawSurplus.nd rfl (by first | exact Or.inl rfl | exact Or.inr rfl)) (fun _ _ _ _ _ => pts_nil) (fun _ _ _ _ _ => (pe_tup (pa_cons (pv 3) (pa_cons (pe_op op_add (g_lenL T (pe_dget hu (pv 2) (pv 3) (fun _ _ => rfl))) (g_int T (pe_cmpR op_eq (pv 3) (pv 1) (nomark _)))) pa_nil)))))))
        (pss_cons (ps_for PassesOwn.never rfl (pi_list (pv 0)) (pg_name (i := 3) scLawSurplus.nd rfl (by first | exact Or.inl rfl | exact Or.inr rfl)) (pss_one (ps_for PassesOwn.never rfl (pi_list (pe_dget hu (pv 2) (pv 3) (fun _ _ => rfl))) (pg_name (i := 5) scLawSurplus.nd rfl (by first | exact Or.inl rfl | exact Or.inr rfl)) (pss_one (ps_dput hu (pv 4) (pv 5) (pe_op op_sub (pe_dget hu (pv 4) (pv 5) (fun _ _ => rfl)) pe_int) rfl)))))
        (pss_one (ps_ret (pv 4))))), ?_⟩
    refine ⟨_, rfl, m, rfl, ⟨_, SqL.of hm⟩, fun X hX => lc_it (walk_list (xs := ms.map V.str)) (fun i H' => ∃ (tp : Str → Addr), Same H H' ∧ H' X = some (.lst ((ms.take i).map fun x => .ref (tp x))) ∧ ∀ x ∈ ms.take i, H' (tp x) = some (.tup [.str x, .int (GM.had first L x : Nat)])) ?_ (fun i H' _ ⟨_, q, _⟩ => Same.seq q (SqL.of hm)) (fun i x H' H'' hi q y => ?_) (fun H1 q => ?_)⟩
    · exact ⟨fun _ => 0, Same.new hX, upd_same, fun x hx => absurd hx (by simp)⟩
    · obtain ⟨tp, s1, hl1, ht1⟩ := q
      obtain ⟨rfl, hx⟩ := y
      obtain ⟨z, hz, rfl, hzm⟩ := at_str hx
      have D1 := D.on s1
      have hno : z ∉ ms.take i := nd_take M.nd hz
      have xz : ∀ x ∈ ms.take i, x ≠ z := fun x hx q => hno (q ▸ hx)
      refine ⟨rfl, ⟨_, rfl, _, rfl, _, rfl, d, _, rfl, dget D1.dk hzm, ad z, _, rfl, .inl (SqL.of (D1.l z hzm)), _, rfl, _, rfl, rfl, .inr ⟨_, rfl, _, _, rfl, rfl, by show 2 ≤ sizeLine; decide, fun t ht => ?_⟩⟩⟩
      have s2 : ∀ o, Same H'' (upd H'' t o) := fun o => Same.new ht
      have Xt : X ≠ t := ne_of_none hl1 ht
      refine ⟨_, s2 _ _ _ hl1, small (by rw [List.length_map, List.length_take]; omega), fun x => if x = z then t else tp x, Same.mut (Same.trans s1 (s2 _)) hX, ?_, fun x hx => ?_⟩
      · rw [upd_same, take_snoc hz, List.map_append]
        refine congrArg (fun l => some (HO.lst l)) ?_
        show _ ++ [V.ref t] = _ ++ [V.ref (if z = z then t else tp z)]
        rw [if_pos rfl]
        refine congrArg (· ++ [V.ref t]) (List.map_congr_left fun x hx => ?_)
        show V.ref (tp x) = V.ref (if x = z then t else tp x)
        rw [if_neg (xz x hx)]
      · rw [take_snoc hz] at hx
        rcases List.mem_append.mp hx with q | q
        · have e1 : tp x ≠ X := ne_of (ht1 x q) hl1 (fun z => nomatch z)
          show upd _ X _ (if x = z then t else tp x) = _
          rw [if_neg (xz x q), upd_ne e1]
          exact s2 _ _ _ (ht1 x q)
        · have e := List.mem_singleton.mp q
          show upd _ X _ (if x = z then t else tp x) = _
          rw [if_pos e, upd_ne Xt.symm, upd_same, e]
          exact congrArg (fun n => some (HO.tup [V.str z, V.int n])) (had_int first L z)
    · obtain ⟨tp, s1, hl1, ht1⟩ := q
      rw [List.length_map, List.take_length] at hl1 ht1
      refine ⟨X, ms.map tp, kvM (fun x => .int (GM.had first L x : Nat)) ms, rfl, SqL.of (by rw [hl1, List.map_map]; rfl), paired_ms ht1, fun fd hfd => ?_⟩
      rw [mergeK_ms M.nd]
      have s2 : Same H (upd H1 fd (.dK (kvM (fun x => .int (GM.had first L x : Nat)) ms))) := Same.trans s1 (Same.new hfd)
      have hfd0 : H fd = none := Same.free s1 hfd
      refine ⟨_, rfl, m, rfl, ⟨_, SqL.of (Same.ls s2 hm)⟩, for_it (walk_list (xs := ms.map V.str)) (fun i σ H' => (∃ a b, σ = [some (.ref m), some (.str first), some (.ref d), a, some (.ref fd), b]) ∧ Same H H' ∧ DM H' fd ms (fun y => .int ((GM.had first L y : Nat) - (((ms.take i).flatMap L).count y : Nat)))) ⟨⟨_, _, rfl⟩, s2, ?_⟩ (fun i σ H' _ q => Same.seq q.2.1 (SqL.of hm)) ?_ ?_⟩
      · show upd H1 fd _ fd = _
        rw [upd_same]
        refine congrArg (fun l => some (HO.dK l)) (kvM_congr fun y _ => congrArg V.int ?_)
        show _ = _ - ((List.count y ([] : List Str) : Nat) : Int)
        rw [List.count_nil]; omega
      · rintro i x σ H' H'' hi ⟨⟨a, b, rfl⟩, s3, q3⟩ ⟨rfl, hx0⟩
        obtain ⟨x, hx, rfl, hxm⟩ := at_str hx0
        have D3 := D.on s3
        refine ⟨_, rfl, _, rfl, d, _, rfl, dget D3.dk hxm, ad x, rfl, ⟨_, SqL.of (D3.l x hxm)⟩, for_it (walk_list (xs := (L x).map V.str)) (fun j σ H4 => (∃ b, σ = [some (.ref m), some (.str first), some (.ref d), some (.str x), some (.ref fd), b]) ∧ Same H H4 ∧ DM H4 fd ms (fun y => .int ((GM.had first L y : Nat) - (((ms.take i).flatMap L ++ (L x).take j).count y : Nat)))) ⟨⟨_, rfl⟩, s3, by rw [List.take_zero, List.append_nil]; exact q3⟩ (fun j σ H4 _ q => Same.seq q.2.1 (SqL.of (D.l x hxm))) ?_ ?_⟩
        · rintro j y σ H4 H5 hj ⟨⟨b, rfl⟩, s4, q4⟩ ⟨rfl, hy⟩
          obtain ⟨g, hg, rfl, hgm⟩ := at_str hy
          have gms := (Lo.ok x hxm g hgm).1
          refine ⟨_, rfl, _, rfl, fd, _, rfl, dget q4 gms, _, _, rfl, rfl, _, rfl, _, rfl, fd, _, rfl, DPut.k (k := Sum.inr g) q4 (small (by rw [kvM_len]; omega)), ⟨_, rfl⟩, Same.mut s4 hfd0, ?_⟩
          show upd H5 fd _ fd = _
          rw [upd_same, putK_old _ gms]
          refine congrArg (fun l => some (HO.dK l)) (kvM_congr fun y hy => ?_)
          rw [take_snoc hg, ← List.append_assoc, count_snoc]
          by_cases e : y = g
          · subst e
            rw [if_pos rfl, if_pos rfl]
            exact congrArg V.int (by omega)
          · rw [if_neg e, if_neg e]; rfl
        · rintro σ H4 ⟨⟨b, rfl⟩, s4, q4⟩
          refine ⟨⟨_, _, rfl⟩, s4, ?_⟩
          rw [List.length_map, List.take_length] at q4
          rw [take_snoc hx, List.flatMap_append]
          show DM H4 fd ms fun y => .int ((GM.had first L y : Nat) - (((ms.take i).flatMap L ++ [x].flatMap L).count y : Nat))
          rw [List.flatMap_singleton]
          exact q4
      · rintro σ H' ⟨⟨a, b, rfl⟩, s3, q3⟩
        rw [List.length_map, List.take_length] at q3
        refine ⟨_, rfl, k H' fd s3 hfd0 ?_⟩
        have e : kvM (fun y => V.int ((GM.had first L y : Nat) - ((ms.flatMap L).count y : Nat))) ms = kvM (fun y => V.int (GM.sur ms first L y)) ms := kvM_congr fun y _ => by
          rw [count_flat]; rfl
        show H' fd = some (.dK (kvM (fun y => V.int (GM.sur ms first L y)) ms))
        rw [← e]; exact q3
/-! ### _law_ring_at -/
abbrev sLawRingAt : Stmt := top 51
theorem scLawRingAt : FnScope ["_law_first", "_law_lists_here", "_law_member", "_law_here", "_law_steps"] ["_law_first", "_law_lists_here", "_law_member"] (defScope sLawRingAt) := ⟨rfl, rfl, rfl, by decide +kernel, rfl, by decide +kernel, by decide +kernel⟩
def spLawRingAt : Sp := fun vs H Q _ => ∃ m ms first d ad L x, vs = [.str first, .ref d, .str x] ∧ LS H m ms ∧ Ms ms ∧ DL H d ms ad L ∧ LsOk ms L ∧ x ∈ ms ∧ ∀ H', Same H H' → Q (.bl (GM.rhas (GM.st first L) x (ms.length + 1) x)) H'
theorem ok_law_ring_at {f : Addr} {fd : FuncData} (F : Fun K "_law_ring_at" "_law_ring_at" sLawRingAt f fd) (T : Txt K mg) : FnOk P w K mg base CX0 1 f fd ["_law_first", "_law_lists_here", "_law_member"] spLawRingAt := by
  refine F.ok scLawRingAt (fun vs H Q E h => ?_) (fun cdv A outer s H vs Q E hr h => ?_)
  · obtain ⟨m, ms, first, d, ad, L, x, rfl, _⟩ := h
    rfl
  · obtain ⟨m, ms, first, d, ad, L, x, rfl, hm, M, D, Lo, hx, k⟩ := h
    have hu := hu_of hr
    have h12 := M.l12
    refine ⟨_, (pss_cons (ps_par (i := 3) (j := 4) (by rfl) scLawRingAt.nd rfl rfl (by decide) rfl rfl (pa_cons (pv 2) (pa_cons pe_int pa_nil)) (by rfl))
        (pss_cons (ps_while PassesOwn.never (PW.pt (pw_and (pt_cmpR op_ne (pv 3) (pv 0) (nomark _)) (pw_and (pt_cmpR (op_neL hr.units) (pe_dget hu (pv 1) (pv 3) (fun _ _ => rfl)) (pe_lst pa_nil) (nomark _)) (pw_and1 (pt_cmpR op_le (pv 4) (g_lenD T (pv 1)) (nomark _)))))) (pss_cons (ps_set (i := 3) scLawRingAt.nd rfl (Or.inl rfl) (g_ixL T (pe_dget hu (pv 1) (pv 3) (fun _ _ => rfl)) pe_int (fun _ _ => rfl)))
            (pss_cons (ps_set (i := 4) scLawRingAt.nd rfl (Or.inl rfl) (pe_op op_add (pv 4) pe_int))
            (pss_one (ps_if (pt_cmpR op_eq (pv 3) (pv 2) (nomark _)) (pss_one (ps_ret pe_bl)) pss_nil)))))
        (pss_one (ps_ret pe_bl)))), ?_⟩
    refine ⟨_, rfl, _, _, rfl, fun r σ H' => ∃ (here : Str) (n : Nat), σ = [some (.str first), some (.ref d), some (.str x), some (.str here), some (.int (n : Nat))] ∧ Same H H' ∧ here ∈ ms ∧ n + r = ms.length + 1 ∧ GM.rhas (GM.st first L) x r here = GM.rhas (GM.st first L) x (ms.length + 1) x, ⟨ms.length + 1, x, 0, rfl, Same.refl _, hx, Nat.zero_add _, rfl⟩, ?_⟩
    rintro r σ H' ⟨here, n, rfl, s1, hh, hn, hgo⟩
    have D1 := D.on s1
    refine ⟨_, rfl, _, rfl, rfl, _, rfl, ?_⟩
    by_cases e : here = first
    · rw [decide_eq_true (show V.str here = V.str first by rw [e])]
      have es : GM.st first L here = none := if_pos e
      rw [GM.rhas_none es] at hgo
      show Q (.bl false) H'
      rw [hgo]
      exact k H' s1
    · rw [decide_eq_false (show ¬ V.str here = V.str first from fun q => e (V.str.inj q))]
      refine ⟨_, rfl, _, rfl, d, _, rfl, dget D1.dk hh, Nat.zero_le _, fun p hp => ?_⟩
      have s2 := Same.new (o := .lst []) hp
      refine ⟨ad here, p, L here, [], rfl, rfl, Same.ls s2 (D1.l here hh), upd_same, M.sOkL (fun y hy => (Lo.ok here hh y hy).1), (fun _ q => nomatch q), _, rfl, ?_⟩
      cases e2 : L here with
      | nil =>
        rw [decide_eq_true rfl]
        have es : GM.st first L here = none := by unfold GM.st; rw [if_neg e, e2]; rfl
        rw [GM.rhas_none es] at hgo
        show Q (.bl false) (upd H' p (.lst []))
        rw [hgo]
        exact k _ (Same.trans s1 s2)
      | cons g t =>
        rw [decide_eq_false (show ¬ (g :: t = []) from fun q => nomatch q)]
        have es : GM.st first L here = some g := by unfold GM.st; rw [if_neg e, e2]; rfl
        have gms := (Lo.ok here hh g (by rw [e2]; exact List.mem_cons_self ..)).1
        have D2 := D1.on s2
        have s3 := Same.trans s1 s2
        generalize upd H' p (.lst []) = H2 at D2 s3
        refine ⟨_, rfl, _, rfl, d, _, rfl, D2.dk, _, _, rfl, rfl, _, rfl, ?_⟩
        rw [kvM_len]
        cases r with
        | zero =>
          refine iteDF (show ¬ ((n : Int) ≤ (ms.length : Nat)) by omega) ?_
          show Q (.bl false) H2
          have h0 : false = GM.rhas (GM.st first L) x (ms.length + 1) x := hgo
          rw [h0]
          exact k H2 s3
        | succ r =>
          refine iteDT (show ((n : Int) ≤ (ms.length : Nat)) by omega) ⟨fun σ' H3 => ∃ (here : Str) (n : Nat), σ' = [some (.str first), some (.ref d), some (.str x), some (.str here), some (.int (n : Nat))] ∧ Same H H3 ∧ here ∈ ms ∧ n + r = ms.length + 1 ∧ GM.rhas (GM.st first L) x r here = GM.rhas (GM.st first L) x (ms.length + 1) x, fun σ' H3 q => ⟨r, Nat.lt_succ_self r, q⟩, ?_⟩
          refine ⟨_, rfl, _, rfl, d, _, rfl, dget D2.dk hh, ad here, _, 0, .str g, rfl, rfl, SqL.of (D2.l here hh), atI_nat (j := 0) (by rw [e2]; rfl), ?_⟩
          refine ⟨_, rfl, _, _, rfl, rfl, _, rfl, _, rfl, rfl, _, rfl, ?_⟩
          by_cases eg : g = x
          · rw [decide_eq_true (show V.str g = V.str x by rw [eg])]
            rw [GM.rhas_hit (es.trans (congrArg some eg))] at hgo
            show Q (.bl true) H2
            rw [hgo]
            exact k H2 s3
          · rw [decide_eq_false (show ¬ V.str g = V.str x from fun q => eg (V.str.inj q))]
            rw [GM.rhas_on es eg] at hgo
            exact ⟨g, n + 1, rfl, s3, gms, by omega, hgo⟩
theorem chn_next {s : Str → Option Str} : ∀ {p : List Str} {a b : Str} {r : List Str}, GM.Chn s (p ++ a :: b :: r) → s a = some b
  | [], _, _, _, h => h.1
  | x :: p, a, b, r, h => chn_next (p := p) (GM.Chn.tail h)
theorem ring_step {s : Str → Option Str} {m : Str} {l p : List Str} {a : Str} {r : List Str} (R : GM.IsRing s m l) (e : l = p ++ a :: r) : match r with | [] => s a = some m | b :: _ => s a = some b ∧ b ≠ m := by
  obtain ⟨⟨t, e1, ht⟩, hc, q, z, e2, hz⟩ := R
  cases r with
  | nil =>
    have h1 : l.getLast? = some a := by rw [e]; simp
    have h2 : l.getLast? = some z := by rw [e2]; simp
    have : a = z := Option.some.inj (h1.symm.trans h2)
    show s a = some m
    rw [this]; exact hz
  | cons b r =>
    refine ⟨chn_next (p := p) (r := r) (by rw [← e]; exact hc), fun h => ht ?_⟩
    subst h
    cases p with
    | nil =>
      rw [e1] at e
      have : t = b :: r := (List.cons.inj e).2
      rw [this]; exact List.mem_cons_self ..
    | cons x p =>
      rw [e1] at e
      have : t = p ++ a :: b :: r := (List.cons.inj e).2
      rw [this]; simp
def ofHead {β γ : Type} (f : β → Option γ) : List β → Option γ
  | [] => none
  | x :: _ => f x
theorem findSome_filter_head {β γ : Type} {f : β → Option γ} : ∀ {l : List β}, l.findSome? f = ofHead f (l.filter (fun x => (f x).isSome))
  | [] => rfl
  | a :: t => by
    rw [List.findSome?_cons, List.filter_cons]
    cases e : f a with
    | some y => simp [e, ofHead]
    | none => simp [findSome_filter_head (l := t)]
/-! ### _law_conflict -/
abbrev sLawConflict : Stmt := top 52
theorem scLawConflict : FnScope ["_law_members_here", "_law_first", "_law_lists_here", "_law_surplus_here", "_law_member", "_law_had", "_law_rings", "_law_ring"] ["_law_members_here", "_law_first", "_law_lists_here"] (defScope sLawConflict) := ⟨rfl, rfl, rfl, by decide +kernel, rfl, by decide +kernel, by decide +kernel⟩
theorem ok_law_conflict {f : Addr} {fd : FuncData} (F : Fun K "_law_conflict" "_law_conflict" sLawConflict f fd) (T : Txt K mg) (D_law_surplus : Dn P w K mg base CX0 1 "_law_surplus" ["_law_members_here", "_law_first", "_law_lists_here"] spSurpl) (D_law_ring_at : Dn P w K mg base CX0 1 "_law_ring_at" ["_law_first", "_law_lists_here", "_law_member"] spLawRingAt) :
    FnOk P w K mg base CX0 2 f fd ["_law_members_here", "_law_first", "_law_lists_here"] spConflict := by
  refine F.ok scLawConflict (fun vs H Q E h => ?_) (fun cdv A outer s H vs Q E hr h => ?_)
  · obtain ⟨m, ms, first, d, ad, L, rfl, _⟩ := h
    rfl
  · obtain ⟨m, ms, first, d, ad, L, rfl, hm, M, hf, D, Lo, k⟩ := h
    have hu := hu_of hr
    have h12 := M.l12
    refine ⟨_, (pss_cons (ps_set (i := 3) scLawConflict.nd rfl (Or.inl rfl) (call_dn D_law_surplus hr (pa_cons (pv 0) (pa_cons (pv 1) (pa_cons (pv 2) pa_nil)))))
        (pss_cons (ps_for PassesOwn.never rfl (pi_list (pv 0)) (pg_name (i := 4) scLawConflict.nd rfl (by first | exact Or.inl rfl | exact Or.inr rfl)) (pss_one (ps_if (pt_cmpR op_notIn_seq (pe_dget hu (pv 3) (pv 4) (fun _ _ => rfl)) (pe_tup (pa_cons pe_int (pa_cons pe_int pa_nil))) rfl) (pss_cons (ps_set (i := 5) scLawConflict.nd rfl (Or.inl rfl) (pe_op op_add (g_lenL T (pe_dget hu (pv 2) (pv 4) (fun _ _ => rfl))) (g_int T (pe_cmpR op_eq (pv 4) (pv 1) (nomark _)))))
              (pss_one (ps_ret (pe_tup (pa_cons pe_str (pa_cons (pv 4) (pa_cons (pv 5) (pa_cons (pe_op op_sub (pv 5) (pe_dget hu (pv 3) (pv 4) (fun _ _ => rfl))) pa_nil)))))))) pss_nil)))
        (pss_cons (ps_setLc (i := 6) (own := [("_law_member", 4)]) (g := gName 4) rfl scLawConflict.nd rfl rfl (sw_true rfl rfl rfl (by decide +kernel)) (pi_list (pv 0)) (blkOk_by (N := ["_law_members_here", "_law_first", "_law_lists_here", "_law_surplus_here", "_law_member", "_law_had", "_law_rings", "_law_ring"]) (sc := defScope sLawConflict) (by decide +kernel)) (fun _ _ _ _ _ => pg_name (i := 4) scLawConflict.nd rfl (by first | exact Or.inl rfl | exact Or.inr rfl)) (fun _ _ _ _ _ => (pts_one (pt_val (call_dn D_law_ring_at hr (pa_cons (pv 1) (pa_cons (pv 2) (pa_cons (pv 4) pa_nil))))))) (fun _ _ _ _ _ => (pv 4)))
        (pss_cons (ps_if (pt_cmpR (op_eqL hr.units) (pv 6) (pe_lst pa_nil) (nomark _)) (pss_one (ps_ret pe_non)) pss_nil)
        (pss_cons (ps_set (i := 7) scLawConflict.nd rfl (Or.inl rfl) (pe_lst (pa_cons (g_ixL T (pv 6) pe_int (fun _ _ => rfl)) pa_nil)))
        (pss_cons (ps_while PassesOwn.never (pt_cmpR op_ne (g_ixL T (pe_dget hu (pv 2) (g_ixL T (pv 7) (pe_un un_neg pe_int) (fun _ _ => rfl)) (fun _ _ => rfl)) pe_int (fun _ _ => rfl)) (g_ixL T (pv 6) pe_int (fun _ _ => rfl)) (nomark _)) (pss_one (ps_expr (pe_bm PySem.F.plainAttrs_list PySem.F.slot_list_append PySem.F.type_list_append mt_append (pv 7) (pa_cons (g_ixL T (pe_dget hu (pv 2) (g_ixL T (pv 7) (pe_un un_neg pe_int) (fun _ _ => rfl)) (fun _ _ => rfl)) pe_int (fun _ _ => rfl)) pa_nil)))))
        (pss_one (ps_ret (pe_tup (pa_cons pe_str (pa_cons (pv 7) pa_nil))))))))))), ?_⟩
    refine ⟨_, rfl, _, rfl, _, rfl, m, ms, first, d, ad, L, rfl, hm, M, D, Lo, fun H1 u s1 hu0 U => ?_⟩
    have D1 := D.on s1
    have hm1 := Same.ls s1 hm
    refine ⟨_, rfl, m, rfl, ⟨_, SqL.of hm1⟩, for_it (walk_list (xs := ms.map V.str)) (fun i σ H' => (∃ a b c e, σ = [some (.ref m), some (.str first), some (.ref d), some (.ref u), a, b, c, e]) ∧ Same H1 H' ∧ ∀ x ∈ ms.take i, GM.off ms first L x = false) ⟨⟨_, _, _, _, rfl⟩, Same.refl _, fun x hx => absurd hx (by simp)⟩ (fun i σ H' _ q => Same.seq q.2.1 (SqL.of hm1)) ?_ ?_⟩
    · rintro i x σ H' H'' hi ⟨⟨a, b, c, e, rfl⟩, s3, hno⟩ ⟨rfl, hx0⟩
      obtain ⟨z, hz, rfl, hzm⟩ := at_str hx0
      have U3 : DM H'' u ms (fun x => .int (GM.sur ms first L x)) := s3 _ _ U
      refine ⟨_, rfl, _, rfl, u, _, rfl, dget U3 hzm, by show 2 ≤ sizeLine; decide, fun p hp => ⟨p, _, rfl, .inr (SqT.of upd_same), rfl, rfl, _, rfl, ?_⟩⟩
      have s5 := Same.trans s3 (Same.new (o := .tup [.int 0, .int 1]) hp)
      show if (!inV (.int (GM.sur ms first L z)) [.int 0, .int 1]) = true then _ else _
      rw [inV01]
      have U5 : DM (upd H'' p (.tup [.int 0, .int 1])) u ms (fun x => .int (GM.sur ms first L x)) := s5 _ _ U
      have D5 := D1.on s5
      generalize upd H'' p (.tup [V.int 0, V.int 1]) = H5 at s5 U5 D5
      by_cases q : GM.sur ms first L z = 0 ∨ GM.sur ms first L z = 1
      · refine iteNS q ?_
        refine ⟨⟨_, _, _, _, rfl⟩, s5, fun x hx => ?_⟩
        rw [take_snoc hz] at hx
        rcases List.mem_append.mp hx with w | w
        · exact hno x w
        · rw [List.mem_singleton.mp w]
          unfold GM.off
          exact decide_eq_false (fun n => n q)
      · refine iteNT q ?_
        refine ⟨_, rfl, _, rfl, d, _, rfl, dget D5.dk hzm, ad z, _, rfl, .inl (SqL.of (D5.l z hzm)), _, rfl, _, rfl, rfl, .inr ⟨_, rfl, _, _, rfl, rfl, ?_⟩⟩
        refine ⟨_, rfl, _, rfl, _, rfl, _, rfl, _, rfl, u, _, rfl, dget U5 hzm, _, _, rfl, rfl, by show 4 ≤ sizeLine; decide, fun p2 hp2 => k _ _ (Same.trans s1 (Same.trans s5 (Same.new hp2))) ?_⟩
        unfold GM.conf
        rw [find_take hno hz (by unfold GM.off; exact decide_eq_true q)]
        refine ⟨p2, rfl, ?_⟩
        rw [upd_same]
        have e6 : (((L z).map V.str).length : Int) + (if decide (V.str z = V.str first) = true then (1 : Int) else 0) - GM.sur ms first L z = (GM.named ms L z : Int) := by rw [had_int]; unfold GM.sur; omega
        show some (HO.tup [V.str "unbalanced", V.str z, V.int ((((L z).map V.str).length : Int) + (if decide (V.str z = V.str first) = true then (1 : Int) else 0)), V.int ((((L z).map V.str).length : Int) + (if decide (V.str z = V.str first) = true then (1 : Int) else 0) - GM.sur ms first L z)]) = _
        rw [e6, had_int]
    · rintro σ H2 ⟨⟨a, b, c, e, rfl⟩, s2, hno⟩
      rw [List.length_map, List.take_length] at hno
      have s2' := Same.trans s1 s2
      have hm2 := Same.ls s2' hm
      have D2 := D.on s2'
      -- rings
      refine ⟨_, rfl, m, rfl, ⟨_, SqL.of hm2⟩, lc_pure walk_list (fun i => ((ms.take i).filter (fun x => GM.rhas (GM.st first L) x (ms.length + 1) x)).map V.str) rfl (fun _ e => Same.seq e (SqL.of hm2)) (fun X i x H' H'' hi hD s4 d4 y => ?_) (fun X H4 hX s4 d4 => ?_)⟩
      · obtain ⟨rfl, hx0⟩ := y
        obtain ⟨z, hz, rfl, hzm⟩ := at_str hx0
        refine ⟨rfl, ⟨_, rfl, _, rfl, _, rfl, m, ms, first, d, ad, L, z, rfl, Same.ls s4 hm2, M, D2.on s4, Lo, hzm, fun H5 s5 => ⟨_, rfl, ?_⟩⟩⟩
        have hsm : (((ms.take i).filter (fun x => GM.rhas (GM.st first L) x (ms.length + 1) x)).map V.str).length ≤ 100 := by
          rw [List.length_map]
          have := List.length_filter_le (fun x => GM.rhas (GM.st first L) x (ms.length + 1) x) (ms.take i)
          rw [List.length_take] at this
          omega
        cases q : GM.rhas (GM.st first L) z (ms.length + 1) z with
        | true =>
          refine ⟨_, rfl, lcY hD s4 d4 s5 (small (by omega)) ?_⟩
          show ((ms.take (i + 1)).filter _).map V.str = _
          rw [take_snoc hz, List.filter_append, List.map_append]
          rw [show [z].filter (fun x => GM.rhas (GM.st first L) x (ms.length + 1) x) = [z] by rw [List.filter_cons, if_pos q]; rfl]
          rfl
        | false =>
          refine ⟨Same.trans s4 s5, ?_⟩
          show _ = some (HO.lst (((ms.take (i + 1)).filter _).map V.str))
          rw [take_snoc hz, List.filter_append]
          rw [show [z].filter (fun x => GM.rhas (GM.st first L) x (ms.length + 1) x) = [] by rw [List.filter_cons, if_neg (by rw [q]; decide)]; rfl]
          rw [List.append_nil]
          exact s5 _ _ d4
      rw [List.length_map, List.take_length] at d4
      have s5 := Same.trans s2' s4
      have D5 := D.on s5
      have ec : GM.conf ms first L = (GM.lring ms first L).map .ring := by
        unfold GM.conf
        rw [List.find?_eq_none.mpr fun x hx => by rw [hno x hx]; decide]
      have hkl : (GM.keys ms first L).length ≤ ms.length + 1 := by
        unfold GM.keys
        have := List.length_filter_le (fun x => (GM.st first L x).isSome) ms
        omega
      have ef : ms.filter (fun x => GM.rhas (GM.st first L) x (ms.length + 1) x) = ms.filter (fun x => (GM.rat (GM.st first L) (GM.keys ms first L).length x).isSome) := List.filter_congr fun x hx => by
        rw [GM.rhas_eq _ _ _ [x]]
        show (GM.rat (GM.st first L) (ms.length + 1) x).isSome = _
        rw [GM.rat_more Lo.ok hx hkl]
      have el : GM.lring ms first L = ofHead (fun x => GM.rat (GM.st first L) (GM.keys ms first L).length x) (ms.filter (fun x => (GM.rat (GM.st first L) (GM.keys ms first L).length x).isSome)) := by
        unfold GM.lring
        exact findSome_filter_head (f := fun x => GM.rat (GM.st first L) (GM.keys ms first L).length x)
      rw [← ef] at el
      have hrs : ∀ x ∈ ms.filter (fun x => GM.rhas (GM.st first L) x (ms.length + 1) x), x ∈ ms := fun x hx => (List.mem_filter.mp hx).1
      have hxs : ∀ x ∈ ms.filter (fun x => GM.rhas (GM.st first L) x (ms.length + 1) x), (GM.rat (GM.st first L) (GM.keys ms first L).length x).isSome = true := fun x hx => by
        rw [ef] at hx
        exact (List.mem_filter.mp hx).2
      generalize ms.filter (fun x => GM.rhas (GM.st first L) x (ms.length + 1) x) = rs at d4 el hrs hxs
      clear ef
      -- if rings == []
      refine ⟨_, rfl, Nat.zero_le _, fun p hp => ⟨X, p, rs, [], rfl, rfl, Same.new hp _ _ d4, upd_same, M.sOkL hrs, (fun _ q => nomatch q), _, rfl, ?_⟩⟩
      have s6 := Same.new (o := .lst []) hp
      cases rs with
      | nil =>
        rw [decide_eq_true rfl]
        refine k _ _ (Same.trans s5 s6) ?_
        rw [ec, el]; exact rfl
      | cons x0 rs =>
        rw [decide_eq_false (show ¬ (x0 :: rs = []) from fun q => nomatch q)]
        have el : GM.lring ms first L = GM.rat (GM.st first L) (GM.keys ms first L).length x0 := el
        have hx0 := hrs x0 (List.mem_cons_self ..)
        have hsome : (GM.rat (GM.st first L) (GM.keys ms first L).length x0).isSome = true := hxs x0 (List.mem_cons_self ..)
        obtain ⟨l, hl⟩ := Option.isSome_iff_exists.mp hsome
        have hl2 := hl
        rw [← GM.stm_rat Lo.ok hx0] at hl2
        obtain ⟨R, hll⟩ := GM.rat_ring hl2
        have hlm : ∀ x ∈ l, x ∈ ms := fun x hx => by
          obtain ⟨_, hc, p, z, e, hz⟩ := R
          exact (GM.mem_keys.mp (GM.stm_keys x (GM.chn_some hc e hz x hx))).1
        have hkl2 := keys_len (first := first) (L := L) M
        have d6 : LS (upd H4 p (.lst [])) X (x0 :: rs) := s6 _ _ d4
        have D6 := D5.on s6
        have s7 := Same.trans s5 s6
        generalize upd H4 p (.lst []) = H6 at d6 D6 s7
        refine ⟨_, rfl, X, _, 0, .str x0, rfl, rfl, SqL.of d6, atI_nat (j := 0) rfl, by show 1 ≤ sizeLine; decide, fun r hr => ?_⟩
        obtain ⟨t, e1, _⟩ := R.ex
        refine ⟨fun n σ H' => ∃ pre last rest a b c, σ = [some (.ref m), some (.str first), some (.ref d), some (.ref u), a, b, some (.ref X), some (.ref r)] ∧ Same H6 H' ∧ LS H' r (pre ++ [last]) ∧ l = pre ++ last :: rest ∧ rest.length = n ∧ c = (), ⟨t.length, [], x0, t, _, _, (), rfl, Same.new hr, upd_same, e1, rfl, rfl⟩, ?_⟩
        rintro n σ H' ⟨pre, last, rest, a, b, c, rfl, s8, hP, e, hn, _⟩
        have hat : atI ((pre ++ [last]).map V.str) (-1) = some (.str last) := by rw [List.map_append]; exact atI_last _ _
        have hlast : last ∈ ms := hlm last (by rw [e]; simp)
        have D8 := D6.on s8
        have hX8 : LS H' X (x0 :: rs) := s8 _ _ d6
        have step := ring_step R e
        have stv : ∀ g, GM.stm ms first L last = some g → ((L last).map V.str)[0]? = some (.str g) := fun g q => by
          unfold GM.stm at q
          rw [if_pos hlast] at q
          obtain ⟨_, t, e2⟩ := GM.st_some q
          rw [e2]; rfl
        cases rest with
        | nil =>
          have step : GM.stm ms first L last = some x0 := step
          refine ⟨_, rfl, _, rfl, _, rfl, r, _, _, .str last, rfl, rfl, SqL.of hP, hat, d, _, rfl, dget D8.dk hlast, ad last, _, 0, .str x0, rfl, rfl, SqL.of (D8.l last hlast), atI_nat (j := 0) (stv x0 step), ?_⟩
          refine ⟨_, rfl, X, _, 0, .str x0, rfl, rfl, SqL.of hX8, atI_nat (j := 0) rfl, rfl, _, rfl, ?_⟩
          rw [decide_eq_true (show V.str x0 = V.str x0 from rfl)]
          refine ⟨_, rfl, by show 2 ≤ sizeLine; decide, fun p2 hp2 => k _ _ (Same.trans s7 (Same.trans s8 (Same.new hp2))) ?_⟩
          rw [ec, el, hl]
          refine ⟨p2, r, rfl, upd_same, ?_⟩
          rw [e]
          exact Same.new hp2 _ _ hP
        | cons b2 rest =>
          obtain ⟨step, hb⟩ : GM.stm ms first L last = some b2 ∧ b2 ≠ x0 := step
          refine ⟨_, rfl, _, rfl, _, rfl, r, _, _, .str last, rfl, rfl, SqL.of hP, hat, d, _, rfl, dget D8.dk hlast, ad last, _, 0, .str b2, rfl, rfl, SqL.of (D8.l last hlast), atI_nat (j := 0) (stv b2 step), ?_⟩
          refine ⟨_, rfl, X, _, 0, .str x0, rfl, rfl, SqL.of hX8, atI_nat (j := 0) rfl, rfl, _, rfl, ?_⟩
          rw [decide_eq_false (show ¬ V.str b2 = V.str x0 from fun q => hb (V.str.inj q))]
          obtain ⟨n', rfl⟩ : ∃ n', n = n' + 1 := ⟨rest.length, by rw [← hn]; rfl⟩
          refine ⟨fun σ' H3 => ∃ pre last rest a b c, σ' = [some (.ref m), some (.str first), some (.ref d), some (.ref u), a, b, some (.ref X), some (.ref r)] ∧ Same H6 H3 ∧ LS H3 r (pre ++ [last]) ∧ l = pre ++ last :: rest ∧ rest.length = n' ∧ c = (), fun σ' H3 q => ⟨n', Nat.lt_succ_self _, q⟩, ?_⟩
          have hlen : l.length ≤ 12 := Nat.le_trans hll hkl2
          refine ⟨_, rfl, Or.inl ⟨rfl, _, SqL.of hP⟩, _, rfl, _, rfl, _, rfl, r, _, _, .str last, rfl, rfl, SqL.of hP, hat, d, _, rfl, dget D8.dk hlast, ad last, _, 0, .str b2, rfl, rfl, SqL.of (D8.l last hlast), atI_nat (j := 0) (stv b2 step), ?_⟩
          refine ⟨r, _, _, rfl, rfl, hP, small ?_, pre ++ [last], b2, rest, _, _, (), rfl, Same.mut s8 hr, ?_, by rw [e]; simp, by simpa using hn, rfl⟩
          · rw [List.length_map]
            have : (pre ++ [last]).length ≤ l.length := by rw [e]; simp
            omega
          · show upd H' r _ r = _
            rw [upd_same, List.map_append (l₂ := [b2])]; rfl
end
end G

set_option maxHeartbeats 4000000
namespace PySem
open PySem.Spec PyProof.Rows
open Sem
section
theorem gf_list_head {M : Model} {A : Around} {E : Value → Shared → Prop} {s : Shared} {Q : Fin → Shared → Prop} {a : Addr} {o : Obj} {x : Value} {l : List Value} {n} {b : Nat}
    (hget : s.heap.get? a = some o) (hd : o.data = .seq (x :: l).toArray n)
    (h : wpAny M A (do again (.builtin "list.__repr__.loop" ⟨[.ref a, rawInt 0, ← newList [], rawInt b], []⟩)) Q E s)
    (h2 : wpAny M A (do rule "list.__repr__.in-itself"; retStr "[...]") Q E s) : wpAny M A (Builtin.listReprAt b ⟨[.ref a], []⟩) Q E s := by
  intro Γ p hΓ
  have k1 := h Γ p hΓ
  have k2 := h2 Γ p hΓ
  unfold Builtin.listReprAt
  simp [slotArgs, Builtin.List.listItems, seqItems?, wp_load_of (h := hget), hd, stack]
  show wp M Γ (if (Γ.below.any _) = true then _ else _) _ _ p s
  split
  · simpa using k2
  · exact k1
variable {prog : Program} {w : World}
/-- list.__repr__ of texts, whatever is under way: some text -/
theorem gf_list_at {a : Addr} {oa : Obj} {x : Value} {l : List Value} {na : Nat} {ts : List Str} {A : Around} {s : Shared} {R : Result → Shared → Prop} {base : Nat}
    (ha : s.heap.get? a = some oa) (hda : oa.data = .seq (x :: l).toArray na) (hlen : ts.length = (x :: l).toArray.size)
    (hT : ∀ (i : Nat) (y : Value), (x :: l).toArray[i]? = some y → ∃ t, ts[i]? = some t ∧ ReprIs prog w y t)
    (hR : ∀ h' t u tk, t.length ≤ (listText ts).length + 5 → (∀ b o, s.heap.get? b = some o → h'.get? b = some o) → R (.ok (.ret (.str t u))) { s with heap := h', toks := tk })
    (hsz : base + (listText ts).length ≤ sizeLine) :
    wpAny (model prog w) A.in1 (Builtin.listReprAt base ⟨[.ref a], []⟩) (fun fin s' => match fin with | .done f => R (.ok f) s' | .again c' => c'.quiet = true ∧ codeAny (model prog w) A c' R s') (fun e s' => R (.error e) s') s := by
  refine gf_list_head ha hda ?_ ?_
  · refine wpAny_bind (m := newList []) (wpAny_newObj_type ?_)
    refine wpAny_pure ⟨F.quiet_list_repr_loop _, ?_⟩
    refine codeAny_list_repr_start (P := s.heap.objs.size) (Nat.ne_of_lt (Heap.lt_size ha)) hlen hT (Heap.get?_push_of_some _ ha) hda (Heap.get?_push_size _ rfl) (fun h' u tk hk => ?_) hsz
    exact hR h' _ u tk (Nat.le_add_right _ _) fun b o e => hk b o (Nat.ne_of_lt (Heap.lt_size e)) (Heap.get?_push_of_some _ e)
  · refine wpAny_bind (wpAny_rule ?_)
    refine wpAny_bind (wpAny_mkStr (wpAny_pure ?_) (by decide +kernel))
    exact hR s.heap _ _ _ (Nat.le_trans (show (Str.ofString "[...]").length ≤ 5 by decide +kernel) (Nat.le_add_left _ _)) fun _ _ e => e
theorem gf_list_under {a : Addr} {oa : Obj} {x : Value} {l : List Value} {na : Nat} {ts : List Str} {A : Around} {E : Value → Shared → Prop} {s : Shared} {Q : Str → Shared → Prop} {base : Nat} (hu : A.units < cLine)
    (ha : s.heap.get? a = some oa) (hc : oa.cls = .type "list") (hda : oa.data = .seq (x :: l).toArray na) (hlen : ts.length = (x :: l).toArray.size)
    (hT : ∀ (i : Nat) (y : Value), (x :: l).toArray[i]? = some y → ∃ t, ts[i]? = some t ∧ ReprIs prog w y t)
    (hQ : ∀ h' t tk, t.length ≤ (listText ts).length + 5 → (∀ b o, s.heap.get? b = some o → h'.get? b = some o) → Q t { s with heap := h', toks := tk })
    (hsz : base + (listText ts).length ≤ sizeLine) :
    wpAny (model prog w) A (pyReprUnder base (.ref a)) Q E s := by
  refine wpAny_pyReprUnder_ref (by omega) ?_
  refine wpAny_pyReprObjUnder_twin (twin := "list.__repr__.under") ⟨oa, ha, hc⟩ F.slot_list_repr.toG rfl hu ?_
  refine call_twin_plain F.plain_list_repr_under F.entry_list_repr_under F.check_list_repr_under ⟨oa, ha, hc⟩ F.slot_list_repr.toG (F.args_list_repr_1 _) ?_
  exact gf_list_at (R := callEnd (fun v s' => (∃ x u, v = .str x u) ∧ ∃ x u, v = .str x u ∧ Q x s') E) ha hda hlen hT (fun h' t u tk ht hk => ⟨⟨_, _, rfl⟩, _, _, rfl, hQ h' t tk ht hk⟩) hsz
/-- (x, [..]): some text -/
theorem gf_pair {A : Around} {E : Value → Shared → Prop} {s : Shared} {Q : Value → Shared → Prop} {p a : Addr} {op oa : Obj} {y x : Value} {l : List Value} {np na : Nat} {t0 : Str} {ts : List Str} (hu : A.units + 10 < cLine)
    (hp : s.heap.get? p = some op) (hcp : op.cls = .type "tuple") (hdp : op.data = .seq #[y, .ref a] np) (hy : ReprIs prog w y t0)
    (ha : s.heap.get? a = some oa) (hc : oa.cls = .type "list") (hda : oa.data = .seq (x :: l).toArray na) (hlen : ts.length = (x :: l).toArray.size)
    (hT : ∀ (i : Nat) (y : Value), (x :: l).toArray[i]? = some y → ∃ t, ts[i]? = some t ∧ ReprIs prog w y t) (hsz : t0.length + (listText ts).length + 100 ≤ sizeLine)
    (h : ∀ h' (m : Str) (u tk : Tok), m.length ≤ t0.length + (listText ts).length + 50 → (∀ b o, s.heap.get? b = some o → h'.get? b = some o) → Q (.str m u) { s with heap := h', toks := tk }) :
    wpAny (model prog w) A (formatField (.ref p) Str.empty) Q E s := by
  refine wpAny_formatField_slot (fun _ _ => nofun) (by omega) ⟨op, hp, hcp⟩ F.slot_tuple_format F.slot_tuple_str F.slot_tuple_repr ?_
  refine wpAny_call (codeAny_call_builtin_own (Code.quiet_builtin _ (by decide +kernel)) F.entry_tuple_repr (F.slot_tuple_repr.check _ _ _ _ _ _ _ _ ⟨op, hp, hcp⟩ (F.args_tuple_repr_1 _) (wpOwn_of_wpAny ?_)))
  show wpAny _ _ (Builtin.tupleReprAt 0 ⟨[.ref p], []⟩) _ _ _
  rw [tuple_repr_tree]
  refine wpAny_bind (fmt_underWay fun b => ?_)
  cases b with
  | true =>
    refine PySem.W.KFB.if_so rfl ?_
    refine wpAny_bind (wpAny_rule ?_)
    refine wpAny_bind (wpAny_mkStr (wpAny_pure ?_) (by decide +kernel))
    exact ⟨_, _, rfl, h _ "(...)" _ _ (Nat.le_trans fmt_way (by omega)) fun _ _ e => e⟩
  | false =>
    refine PySem.W.KFB.if_not rfl ?_
    unfold tupleReprRest Builtin.Tuple.tupleItemsOf
    refine wpAny_bind (wpAny_bind (wpAny_seqItems hp hdp (wpAny_pure ?_)))
    rw [← Array.forIn_toList]
    show wpAny _ _ (forIn [y, .ref a] _ tupBody >>= _) _ _ _
    rw [List.forIn_cons]
    refine wpAny_bind (wpAny_bind (wpAny_bind (hy _ (by show 0 + 1 + t0.length ≤ sizeLine; omega) _ _ _ _ fun tk => wpAny_pure ?_)))
    show wpAny _ _ (forIn [.ref a] _ tupBody) _ _ _
    rw [List.forIn_cons]
    refine wpAny_bind (wpAny_bind (gf_list_under (by show A.units + 1 + 1 + 1 < cLine; omega) ha hc hda hlen hT (fun h' t tk2 ht hk => wpAny_pure ?_) (by show 0 + (t0.length + 2) + 1 + (listText ts).length ≤ sizeLine; omega)))
    show wpAny _ _ (forIn [] _ tupBody) _ _ _
    rw [List.forIn_nil]
    refine wpAny_pure ?_
    have hL : (("(" : Str) ++ Str.join ", " [t0, t] ++ (if (#[y, Value.ref a] : Array Value).size == 1 then ",)" else ")" : String)).length ≤ t0.length + (listText ts).length + 50 := by
      rw [strLen_append, strLen_append]
      have e1 : (("(" : String) : Str).length = 1 := rfl
      have e3 : (((if (#[y, Value.ref a] : Array Value).size == 1 then ",)" else ")" : String) : Str)).length = 1 := rfl
      have := join_length_add [t0, t] (by simp)
      have e4 : piled [t0, t] = t0.length + 2 + (t.length + 2 + 0) := rfl
      omega
    refine wpAny_bind (wpAny_mkStr (wpAny_pure ?_) (by
      have : t0.length + (listText ts).length + 50 ≤ sizeLine := by omega
      exact Nat.le_trans hL this))
    exact ⟨_, _, rfl, h h' _ _ _ hL hk⟩
end
end PySem

set_option maxHeartbeats 4000000
namespace G
open PySem L2
/-- small enough to be shown -/
def CfOk : GM.Conf Str → Prop
  | .unb x a b => NameOk x ∧ a ≤ 10000 ∧ b ≤ 10000
  | .ring l => l ≠ [] ∧ l.length ≤ 12 ∧ ∀ x ∈ l, NameOk x
theorem name_small {z : Str} (h : NameOk z) : ∀ c ∈ z.cps.toList, c < 16 ^ 8 := fun c hc => by
  have h2 : ∀ c ∈ ("abcdefghijklmnopqrstuvwxyz" : Str).cps.toList, (decide (c < 16 ^ 8) : Bool) = true := by decide +kernel
  exact of_decide_eq_true (h2 c (h.2.2 c hc))
theorem name_repr {z : Str} (h : NameOk z) : (PySem.reprText z).length ≤ 82 := by
  have := StrLaws.reprText_len z (name_small h)
  have := h.2.1
  omega
theorem int_len {n : Nat} (h : n ≤ 10000) : (Str.ofString (toString (n : Int))).length ≤ 20 ∧ (n : Int).natAbs.log2 < 1920 := by
  have h1 : (n : Int).natAbs.log2 < 14 := by
    have e : (n : Int).natAbs = n := rfl
    rw [e]
    by_cases h0 : n = 0
    · subst h0; decide
    · exact (Nat.log2_lt h0).mpr (by omega)
  have := int_text_length_le (a := (n : Int)) (k := 14) (by decide) h1
  rw [ofString_length]
  omega
theorem reprs {prog : Program} {w : World} : ∀ {l : List Str} {its : List Value}, Vals (l.map V.str) its → (∀ x ∈ l, NameOk x) → ∀ (i : Nat) (y : Value), its[i]? = some y → ∃ t, (l.map reprText)[i]? = some t ∧ ReprIs prog w y t
  | [], _, r, _, i, y, h => by cases r; simp at h
  | x :: l, _, r, hn, i, y, h => by
    cases r with
    | cons r1 r2 =>
      obtain ⟨t, rfl⟩ := r1
      cases i with
      | zero =>
        have : y = .str x t := by simpa using h.symm
        subst this
        refine ⟨reprText x, rfl, ReprIs.str x t (smallE (by have := name_repr (hn x (List.mem_cons_self ..)); omega))⟩
      | succ i => exact reprs r2 (fun z hz => hn z (List.mem_cons_of_mem _ hz)) i y (by simpa using h)
theorem listText_small {l : List Str} (h : l.length ≤ 12) (hn : ∀ x ∈ l, NameOk x) : (listText (l.map reprText)).length ≤ 2000 := by
  have h1 := listText_len_le (l.map reprText)
  have h2 : ∀ l : List Str, (∀ x ∈ l, NameOk x) → ((l.map reprText).map (·.length)).sum ≤ 82 * l.length := by
    intro l
    induction l with
    | nil => intro _; simp
    | cons a t ih =>
      intro q
      have := ih fun x hx => q x (List.mem_cons_of_mem _ hx)
      have := name_repr (q a (List.mem_cons_self ..))
      simp only [List.map_cons, List.sum_cons, List.length_cons] at *
      omega
  have := h2 l hn
  rw [List.length_map] at h1
  omega
section
variable {X : Cx}
/-- {conflict}: some text -/
def tFmtC (te : TE) : TE := fun σ H Q => te σ H fun x H1 => ∃ c, ConfV H1 (some c) x ∧ CfOk c ∧ ∀ m : Str, m.length ≤ 5000 → Q (.str m) H1
theorem pe_fmtC {e : Expr} {te : TE} {pos : Pos} {k : Nat} (hr : Room k X.A) (he : PE X e te) : PE X (.FormattedValue e (-1) none pos) (tFmtC te) := by
  refine ⟨fun pins s σ H Q I h => ?_⟩
  refine wpAny_FormattedValue_plain (thn (he.run pins s σ H _ I h) fun v s1 hv => ?_)
  obtain ⟨x, H1, I1, r1, c, hc, ok, q⟩ := hv
  have hu := hr.units
  cases c with
  | unb x a b =>
    obtain ⟨p, rfl, hp⟩ := hc
    obtain ⟨hx, ha, hb⟩ := ok
    cases r1
    obtain ⟨its, rv, ⟨o, ho, hcl, n, hd⟩, _⟩ := I1.tuple (SqT.of hp)
    cases rv with
    | cons r1 rv => cases rv with
      | cons r2 rv => cases rv with
        | cons r3 rv => cases rv with
          | cons r4 rv =>
            cases rv
            obtain ⟨t1, rfl⟩ := r1
            obtain ⟨t2, rfl⟩ := r2
            obtain ⟨t3, rfl⟩ := r3
            obtain ⟨t4, rfl⟩ := r4
            have n1 := name_repr hx
            have n3 := int_len ha
            have n4 := int_len hb
            have nu : (reprText "unbalanced").length ≤ 102 := by decide +kernel
            have htx := fmt_text [reprText "unbalanced", reprText x, Str.ofString (toString (a : Int)), Str.ofString (toString (b : Int))]
            have hp2 : piled [reprText "unbalanced", reprText x, Str.ofString (toString (a : Int)), Str.ofString (toString (b : Int))] = (reprText "unbalanced").length + 2 + ((reprText x).length + 2 + ((Str.ofString (toString (a : Int))).length + 2 + ((Str.ofString (toString (b : Int))).length + 2 + 0))) := rfl
            have hbig : 100000 ≤ sizeLine := by decide
            refine fmt_tuple (ts := [reprText "unbalanced", reprText x, Str.ofString (toString (a : Int)), Str.ofString (toString (b : Int))]) (by omega) ho hcl hd (.cons (ReprIs.str _ t1 (by omega)) (.cons (ReprIs.str _ t2 (by omega)) (.cons (ReprIs.int t3 n3.2) (.cons (ReprIs.int t4 n4.2) .nil)))) (by omega) fun m u tk hm => ⟨.str m, H1, I1.tok _, ⟨u, rfl⟩, q m (by omega)⟩
  | ring l =>
    obtain ⟨p, a, rfl, hp, hl⟩ := hc
    obtain ⟨hne, hlen, hn⟩ := ok
    cases r1
    obtain ⟨its, rv, ⟨o, ho, hcl, n, hd⟩, _⟩ := I1.tuple (SqT.of hp)
    cases rv with
    | cons r1 rv => cases rv with
      | cons r2 rv =>
        cases rv
        obtain ⟨t1, rfl⟩ := r1
        cases r2
        obtain ⟨xs, rl, ⟨ol, nl, hol, hcol, _, hdl⟩, _⟩ := I1.list (SqL.of hl)
        cases xs with
        | nil =>
          cases l with
          | nil => exact absurd rfl hne
          | cons y l => cases rl
        | cons y xs =>
          have nu : (reprText "ring").length ≤ 42 := by decide +kernel
          have hls := listText_small hlen hn
          have hbig : 100000 ≤ sizeLine := by decide
          refine gf_pair (t0 := reprText "ring") (ts := l.map reprText) (by omega) ho hcl hd (ReprIs.str _ t1 (by omega)) hol hcol hdl ?_ (fun i y hy => reprs rl hn i y (by simpa using hy)) (by omega) fun h' m u tk hm hk => ⟨.str m, H1, I1.kept hk, ⟨u, rfl⟩, q m (by omega)⟩
          have := Paired.length rl
          rw [List.length_map] at this
          rw [List.length_map, this]
          simp
/-- Base.__init__(self, ..), Base an own class whose __init__ is ValueError's -/
theorem pe_basinit {x : Str} {B : Addr} {mc : Value} {e : Expr} {es : List Expr} {ta : TA} {p1 p2 pos : Pos} {pl : Sem Bool} (hm : X.mg x = some (.ref B)) (R : ClX.CRead X.K B mc) (vV : PySem.W.findCls X.K (.ref B) mc "__init__" = some (.val (.builtin "ValueError.__init__"))) (ha : PA X (e :: es) ta) (hg : Gl X x := by rfl)
    (hdb : (x == ("__debug__" : Str)) = false := by decide)
    (hc : eval (.Call (.Attribute (.Name x p1) "__init__" p2) (e :: es) [] pos) X.env = (do
      let ov ← eval (.Name x p1) X.env
      standAt p2.atName
      let (f, first) ← holding [ov] (getMethod ov "__init__" pl)
      callWith pos f first (backTo pos (starEach (e :: es) X.env)) (backToKw pos (keywordEach [] X.env))) := by rfl)
    (he : starEach (e :: es) X.env = (false, eval e X.env) :: starEach es X.env := by rfl) (hpl : (backTo pos (starEach es X.env)).any (·.1) = false := by rfl) :
    PE X (.Call (.Attribute (.Name x p1) "__init__" p2) (e :: es) [] pos) (tVeI X.K ta) := by
  refine ⟨fun pins s σ H Q I h => ?_⟩
  refine PySem.W.methodCall_KW (ld_glob I hg hm ?_ hdb) hc
  refine PySem.W.method_cls I.kIn R.ga ?_
  refine PySem.W.cls_value I.kIn R.rd vV (by decide +kernel) ?_
  show wpAny _ _ (callWith pos (Value.builtin "ValueError.__init__") [] (backTo pos (starEach (e :: es) X.env)) []) _ _ _
  refine PyProof.Rows.callWith_method1 (thn (ha.run pos pins _ σ H _ (I.tok _) h) fun us s1 ⟨vs, H1, I1, r1, a, C, ws, ev, hl, T, ea, q⟩ => ?_) he hpl
  subst ev
  cases r1 with
  | @cons _ u0 _ ur ra rw' =>
    obtain rfl : u0 = Value.ref a := ra
    have hlen : ur.length ≤ sizeLine := by
      rw [← Paired.length rw', sizeLine_eq]
      omega
    exact oinit_ok T I1 ea hlen fun s' J => ⟨.non, H1, J, rfl, q⟩
end
end G

set_option maxHeartbeats 4000000
namespace G
open PySem L2
variable {P : Program} {w : World} {K : PySem.W.Frag} {mg : Str → Option Value} {base : Heap}
/-! ### Inconsistent -/
/-- what the written part says of Inconsistent (at C) and GroupError (at B) -/
structure IncT (K : PySem.W.Frag) (mg : Str → Option Value) (C fI : Addr) : Prop where
  ox : OexC K C
  gC : mg "Inconsistent" = some (.ref C)
  iC : PySem.W.findIn K (.ref C) "__init__" = some (some (.ref fI))
  tI : PySem.W.typeIn K (.ref fI) = some (.type "function")
  noC : PySem.W.findIn K (.ref C) "conflict" = some none
  xf : XfC K C
  te : PySem.W.exmOne K (.ref C) (.ref C) = some true
  grp : ∃ B mc, mg "GroupError" = some (.ref B) ∧ ClX.CRead K B mc ∧ PySem.W.findCls K (.ref B) mc "__init__" = some (.val (.builtin "ValueError.__init__"))
abbrev sInit : Stmt := inClass (top 6) 0
theorem scInit : FnScope ["self", "conflict"] ["self", "conflict"] (defScope sInit) := ⟨rfl, rfl, rfl, by decide +kernel, rfl, by decide +kernel, by decide +kernel⟩
def spInc (C : Addr) : Sp := fun vs H Q _ => ∃ a v c, vs = [.ref a, v] ∧ H a = some (exo a C none) ∧ ConfV H (some c) v ∧ CfOk c ∧ ∀ dx, H dx = none → dx ≠ a → Q .non (upd (upd H dx (exd dx [("conflict", v)])) a (exo a C (some dx)))
theorem ok_init {C fI f : Addr} {fd : FuncData} (F : Fun K "__init__" "Inconsistent.__init__" sInit f fd) (T : IncT K mg C fI) : FnOk P w K mg base CX0 1 f fd ["self", "conflict"] (spInc C) := by
  obtain ⟨B, mc, gB, RB, vB⟩ := T.grp
  refine F.ok scInit (fun vs H Q E h => ?_) (fun cdv A outer s H vs Q E hr h => ?_)
  · obtain ⟨a, v, c, rfl, _⟩ := h
    rfl
  · obtain ⟨a, v, c, rfl, ha, hv, hc, k⟩ := h
    refine ⟨_, pss_cons (ps_expr (pe_basinit gB RB vB (pa_cons (pv 0) (pa_cons (pe_joined (PJ.cons pe_str (PJ.cons (pe_fmtC hr (pv 1)) PJ.nil))) pa_nil)))) (pss_one (ps_ost (pv 0) (pv 1))), ?_⟩
    refine ⟨_, rfl, _, rfl, (by show (28 : Nat) ≤ sizeLine; decide), _, rfl, c, hv, hc, fun m hm => ⟨m, rfl, ?_, ?_⟩⟩
    · rw [strLen_append]
      have : ((Str.empty ++ ("no history has these lists: " : Str))).length = 28 := by decide +kernel
      have hb : 100000 ≤ sizeLine := by decide
      omega
    · refine ⟨a, C, _, rfl, (by show 1 ≤ 1000; decide), T.ox, ha, ?_⟩
      exact ⟨_, rfl, _, rfl, a, C, rfl, T.ox, T.noC, .inl ⟨ha, fun dx hd ne => k dx hd ne⟩⟩
/-! ### need_consistent -/
abbrev sNeedConsistent : Stmt := top 32
theorem scNeedConsistent : FnScope ["members", "first", "lists", "conflict"] ["members", "first", "lists"] (defScope sNeedConsistent) := ⟨rfl, rfl, rfl, by decide +kernel, rfl, by decide +kernel, by decide +kernel⟩
def ConfE (C : Addr) (conf : Option (GM.Conf Str)) (H : Hp) (E : XK) : Prop := ∀ c, conf = some c → ∀ H' v dd, Same H H' → H' dd = some (.xd [("conflict", v)]) → ConfV H' (some c) v → E (.ref C) (some dd) H'
def spNeedC (C : Addr) : Sp := fun vs H Q E => ∃ m ms first d ad L, vs = [.ref m, .str first, .ref d] ∧ LS H m ms ∧ Ms ms ∧ first ∈ ms ∧ DL H d ms ad L ∧ LsOk ms L ∧ (∀ c, GM.conf ms first L = some c → CfOk c) ∧
  (GM.conf ms first L = none → ∀ H', Same H H' → Q .non H') ∧ ConfE C (GM.conf ms first L) H E
theorem ConfV.keep {H H' : Hp} {c : Option (GM.Conf Str)} {v : V} (k : ∀ b o, H b = some o → (∃ xs, o = .lst xs) ∨ (∃ xs, o = .tup xs) → H' b = some o) (h : ConfV H c v) : ConfV H' c v := by
  cases c with
  | none => exact h
  | some c =>
    cases c with
    | unb x a b =>
      obtain ⟨p, rfl, hp⟩ := h
      exact ⟨p, rfl, k _ _ hp (.inr ⟨_, rfl⟩)⟩
    | ring l =>
      obtain ⟨p, a, rfl, hp, hl⟩ := h
      exact ⟨p, a, rfl, k _ _ hp (.inr ⟨_, rfl⟩), k _ _ hl (.inl ⟨_, rfl⟩)⟩
theorem ok_need_consistent {C fI f : Addr} {fd fdI : FuncData} (F : Fun K "need_consistent" "need_consistent" sNeedConsistent f fd) (T : IncT K mg C fI) (FI : FnOk P w K mg base CX0 1 fI fdI ["self", "conflict"] (spInc C)) (bI : Binds K fdI ["self", "conflict"] [])
    (Dneed_lists : Dn P w K mg base CX0 4 "need_lists" ["members", "first", "lists"] spNeedLists) (Dconflict_in : Dn P w K mg base CX0 3 "conflict_in" ["members", "first", "lists"] spConflict) : FnOk P w K mg base (L2.CX P w) 5 f fd ["members", "first", "lists"] (spNeedC C) := by
  refine F.okX scNeedConsistent (fun vs H Q E h => ?_) (fun cdv A outer s H vs Q E hr h => ?_)
  · obtain ⟨m, ms, first, d, ad, L, rfl, _⟩ := h
    rfl
  · obtain ⟨m, ms, first, d, ad, L, rfl, hm, M, hf, hd, ok, hc, k, kE⟩ := h
    refine ⟨_, pss_cons (ps_expr (call_dn Dneed_lists hr (pa_cons (pv 0) (pa_cons (pv 1) (pa_cons (pv 2) pa_nil)))))
      (pss_cons (ps_set (i := 3) scNeedConsistent.nd rfl (Or.inl rfl) (call_dn Dconflict_in hr (pa_cons (pv 0) (pa_cons (pv 1) (pa_cons (pv 2) pa_nil)))))
      (pss_one (ps_if (pt_cmpR op_notN (pv 3) pe_non (nomark _)) (pss_one (ps_raise rfl (takes_of rfl rfl rfl rfl) (pmk_oex T.ox T.iC T.tI FI (hr.mono (by decide)) bI .nil pass0 rfl T.gC (pa_cons (pv 3) pa_nil)))) pss_nil))), ?_⟩
    refine ⟨_, rfl, _, rfl, _, rfl, m, ms, first, d, ad, L, rfl, hm, M, hf, hd, ok, fun H1 s1 => ?_⟩
    refine ⟨_, rfl, _, rfl, _, rfl, m, ms, first, d, ad, L, rfl, Same.ls s1 hm, M, hf, hd.on s1, ok, fun H2 r s2 hr2 => ?_⟩
    have s12 := Same.trans s1 s2
    cases hcf : GM.conf ms first L with
    | none =>
      rw [hcf] at hr2
      cases (show r = .non from hr2)
      refine ⟨_, rfl, rfl, ?_⟩
      rw [decide_eq_true (show V.non = V.non from rfl)]
      exact ⟨_, rfl, iteF (k hcf _ s12)⟩
    | some c =>
      rw [hcf] at hr2 kE
      have hne : r ≠ .non := fun z => by
        subst z
        cases c with
        | unb x a b => obtain ⟨p, q, _⟩ := hr2; cases q
        | ring l => obtain ⟨p, a, q, _⟩ := hr2; cases q
      refine ⟨_, rfl, rfl, ?_⟩
      rw [decide_eq_false hne]
      refine ⟨_, rfl, ?_⟩
      refine ⟨_, rfl, (by show 1 ≤ 1000; decide), fun a ha => ?_⟩
      have hcv : ConfV (upd H2 a (exo a C none)) (some c) r := hr2.on (Same.new ha)
      refine ⟨a, r, c, rfl, upd_same, hcv, hc c hcf, fun dx hdx ne => ?_⟩
      have hdx2 : H2 dx = none := by rw [upd_ne ne] at hdx; exact hdx
      refine ⟨rfl, dx, _, upd_same, by rw [upd_ne ne, upd_same], hdx2, ?_⟩
      have kp : ∀ b o, H2 b = some o → upd (del (upd (upd (upd H2 a (exo a C none)) dx (exd dx [("conflict", r)])) a (exo a C (some dx))) a) dx (.xd [("conflict", r)]) b = some o := fun b o z => by
        rw [upd_ne (ne_of_none z hdx2), del_ne (ne_of_none z ha), upd_ne (ne_of_none z ha), upd_ne (ne_of_none z hdx2), upd_ne (ne_of_none z ha)]
        exact z
      exact kE c rfl _ r dx (fun b o z => kp b o (s12 b o z)) upd_same (hr2.on kp)
/-! ### history_of, last_holder -/
/-- a def of ours that may raise, called by its name -/
structure DnX (P : Program) (w : World) (K : PySem.W.Frag) (mg : Str → Option Value) (base : Heap) (k : Nat) (x : Str) (ps : List Str) (sp : Sp) : Prop where
  ex : ∃ f fd, FnOk P w K mg base (L2.CX P w) k f fd ps sp ∧ mg x = some (.ref f) ∧ PySem.W.keepIn K (.ref f) = true ∧ Binds K fd ps []
section
variable {X : Cx}
theorem call_dnX {W : WX} {k k' : Nat} {x : Str} {ps : List Str} {sp : Sp} {e : Expr} {es : List Expr} {p pos : Pos} {t : TA} (D : DnX X.prog X.w X.K X.mg X.base k x ps sp) (hr : Room k' X.A) (tk : Takes X W) (ha : PA X (e :: es) t) (hk : k ≤ k' := by decide) (hg : Gl X x := by rfl)
    (hd : (x == ("__debug__" : Str)) = false := by decide) (he : starEach (e :: es) X.env = (false, eval e X.env) :: starEach es X.env := by rfl) (hpl : (backTo pos (starEach es X.env)).any (·.1) = false := by rfl) :
    PE X (.Call (.Name x p) (e :: es) [] pos) (tCallS sp (WE W) t) := by
  obtain ⟨f, fd, F, m, kp, b⟩ := D.ex
  exact pe_callS F (hr.mono hk) hg m kp b (fun σ => passAt tk σ) ha (hdb := hd) (he := he) (hpl := hpl)
/-- .. where it raises nothing -/
theorem call_dn0 {k k' : Nat} {x : Str} {ps : List Str} {sp : Sp} {e : Expr} {es : List Expr} {p pos : Pos} {t : TA} (D : DnX X.prog X.w X.K X.mg X.base k x ps sp) (hr : Room k' X.A) (ha : PA X (e :: es) t) (hk : k ≤ k' := by decide) (hg : Gl X x := by rfl)
    (hd : (x == ("__debug__" : Str)) = false := by decide) (he : starEach (e :: es) X.env = (false, eval e X.env) :: starEach es X.env := by rfl) (hpl : (backTo pos (starEach es X.env)).any (·.1) = false := by rfl) :
    PE X (.Call (.Name x p) (e :: es) [] pos) (tCall sp [] E0 t) := by
  obtain ⟨f, fd, F, m, kp, b⟩ := D.ex
  exact pe_call F (hr.mono hk) hg m kp b .nil passL ha (hdb := hd) (he := he) (hpl := hpl)
end
abbrev sHistoryOf : Stmt := top 37
theorem scHistoryOf : FnScope ["members", "first", "lists"] ["members", "first", "lists"] (defScope sHistoryOf) := ⟨rfl, rfl, rfl, by decide +kernel, rfl, by decide +kernel, by decide +kernel⟩
def spHistoryOf (C : Addr) : Sp := fun vs H Q E => ∃ m ms first d ad L last, vs = [.ref m, .str first, .ref d] ∧ LS H m ms ∧ Ms ms ∧ first ∈ ms ∧ DL H d ms ad L ∧ LsOk ms L ∧ (∀ c, GM.conf ms first L = some c → CfOk c) ∧
  (GM.conf ms first L = none → LastOf ms first L last ∧ ∀ H' p, Same H H' → H p = none → LS H' p (hist ms L last) → Q (.ref p) H') ∧ ConfE C (GM.conf ms first L) H E
theorem ok_history_of {C f : Addr} {fd : FuncData} (F : Fun K "history_of" "history_of" sHistoryOf f fd) (Dneed_consistent : DnX P w K mg base 5 "need_consistent" ["members", "first", "lists"] (spNeedC C)) (Dwalked : Dn P w K mg base CX0 3 "walked" ["members", "first", "lists"] spWalked) :
    FnOk P w K mg base (L2.CX P w) 6 f fd ["members", "first", "lists"] (spHistoryOf C) := by
  refine F.okX scHistoryOf (fun vs H Q E h => ?_) (fun cdv A outer s H vs Q E hr h => ?_)
  · obtain ⟨m, ms, first, d, ad, L, last, rfl, _⟩ := h
    rfl
  · obtain ⟨m, ms, first, d, ad, L, last, rfl, hm, M, hf, hd, ok, hc, k, kE⟩ := h
    refine ⟨_, pss_cons (ps_expr (call_dnX Dneed_consistent hr (takes_of rfl rfl rfl rfl) (pa_cons (pv 0) (pa_cons (pv 1) (pa_cons (pv 2) pa_nil)))))
      (pss_one (ps_ret (call_dn Dwalked hr (pa_cons (pv 0) (pa_cons (pv 1) (pa_cons (pv 2) pa_nil)))))), ?_⟩
    refine ⟨_, rfl, _, rfl, _, rfl, m, ms, first, d, ad, L, rfl, hm, M, hf, hd, ok, hc, fun hn H1 s1 => ?_, kE⟩
    obtain ⟨hl, k⟩ := k hn
    exact ⟨_, rfl, _, rfl, _, rfl, m, ms, first, d, ad, L, last, rfl, Same.ls s1 hm, M, hd.on s1, ok, hl, fun H2 p s2 hp hh => k H2 p (Same.trans s1 s2) (Same.free s1 hp) hh⟩
abbrev sLastHolder : Stmt := top 38
theorem scLastHolder : FnScope ["members", "first", "lists"] ["members", "first", "lists"] (defScope sLastHolder) := ⟨rfl, rfl, rfl, by decide +kernel, rfl, by decide +kernel, by decide +kernel⟩
def spLastHolder : Sp := fun vs H Q _ => ∃ m ms first d ad L last, vs = [.ref m, .str first, .ref d] ∧ LS H m ms ∧ Ms ms ∧ first ∈ ms ∧ DL H d ms ad L ∧ LsOk ms L ∧ GM.conf ms first L = none ∧ LastOf ms first L last ∧
  ∀ H' z, Same H H' → (hist ms L last).getLast? = some z → Q (.str z) H'
theorem ok_last_holder {C f : Addr} {fd : FuncData} (F : Fun K "last_holder" "last_holder" sLastHolder f fd) (T : Txt K mg) (Dneed_consistent : DnX P w K mg base 5 "need_consistent" ["members", "first", "lists"] (spNeedC C)) (Dwalked : Dn P w K mg base CX0 3 "walked" ["members", "first", "lists"] spWalked) :
    FnOk P w K mg base CX0 6 f fd ["members", "first", "lists"] spLastHolder := by
  refine F.ok scLastHolder (fun vs H Q E h => ?_) (fun cdv A outer s H vs Q E hr h => ?_)
  · obtain ⟨m, ms, first, d, ad, L, last, rfl, _⟩ := h
    rfl
  · obtain ⟨m, ms, first, d, ad, L, last, rfl, hm, M, hf, hd, ok, hn, hl, k⟩ := h
    refine ⟨_, pss_cons (ps_expr (call_dn0 Dneed_consistent hr (pa_cons (pv 0) (pa_cons (pv 1) (pa_cons (pv 2) pa_nil)))))
      (pss_one (ps_ret (g_ixL T (call_dn Dwalked hr (pa_cons (pv 0) (pa_cons (pv 1) (pa_cons (pv 2) pa_nil)))) (pe_un un_neg pe_int) (fun _ _ => rfl)))), ?_⟩
    refine ⟨_, rfl, _, rfl, _, rfl, m, ms, first, d, ad, L, rfl, hm, M, hf, hd, ok, (fun c z => by rw [hn] at z; cases z), (fun _ H1 s1 => ?_), (fun c z => by rw [hn] at z; cases z)⟩
    refine ⟨_, rfl, _, rfl, _, rfl, m, ms, first, d, ad, L, last, rfl, Same.ls s1 hm, M, hd.on s1, ok, hl, fun H2 p s2 hp hh => ?_⟩
    have hlast : (hist ms L last).getLast? = some last := by
      unfold hist
      rw [List.getLast?_reverse]; rfl
    have hat : atI ((hist ms L last).map V.str) (-1) = some (.str last) := by
      unfold hist
      rw [List.reverse_cons, List.map_append]
      exact atI_last _ _
    exact ⟨_, rfl, p, _, _, .str last, rfl, rfl, SqL.of hh, hat, k H2 last (Same.trans s1 s2) hlast⟩
end G

set_option maxHeartbeats 4000000
namespace G
open PySem PySem.Spec PyProof.Rows L2
/-- a caught exception that is kept: its class, its dict -/
def exq (a : Addr) (cls : Value) (d : Option Addr) : HO := .ext fun h => ∃ (oe : Obj) (vs : Array Value), h.get? a = some oe ∧ Zc cls d oe ∧ oe.data = .fields vs
section
variable {X : Cx} {pins : List (Addr × Obj)} {σ : L2.St} {H : Hp} {s : Shared}
theorem pin_track {a : Addr} {oe : Obj} {vs : Array Value} {cls : Value} {d : Option Addr} (I : Inv X ((a, oe) :: pins) σ H s) (h0 : X.s_0.heap.get? a = none) (hp : ∀ p ∈ X.pn ++ pins, p.1 ≠ a) (hz : Zc cls d oe) (hd : oe.data = .fields vs) :
    Inv X pins σ (upd H a (exq a cls d)) s := by
  obtain ⟨ga, na, nL, nF, nc⟩ := I.pin (a, oe) (List.mem_append_right _ List.mem_cons_self)
  have ga : s.heap.get? a = some oe := ga
  have na : H a = none := na
  refine ⟨I.ok, I.os, I.bare, ⟨I.base.keep, I.base.slot, fun b o e n hb => ?_, I.base.there, fun b xs q => ?_, fun b o u q => ?_, fun b ps q => ?_⟩, I.loc, I.cell, ?_, fun x c e => ?_, fun p hq => ?_, fun b u e => ?_, I.len⟩
  · rw [upd_ne (fun z => by rw [z, h0] at e; cases e)]
    exact I.base.free b o e n hb
  · have q := I.base.tups b xs q
    rw [upd_ne (ne_of_none q na)]
    exact q
  · have q := I.base.frzs b o u q
    rw [upd_ne (ne_of_none q na)]
    exact q
  · obtain ⟨m, q⟩ := I.base.tbls b ps q
    exact ⟨m, by rw [upd_ne (ne_of_none q na)]; exact q⟩
  · rw [upd_ne (Ne.symm nL)]
    exact I.free
  · have : c ≠ a := fun z => by
      obtain ⟨v, o, ho, hdc⟩ := I.cell x c e
      rw [z, ga] at ho
      cases ho
      exact nc v hdc
    rw [upd_ne this]
    exact I.freeC x c e
  · obtain ⟨e, n, ne, nf, dd⟩ := I.pin p (by
      rcases List.mem_append.mp hq with z | z
      · exact List.mem_append_left _ z
      · exact List.mem_append_right _ (List.mem_cons_of_mem _ z))
    exact ⟨e, by rw [upd_ne (hp p hq)]; exact n, ne, nf, dd⟩
  · by_cases hb : b = a
    · subst hb
      rw [upd_same] at e
      cases e
      exact ⟨⟨oe, vs, ga, hz, hd⟩, ⟨oe, ga⟩, fun h1 h2 ⟨o, v, q, r⟩ k => ⟨o, v, k o q, r⟩⟩
    · rw [upd_ne hb] at e
      exact (I.hok b u e).stay (fun c v _ q => q) (fun c q => by rw [upd_ne (ne_of_none q na)]; exact q) (fun c xs q => by rw [upd_ne (ne_of_none q na)]; exact q)
end
/-- as wAs, but behind the suite the exception is kept -/
def wAsK (K : PySem.W.Frag) (c : Value) (i : Nat) (ts : Addr → Value → Option Addr → TS) (Wout : WX) (D : Ends) : WX := fun cls d σ H =>
  ∃ b, PySem.W.exmOne K cls c = some b ∧ (b = true → ∀ a, H a = none → ts a cls d { nx := fun σ' H' => D.nx (σ'.set i none) (upd H' a (exq a cls d)), rt := D.rt, bk := fun σ' H' => D.bk (σ'.set i none) H', ct := fun σ' H' => D.ct (σ'.set i none) H' } (σ.set i (some (.ref a))) H) ∧
    (b = false → Wout cls d σ H)
section
variable {X : Cx} {x n : Str} {c : Value} {i : Nat} {body suite : List Stmt} {b₀ : Stmt} {np pos pos' : Pos} {tb : WX → TS} {ts : Addr → Value → Option Addr → TS} {Wout : WX}
theorem ps_try_asK (hs : X.stack = X.env :: X.outer) (hf : X.env.frame = some X.env.locals) (hex : X.ex = []) (hN : X.N.Nodup) (hi : X.N[i]? = some n) (hln : X.env.kindOf n = some .local) (hc : Names X x c) (tk : Takes X Wout)
    (hb : ∀ (W : WX) (pn : List (Addr × Obj)) (xe : Value → Shared → Prop), Takes (X.tr pn xe) W → PassesOwn (model X.prog X.w) X.A X.env xe → PSs (X.tr pn xe) body (tb W))
    (hsu : ∀ (a : Addr) (oe : Obj) (cls : Value) (d : Option Addr) (pn : List (Addr × Obj)), Zc cls d oe → (∃ vs, oe.data = .fields vs) → PSs (X.suite a ((a, oe) :: pn)) (b₀ :: suite) (ts a cls d)) :
    PS X (.Try body [.ExceptHandler (some (.Name x np)) (some n) (b₀ :: suite) pos'] [] [] pos) (fun D σ H => tb (wAsK X.K c i ts Wout D) D σ H) := by
  refine ⟨fun pins s σ H D I h => ?_⟩
  have ok := I.ok
  have hfr : X.A.frames = some (X.env :: X.outer) := by rw [ok.frames, hs]
  have hloc : Loc X.env.scope n := .inl hln
  refine wpAny_Try_except ?_
  refine wpAny_mono ((hb (wAsK X.K c i ts Wout D) (X.pn ++ pins) (fun e s₁ => wpAny (model X.prog X.w) X.A (noteFrame e X.env) (fun _ s₂ => wpAny (model X.prog X.w) X.A (setFlight e none) (fun _ s₃ =>
    wpAny (model X.prog X.w) X.A (handleBy e X.env [.ExceptHandler (some (.Name x np)) (some n) (b₀ :: suite) pos']) (SP X pins D) X.xe s₃) X.xe s₂) X.xe s₁) (fun u s' xx => ?_) PassesOwn.looking).run [] s σ H D (I.toTry _) h) (fun f s1 hsp => ?_) (fun e s1 he => he)
  · -- the catch
    obtain ⟨a, B, sI, pins', σ', H', cls, d, rfl, J', nb, up, sky, na, os, ag, b, hb1, hyes, hno⟩ := xx
    have J : Inv X pins σ' H' sI := J'.ofTry ok
    have sky' : Sky B (X.env :: X.outer) a (Zc cls d) X.env.locals s'.heap := by rw [← hs]; exact sky
    show wpAny _ X.A (noteFrame (.ref a) X.env) _ _ _
    refine Sky.land Zc.steady hfr hf sky' fun h3 fl3 up3 => ?_
    have J3 : Inv X pins σ' H' { s' with heap := h3 } := J.landed nb fl3.1 (up.trans up3) os ag
    obtain ⟨oe3, vs3, he3, hz3, hd3⟩ := fl3.there
    have notFr : ∀ {h : Heap} {o : Obj} {vs : Array Value}, h.FunFrames B (X.env :: X.outer) → h.get? a = some o → o.data = .fields vs → a ∉ frs (X.env :: X.outer) := fun {h o vs} ff e dd hm => by
      obtain ⟨_, o', e', hnf⟩ := ff.mem hm
      rw [e] at e'; cases e'
      exact hnf _ dd
    have nfr := notFr fl3.2.2.1 he3 hd3
    have nL : a ≠ X.env.locals := fun z => nfr (List.mem_filterMap.mpr ⟨X.env, List.mem_cons_self, by rw [hf, z]⟩)
    have nF : a ∉ X.fs := fun hm => by
      obtain ⟨e, he, q⟩ := List.mem_filterMap.mp hm
      exact nfr (List.mem_filterMap.mpr ⟨e, List.mem_cons_of_mem _ he, q⟩)
    have nI : sI.heap.get? a = none := by
      cases e : sI.heap.get? a with
      | none => rfl
      | some o =>
        have z := nb a o e (by
          show a ∉ frs X.stack
          rw [hs]; exact nfr)
        rw [fl3.2.1] at z
        cases z
    have n0 : X.s_0.heap.get? a = none := by
      cases e : X.s_0.heap.get? a with
      | none => rfl
      | some o =>
        obtain ⟨o', z⟩ := J.base.there a o e (by rw [hex]; exact fun z => nomatch z)
        rw [nI] at z
        cases z
    have npin : ∀ p ∈ X.pn ++ pins, p.1 ≠ a := fun p hp z => by
      have := (J.pin p hp).1
      rw [z, nI] at this
      cases this
    have S3 := J3.suite he3 hd3 na nL nF
    refine wpAny_handleBy_cons (codeAny_handlers_test ?_) (by intro q; cases q)
    have LT : PySem.W.Looks (model X.prog X.w) h3 (typeOf (.ref a)) cls := fun A Q E s k q => wpAny_typeOf_ref (k _ _ he3) (by rw [hz3.1]; exact q)
    have LM := PySem.W.exm_one (M := model X.prog X.w) (J3.kIn) LT hb1
    have test : ∀ {Q : Value → Shared → Prop} {E : Value → Shared → Prop}, Q c { s' with heap := h3 } → wpAny (model X.prog X.w) (X.A.mark (some (.ref a))) (eval (.Name x np) X.env) Q E { s' with heap := h3 } := fun {Q E} q => by
      obtain ⟨hg, hdbg, hm | ⟨hm, hv, hnn⟩⟩ := hc
      · exact ld_glob (X := X.suite a ((a, oe3) :: (X.pn ++ pins))) S3 hg hm q hdbg
      · exact ld_blt (X := X.suite a ((a, oe3) :: (X.pn ++ pins))) S3 hg hm hv q hnn hdbg
    refine test (LM.here ?_)
    cases b with
    | true =>
      refine codeAny_handlers_suite_as ?_
      refine HandSPX.lands_againZ fl3 fun h4 fl4 up4 => ?_
      have J4 : Inv X pins σ' H' { s' with heap := h4 } := J.landed nb fl4.1 ((up.trans up3).trans up4) os ag
      obtain ⟨oe4, vs4, he4, hz4, hd4⟩ := fl4.there
      have S4 := J4.suite he4 hd4 na nL nF
      refine store_ok (X := X.suite a ((a, oe4) :: (X.pn ++ pins))) (v := .ref a) S4 hN hi hloc rfl (fun s5 S5 => ?_) (.inr hln)
      refine wpAny_mono ((hsu a oe4 cls d (X.pn ++ pins) hz4 ⟨_, hd4⟩).run [] s5 _ H' _ S5 (hyes rfl a na)) (fun f s6 hsp => ?_) (fun _ _ z => False.elim z)
      have unsuite : ∀ {σ6 : L2.St} {H6 : Hp}, Inv (X.suite a ((a, oe4) :: (X.pn ++ pins))) [] σ6 H6 s6 → Inv X ((a, oe4) :: pins) σ6 H6 s6 := fun {σ6 H6} S6 =>
        (S6.unsuite ok).pins_of fun p hp => by
          rcases List.mem_cons.mp hp with e | e
          · subst e
            exact S6.pin (a, oe4) (List.mem_append_left _ List.mem_cons_self)
          · exact S6.pin p (List.mem_append_left _ (List.mem_cons_of_mem _ (List.mem_append_right _ e)))
      have end_ : ∀ {σ6 : L2.St} {H6 : Hp} {Q : Shared → Prop}, Inv (X.suite a ((a, oe4) :: (X.pn ++ pins))) [] σ6 H6 s6 → (∀ s7, Inv X ((a, oe4) :: pins) (σ6.set i none) H6 s7 → Q s7) →
          wpAny (model X.prog X.w) X.A (do bindName X.env n .none; unbindBehindTheSuite X.env n pos') (fun _ s7 => Q s7) X.xe s6 := fun {σ6 H6 Q} S6 hq => gone_ok (unsuite S6) hN hi hln hq
      have drop : ∀ {σ6 : L2.St} {H6 : Hp} {s7 : Shared}, Inv X ((a, oe4) :: pins) σ6 H6 s7 → Inv X pins σ6 H6 s7 := fun {σ6 H6 s7} I => I.pins_of fun r hr => I.pin r (List.mem_append_right _ (List.mem_cons_of_mem _ hr))
      cases f with
      | next =>
        obtain ⟨σ6, H6, S6, q6⟩ := hsp
        exact end_ S6 fun s7 J7 => ⟨_, _, pin_track J7 n0 npin hz4 hd4, q6⟩
      | brk =>
        obtain ⟨σ6, H6, S6, q6⟩ := hsp
        exact end_ S6 fun s7 J7 => ⟨_, _, drop J7, q6⟩
      | cont =>
        obtain ⟨σ6, H6, S6, q6⟩ := hsp
        exact end_ S6 fun s7 J7 => ⟨_, _, drop J7, q6⟩
      | ret u =>
        obtain ⟨v6, σ6, H6, S6, r6, q6⟩ := hsp
        exact end_ S6 fun s7 J7 => ⟨_, _, _, drop J7, r6, q6⟩
    | false =>
      show wpAny _ X.A (handleBy (.ref a) X.env []) _ _ _
      refine wpAny_handleBy_nil ?_
      obtain ⟨k1, k2, k3, oe, vs, T, oT, ts', he, hz, hd, h1, hr⟩ := id fl3
      unfold PySem.passOn
      refine wpAny_bind (wpAny_field he hd h1 ?_)
      rw [if_neg (show ¬ ((Value.ref T == Value.none) = true) from by simp)]
      have fin : wpAny (model X.prog X.w) X.A (setFlight (.ref a) X.env.frame) (fun _ s4 => wpAny (model X.prog X.w) X.A (throw (.ref a) : Sem Flow) (SP X pins D) X.xe s4) X.xe { s' with heap := h3 } := by
        rw [hf]
        refine HandSPX.setFlight_upZ fl3 fun h4 hh4 up4 => wpAny_throw (tk _ _ ?_)
        exact ⟨a, B, sI, pins, σ', H', cls, d, rfl, J, nb, (up.trans up3).trans up4, .inr (.inr (by rw [hs]; exact hh4)), na, os, ag, hno rfl⟩
      first
        | exact wpAny_bind (wpAny_pure (wpAny_bind fin))
        | exact wpAny_bind fin
  · cases f with
    | next =>
      obtain ⟨σ', H', J', q⟩ := hsp
      exact wpAny_execs_nil ⟨σ', H', J'.ofTry ok, q⟩
    | brk =>
      obtain ⟨σ', H', J', q⟩ := hsp
      exact ⟨σ', H', J'.ofTry ok, q⟩
    | cont =>
      obtain ⟨σ', H', J', q⟩ := hsp
      exact ⟨σ', H', J'.ofTry ok, q⟩
    | ret u =>
      obtain ⟨v, σ', H', J', r, q⟩ := hsp
      exact ⟨v, σ', H', J'.ofTry ok, r, q⟩
end
/-- e.f, e a kept exception of an own class with a dict -/
def tXv (C : Addr) (f : Str) (te : TE) : TE := fun σ H Q => te σ H fun x H1 => ∃ a dd fs v, x = .ref a ∧ H1 a = some (exq a (.ref C) (some dd)) ∧ H1 dd = some (.xd fs) ∧ fs.lookup f = some v ∧ Q v H1
theorem pe_xv {X : Cx} {C : Addr} {e : Expr} {te : TE} {pos : Pos} {n : Str} (T : XfC X.K C) (hno : PySem.W.findIn X.K (.ref C) n = some none) (he : PE X e te) (hb : attributeBase e n X.env (eval e X.env) = eval e X.env := by rfl) :
    PE X (.Attribute e n pos) (tXv C n te) := by
  refine ⟨fun pins s σ H Q I h => ?_⟩
  refine attr_of hb (thn (he.run pins s σ H _ I h) fun u s1 hh => ?_)
  obtain ⟨x, H1, I1, rx, a, dd, fs, v, ex, hq, ea, l, q⟩ := hh
  subst ex
  obtain rfl : u = Value.ref a := rx
  have hA : ObjOk X.prog X.w H1 s1.heap a (.ext fun h => ∃ (oe : Obj) (vs : Array Value), h.get? a = some oe ∧ Zc (.ref C) (some dd) oe ∧ oe.data = .fields vs) := I1.hok a _ hq
  obtain ⟨⟨oe, vs, ha, hz, hd⟩, _, _⟩ := hA
  have hx : ObjOk X.prog X.w H1 s1.heap dd (.xd fs) := I1.hok dd _ ea
  obtain ⟨mA, hns, hr⟩ := hx
  obtain ⟨od, ho, hl⟩ := lookIn_ns hns
  obtain ⟨u, hu, ru⟩ := RelO.some_of (v := v) (o := mA n) (by rw [← l]; exact hr n)
  have J : PySem.W.InstAt s1.heap a oe C (some od) := ⟨ha, hz.1, by unfold PySem.W.notCls; rw [hd] <;> rfl, by rw [hz.2]; exact ho⟩
  exact HandSPX.exc_get I1.kIn J T.ga T.gg T.exC (PySem.W.findObj_own T.hdC hno rfl (by rw [hl, hu])) (handed_of ru) ⟨v, H1, I1.tok _, ru, q⟩
end G

set_option maxHeartbeats 4000000
namespace G
open PySem PySem.Spec PyProof.Rows PySem.W
section
variable {prog : Program} {w : World} {K : Type} [DecidableEq K] {knd : HeapKind prog w K} {A : Around} {E : Value → Shared → Prop} {s : Shared}
theorem samePairsH {nm : String} {a b : Addr} {xa xb : List (K × Addr × Value)} {Q : Bool → Shared → Prop} (ha : (a == sysModules) = false) (hb : (b == sysModules) = false) (da : s.heap.DictOfH knd a xa) (db : s.heap.DictOfH knd b xb)
    (hl : xa.length = xb.length) (hu : knd.room A) (hits : ∀ x ∈ xa, ∃ p, atKey xb x.1 = some p ∧ SeqAt.EqP prog w A s x.2.2 p.2 true) (h : Q true s) : wpAny (model prog w) A (Builtin.Dict.samePairs nm a b) Q E s := by
  obtain ⟨oa, es, ep, hoa, _, hda, hea, hia, hna⟩ := da
  obtain ⟨ob, es', ep', hob, _, hdb, heb, hib, hnb⟩ := db
  have hla : es.size = xa.length := size_of_entries hea
  have hlb : es'.size = xb.length := size_of_entries heb
  unfold Builtin.Dict.samePairs Builtin.Dict.showsAll
  rw [if_neg (show ¬ (a == sysModules) = true by rw [ha]; exact Bool.false_ne_true), if_neg (show ¬ (b == sysModules) = true by rw [hb]; exact Bool.false_ne_true)]
  refine wpAny_bind (wpAny_pure (wpAny_bind (wpAny_pure ?_)))
  refine wpAny_bind (wpAny_dictEntries hoa hda ?_)
  dsimp only
  refine wpAny_bind (wpAny_dictEntries hob hdb ?_)
  have hsz : es.size = es'.size := by omega
  rw [if_neg (by rw [hsz]; simp)]
  refine wpAny_bind (wpAny_dictEpoch hoa hda ?_)
  refine wpAny_bind ?_
  rw [Std.Legacy.Range.forIn_eq_forIn_range']
  simp only [Std.Legacy.Range.size, Nat.sub_zero, Nat.add_sub_cancel, Nat.div_one]
  refine wpAny_forIn_list _
    (fun rest q s' => s' = s ∧ q = (none, ()) ∧ ∃ i, rest = List.range' i (es.size - i) ∧ i ≤ es.size)
    _ ?_ ?_ _ _ ⟨rfl, rfl, 0, by simp, Nat.zero_le _⟩
  · rintro x rest q s' ⟨rfl, rfl, i, hr, hi⟩
    have hlt : i < es.size := by
      rcases Nat.lt_or_ge i es.size with h | h
      · exact h
      · rw [Nat.sub_eq_zero_of_le h] at hr; simp at hr
    obtain ⟨rfl, hrest⟩ : x = i ∧ rest = List.range' (i + 1) (es.size - (i + 1)) := by
      have e : es.size - i = (es.size - (i + 1)) + 1 := by omega
      rw [e, List.range'_succ] at hr
      injection hr with h1 h2
      exact ⟨h1, h2⟩
    refine wpAny_bind (wpAny_dictEntries hoa hda ?_)
    have hlt' : x < xa.length := by omega
    obtain ⟨⟨k, ka, v⟩, hkv⟩ : ∃ y, xa[x]? = some y := ⟨xa[x], List.getElem?_eq_getElem hlt'⟩
    have hmem := List.mem_of_getElem? hkv
    rw [show es[x]? = some (entryOfKey knd (k, ka, v)) by rw [entry_at hea x, hkv]; rfl]
    obtain ⟨p, hp, he⟩ := hits _ hmem
    show wpAny _ _ (holding [Value.ref ka, v] _ >>= _) _ _ _
    refine wpAny_bind (wpAny_holding ?_)
    refine wpAny_bind (wpAny_dictFind_heap hu (hia _ hmem) hob hdb heb hib hnb (fun hno => ?_) fun j p' hj => ?_)
    · exact absurd hp (by rw [atKey_none_of_get hno]; exact fun z => nomatch z)
    · have ep : p' = p := by
        have := atKey_of_get hnb hj
        rw [this] at hp
        exact Option.some.inj hp
      subst ep
      refine wpAny_bind (wpAny_dictEntries hob hdb ?_)
      rw [show es'[j]? = some (entryOfKey knd (k, p')) by rw [entry_at heb j, hj]; rfl]
      refine wpAny_holding (he _ _ ?_)
      show wpAny _ _ (if (!true) = true then _ else _) _ _ _
      rw [if_neg (by decide)]
      refine wpAny_bind (wpAny_dictEpoch hoa hda ?_)
      rw [if_neg (by simp)]
      exact wpAny_pure ⟨rfl, rfl, x + 1, hrest, hlt⟩
  · rintro q s' ⟨rfl, rfl, i, hr, hi⟩
    exact wpAny_pure h
theorem ne_refs {a b : Addr} {Q : Value → Shared → Prop} (ta : s.TypeIs (.ref a) "dict") (tb : s.TypeIs (.ref b) "dict") (hu : A.units < cLine) (h : wpAny (model prog w) A.in1 (Builtin.Dict.samePairs "dict.__ne__" a b) (fun r s' => Q (.bool (!r)) s') (fun _ _ => False) s) :
    wpAny (model prog w) A (compareOp .NotEq (.ref a) (.ref b)) Q E s := by
  refine wpAny_richCompare_same_room (op := .NotEq) ta tb PySem.F.slot_dict_ne (wpAny_call_entry PySem.F.slot_dict_ne ta PySem.F.entry_dict_ne ?_ (PySem.F.args_dict_ne_2 _ _)) hu
  show wpAny _ _ (Builtin.Dict.dictSlotArgs "__ne__" ⟨[.ref a, .ref b], []⟩ >>= _) _ _ s
  refine wpAny_bind ?_
  unfold Builtin.Dict.dictSlotArgs
  refine wpAny_bind (wpAny_notOrdered_dict ta ?_)
  show wpAny _ _ (pure (Value.ref a, Value.ref b)) _ _ s
  refine wpAny_pure ?_
  refine wpAny_bind (wpAny_isInstance (T := "dict") tb PySem.F.sub_dict_dict ?_)
  simp only [Bool.not_true, Bool.false_eq_true, if_false]
  refine wpAny_bind (wpAny_pure (wpAny_bind (wpAny_pure ?_)))
  refine wpAny_bind (wpAny_mono h (fun r s' q => ?_) fun _ _ z => z.elim)
  refine wpAny_pure ⟨_, rfl, fun x => (by cases x), ?_⟩
  cases r <;> exact q
end
end G
namespace G
open PySem L2
section
variable {X : Cx}
/-- a != b, two dicts of the same keys, their values equal -/
def rNeDL (K : PySem.W.Frag) : R2 := fun x y H Q => ∃ a b ks ls, x = .ref a ∧ y = .ref b ∧ H a = some (.dK ks) ∧ H b = some (.dK ls) ∧ ks.length = ls.length ∧ (∀ p ∈ ks, ∃ u, valV ls p.1 = some u ∧ EqV K H 3 p.2 u) ∧ Q (.bl false) H
theorem op_neDLk (hu : X.A.units + 64 < cLine) : OpR X (compareOp .NotEq) (rNeDL X.K) := by
  intro pins s σ H x y v u Q I rx ry h
  obtain ⟨a, b, ks, ls, rfl, rfl, ha, hb, hl, hp, q⟩ := h
  cases (show v = Value.ref a from rx)
  cases (show u = Value.ref b from ry)
  obtain ⟨_, ya, va, ra, da⟩ := (show ObjOk X.prog X.w H s.heap a (.dK ks) from I.hok a _ ha)
  obtain ⟨_, yb, vb, rb, db⟩ := (show ObjOk X.prog X.w H s.heap b (.dK ls) from I.hok b _ hb)
  have e : va.length = vb.length := by rw [← ra.length, ← rb.length]; exact hl
  refine ne_refs da.typeIs db.typeIs (by omega) (PySem.W.samePairsP ya yb da db (r := true) (fun _ => hits_run (eqV_run I 3 X.A.in1 (by show X.A.units + 1 + 3 < cLine; omega)) rb ra hp) ?_)
  rw [e]
  simp only [beq_self_eq_true, Bool.and_true, Bool.not_true]
  exact ⟨.bl false, H, I, rfl, q⟩
def rNeDT : R2 := fun x y H Q => ∃ (a b : Addr) (ks ls : List (List Key × V)), x = .ref a ∧ y = .ref b ∧ H a = some (.dT ks) ∧ H b = some (.dT ls) ∧ ks.length = ls.length ∧ (∀ p ∈ ks, valV ls p.1 = some p.2 ∧ flatB p.2 = true) ∧ Q (.bl false) H
theorem op_neDTk (hu : X.A.units + 64 < cLine) : OpR X (compareOp .NotEq) rNeDT := by
  intro pins s σ H x y v u Q I rx ry h
  obtain ⟨a, b, ks, ls, rfl, rfl, ha, hb, hl, hp, q⟩ := h
  cases (show v = Value.ref a from rx)
  cases (show u = Value.ref b from ry)
  obtain ⟨_, ya, va, ra, da⟩ := dt_of I.hok ha
  obtain ⟨_, yb, vb, rb, db⟩ := dt_of I.hok hb
  have e : va.length = vb.length := by rw [← ra.length, ← rb.length]; exact hl
  refine ne_refs da.typeIs db.typeIs (by omega) (samePairsH ya yb da db e (show X.A.units + 1 < cLine by omega) (fun z hz => ?_) ⟨.bl false, H, I, rfl, q⟩)
  have key : ∀ {l : List (List Key × V)} {m : List (List Key × Addr × Value)}, KT H l m → ∀ z ∈ m, ∃ p ∈ l, p.1 = z.1 ∧ RelV p.2 z.2.2 := by
    intro l m r
    induction r with
    | nil => intro z hz; cases hz
    | @cons p t ps qs hq _ ih =>
      intro z hz
      rcases List.mem_cons.mp hz with e | hz
      · subst e
        exact ⟨p, List.mem_cons_self .., hq.1, hq.2.2⟩
      · obtain ⟨p', a, b⟩ := ih z hz
        exact ⟨p', List.mem_cons_of_mem _ a, b⟩
  obtain ⟨p, hm, ek, rv⟩ := key ra z hz
  obtain ⟨h1, h2⟩ := hp p hm
  have r := rb.val p.1
  rw [h1, ek] at r
  cases hat : atKey vb z.1 with
  | none => rw [hat] at r; exact r.elim
  | some t =>
    rw [hat] at r
    exact ⟨t, rfl, (eqAt_same rv r h2).eqP⟩
theorem op_neDL {k : Nat} (hr : Room k X.A) : OpR X (compareOp .NotEq) (rNeDL X.K) := op_neDLk hr.units
theorem op_neDT {k : Nat} (hr : Room k X.A) : OpR X (compareOp .NotEq) rNeDT := op_neDTk hr.units
/-- lists of texts, equal -/
theorem ls_eqV {K : PySem.W.Frag} {H : Hp} {a b : Addr} {xs : List Str} (ha : LS H a xs) (hb : LS H b xs) : EqV K H 3 (.ref a) (.ref b) := by
  refine .inr (.inr (.inl ⟨a, b, _, _, rfl, rfl, SqL.of ha, SqL.of hb, ?_⟩))
  have : ∀ l : List Str, Paired (EqV K H 2) (l.map V.str) (l.map V.str) := by
    intro l
    induction l with
    | nil => exact .nil
    | cons a t ih => exact .cons (.inl ⟨rfl, rfl⟩) ih
  exact this xs
theorem dl_neDL {K : PySem.W.Frag} {H : Hp} {d e : Addr} {ms : List Str} {ad ae : Str → Addr} {L L' : Str → List Str} {Q : VK} (h1 : DL H d ms ad L) (h2 : DL H e ms ae L') (hl : ∀ x ∈ ms, L x = L' x) (q : Q (.bl false) H) : rNeDL K (.ref d) (.ref e) H Q := by
  refine ⟨d, e, _, _, rfl, rfl, h1.dk, h2.dk, by unfold kvM; simp, fun p hp => ?_, q⟩
  obtain ⟨x, hx, rfl⟩ := List.mem_map.mp hp
  refine ⟨.ref (ae x), by rw [valV_kvM]; rw [if_pos hx], ?_⟩
  exact ls_eqV (h1.l x hx) (by rw [hl x hx]; exact h2.l x hx)
end
end G

set_option maxHeartbeats 4000000
/-! sorted(zip(xs, ys)) -/
namespace GZ
open PySem PySem.W PySem.Calls PyProof.Rows PyProof.V PySem.Spec
theorem nolen_zip : typeLookup (.type "zip") "__len__" = pure none := by rw [typeLookup_type, builtinLookup_eq_fast]; kernel_rfl
theorem nohint_zip : typeLookup (.type "zip") "__length_hint__" = pure none := by rw [typeLookup_type, builtinLookup_eq_fast]; kernel_rfl
section
variable {prog : Program} {w : World} {A : Around} {E : Value → Shared → Prop} {s : Shared} {z TI TO i1 i2 l1 l2 S : Addr} {xs ys : Array Value}
/-- the zip behind i items, the tuple given out last still there -/
def ZSt (z TI TO i1 i2 l1 l2 S : Addr) (xs ys : Array Value) (i : Nat) (h : Heap) : Prop :=
  IsPair h TI (.ref i1) (.ref i2) ∧ h.IsListIter i1 l1 i ∧ h.IsListIter i2 l2 i ∧ h.IsList l1 xs ∧ h.IsList l2 ys ∧
    ((IsZip h z TI TO .none ∧ ∃ a b, IsPair h TO a b) ∨ ∃ T f oT, IsZipHeld h z TI TO T f ∧ h.get? T = some oT ∧ T ≠ z ∧ T ≠ i1 ∧ T ≠ i2 ∧ T ≠ S)
structure Below (z TI TO i1 i2 l1 l2 S : Addr) : Prop where
  z : z < S
  TI : TI < S
  TO : TO < S
  i1 : i1 < S
  i2 : i2 < S
  l1 : l1 < S
  l2 : l2 < S
theorem ZSt.keep {i : Nat} {h h' : Heap} (st : ZSt z TI TO i1 i2 l1 l2 S xs ys i h) (B : Below z TI TO i1 i2 l1 l2 S) (hk : ∀ b o, b ≠ S → h.get? b = some o → h'.get? b = some o) : ZSt z TI TO i1 i2 l1 l2 S xs ys i h' := by
  obtain ⟨hTI, h1, h2, hl1, hl2, hz⟩ := st
  refine ⟨hk _ _ (Nat.ne_of_lt B.TI) hTI, h1.at fun o e => hk _ o (Nat.ne_of_lt B.i1) e, h2.at fun o e => hk _ o (Nat.ne_of_lt B.i2) e, hl1.at fun o e => hk _ o (Nat.ne_of_lt B.l1) e, hl2.at fun o e => hk _ o (Nat.ne_of_lt B.l2) e, ?_⟩
  rcases hz with ⟨hz, a, b, hTO⟩ | ⟨T, f, oT, hz, hT, r1, r2, r3, r4⟩
  · exact .inl ⟨hk _ _ (Nat.ne_of_lt B.z) hz, a, b, hk _ _ (Nat.ne_of_lt B.TO) hTO⟩
  · exact .inr ⟨T, f, oT, hk _ _ (Nat.ne_of_lt B.z) hz, hk _ _ r4 hT, r1, r2, r3, r4⟩
theorem nxtZ {i : Nat} {x y : Value} {Q : Option Value → Shared → Prop} (D : ZipApart z TI TO i1 i2 l1 l2) (st : ZSt z TI TO i1 i2 l1 l2 S xs ys i s.heap) (hS : S < s.heap.objs.size) (ex : xs[i]? = some x) (ey : ys[i]? = some y)
    (hQ : ∀ h', ZSt z TI TO i1 i2 l1 l2 S xs ys (i + 1) h' → IsPair h' s.heap.objs.size x y → h'.objs.size = s.heap.objs.size + 1 →
      (∀ b o, b ≠ z → b ≠ TO → b ≠ i1 → b ≠ i2 → s.heap.get? b = some o → h'.get? b = some o) → Q (some (.ref s.heap.objs.size)) { s with heap := h' }) :
    wpAny (model prog w) A (pyNext (.ref z)) Q E s := by
  obtain ⟨hTI, h1, h2, hl1, hl2, hz⟩ := st
  have lt : ∀ {c o}, s.heap.get? c = some o → s.heap.objs.size ≠ c := fun e => Nat.ne_of_gt (Heap.lt_size e)
  have n1 : s.heap.objs.size ≠ i1 := let ⟨_, e, _⟩ := h1; lt e
  have n2 : s.heap.objs.size ≠ i2 := let ⟨_, e, _⟩ := h2; lt e
  rcases hz with ⟨hz, a, b, hTO⟩ | ⟨T, f, oT, hz, hT, r1, r2, r3, r4⟩
  · refine wpAny_pyNext_zip_item D hz hTI hTO h1 h2 hl1 hl2 ex ey fun h' a1 a2 a3 a4 a5 a6 hk => ?_
    exact hQ h' ⟨hk _ _ D.TIz D.TITO D.TIi1 D.TIi2 hTI, a3, a4, hl1.at fun o e => hk _ o D.l1z D.l1TO D.l1i1 D.l1i2 e, hl2.at fun o e => hk _ o D.l2z D.l2TO D.l2i1 D.l2i2 e,
        .inr ⟨s.heap.objs.size, false, _, a1, a5, lt hz, n1, n2, Nat.ne_of_gt hS⟩⟩ a5 a6 hk
  · refine wpAny_pyNext_zip_item_held D hz hT hTI h1 h2 hl1 hl2 ex ey fun h' a1 a3 a4 a5 a6 hk => ?_
    exact hQ h' ⟨hk _ _ D.TIz D.TIi1 D.TIi2 hTI, a3, a4, hl1.at fun o e => hk _ o D.l1z D.l1i1 D.l1i2 e, hl2.at fun o e => hk _ o D.l2z D.l2i1 D.l2i2 e,
        .inr ⟨T, true, oT, a1, hk _ _ r1 r2 r3 hT, r1, r2, r3, r4⟩⟩ a5 a6 fun b o b1 _ b3 b4 e => hk b o b1 b3 b4 e
theorem finZ {i : Nat} {Q : Option Value → Shared → Prop} (hh : A.handled = none) (D : ZipApart z TI TO i1 i2 l1 l2) (st : ZSt z TI TO i1 i2 l1 l2 S xs ys i s.heap) (hend : xs[i]? = none ∨ ys[i]? = none)
    (hQ : ∀ h', (∀ b o, b ≠ z → b ≠ TO → b ≠ i1 → b ≠ i2 → s.heap.get? b = some o → h'.get? b = some o) → Q none { s with heap := h' }) :
    wpAny (model prog w) A (pyNext (.ref z)) Q E s := by
  obtain ⟨hTI, h1, h2, hl1, hl2, hz⟩ := st
  rcases hz with ⟨hz, a, b, hTO⟩ | ⟨T, f, oT, hz, hT, r1, r2, r3, r4⟩
  · exact wpAny_pyNext_zip_end hh D hz hTI hTO h1 h2 hl1 hl2 hend fun h' hk => hQ h' hk
  · exact wpAny_pyNext_zip_end_held hh D hz hT hTI h1 h2 hl1 hl2 hend fun h' hk => hQ h' fun b o b1 _ b3 b4 e => hk b o b1 b3 b4 e
structure MadeZ (xs ys : Array Value) (lo : Addr) (h : Heap) (as : List Addr) : Prop where
  rise : as.Pairwise (· < ·)
  above : ∀ a ∈ as, lo < a
  pairs : ∀ (j : Nat) (a : Addr), as[j]? = some a → ∃ x y, xs[j]? = some x ∧ ys[j]? = some y ∧ IsPair h a x y
theorem MadeZ.there {lo : Addr} {h : Heap} {as : List Addr} (g : MadeZ xs ys lo h as) {a : Addr} (ha : a ∈ as) : a < h.objs.size := by
  obtain ⟨j, hj⟩ := List.mem_iff_getElem?.mp ha
  obtain ⟨_, _, _, _, e⟩ := g.pairs j a hj
  exact Heap.lt_size e
theorem loopZ {R : Result → Shared → Prop} (hh : A.handled = none) (D : ZipApart z TI TO i1 i2 l1 l2) (B : Below z TI TO i1 i2 l1 l2 S) {n : Nat} (hx : xs.size = n + 1) (hy : ys.size = n) (hn : n ≤ sizeLine) (res : Value) {h₁ : Heap}
    (hR : ∀ h' tk acc c as, (∀ b o, b ≠ S → b ≠ z → b ≠ TO → b ≠ i1 → b ≠ i2 → h₁.get? b = some o → h'.get? b = some o) → h'.get? S = some { cls := .type "list", dict := none, data := .seq acc c, slots := #[] } → as.length = n → MadeZ xs ys S h' as →
      acc.toList = as.map Value.ref → R (.ok (.ret res)) { s with heap := h', toks := tk }) :
    ∀ (k i : Nat) (h : Heap) (tk c : Nat) (acc : Array Value) (as : List Addr), n - i = k → i ≤ n → ZSt z TI TO i1 i2 l1 l2 S xs ys i h → (∀ b o, b ≠ S → b ≠ z → b ≠ TO → b ≠ i1 → b ≠ i2 → h₁.get? b = some o → h.get? b = some o) →
      h.get? S = some { cls := .type "list", dict := none, data := .seq acc c, slots := #[] } → acc.toList = as.map Value.ref → as.length = i → MadeZ xs ys S h as →
      codeAny (model prog w) A (.builtin "list.extend.loop" ⟨[.ref S, .ref z, res], []⟩) R { s with heap := h, toks := tk } := by
  have big : ∀ {a : Addr}, S < a → a ≠ z ∧ a ≠ TO ∧ a ≠ i1 ∧ a ≠ i2 := fun {a} ha => ⟨Nat.ne_of_gt (Nat.lt_trans B.z ha), Nat.ne_of_gt (Nat.lt_trans B.TO ha), Nat.ne_of_gt (Nat.lt_trans B.i1 ha), Nat.ne_of_gt (Nat.lt_trans B.i2 ha)⟩
  have sS : S ≠ z ∧ S ≠ TO ∧ S ≠ i1 ∧ S ≠ i2 := ⟨Nat.ne_of_gt B.z, Nat.ne_of_gt B.TO, Nat.ne_of_gt B.i1, Nat.ne_of_gt B.i2⟩
  intro k
  induction k with
  | zero =>
    intro i h tk c acc as hk hi hst hkeep hS hacc hal hG
    refine codeAny_builtin PySem.F.entry_extend_loop ?_
    rw [Around.under_plainId PySem.F.plain_extend_loop _]
    show wpAny _ A.in1 (pyNext (.ref z) >>= _) _ _ _
    refine wpAny_bind (finZ (s := { s with heap := h, toks := tk }) (A := A.in1) hh D hst (.inr (Array.getElem?_eq_none (by omega))) fun h' he => ?_)
    refine wpAny_pure (hR h' tk acc c as (fun b o b0 b1 b2 b3 b4 e => he b o b1 b2 b3 b4 (hkeep b o b0 b1 b2 b3 b4 e)) (he S _ sS.1 sS.2.1 sS.2.2.1 sS.2.2.2 hS) (by omega) ⟨hG.rise, hG.above, fun j a hj => ?_⟩ hacc)
    obtain ⟨x, y, e1, e2, e3⟩ := hG.pairs j a hj
    obtain ⟨q1, q2, q3, q4⟩ := big (hG.above a (List.mem_of_getElem? hj))
    exact ⟨x, y, e1, e2, he a _ q1 q2 q3 q4 e3⟩
  | succ k ih =>
    intro i h tk c acc as hk hi hst hkeep hS hacc hal hG
    have hlt : i < n := by omega
    have hsz : acc.size = i := by rw [← Array.length_toList, hacc, List.length_map, hal]
    refine codeAny_builtin PySem.F.entry_extend_loop ?_
    rw [Around.under_plainId PySem.F.plain_extend_loop _]
    show wpAny _ A.in1 (pyNext (.ref z) >>= _) _ _ _
    have ex := Array.getElem?_eq_getElem (xs := xs) (i := i) (by omega)
    have ey := Array.getElem?_eq_getElem (xs := ys) (i := i) (by omega)
    have hSl : S < h.objs.size := Heap.lt_size hS
    refine wpAny_bind (nxtZ (s := { s with heap := h, toks := tk }) (S := S) D hst hSl ex ey fun h' hst' ht hz hkp => ?_)
    dsimp only at ht hz hkp ⊢
    have hS' := hkp S _ sS.1 sS.2.1 sS.2.2.1 sS.2.2.2 hS
    have up : ∀ b o, b ≠ S → h'.get? b = some o → (h'.update S (Obj.mapSeq (·.push (Value.ref h.objs.size)))).get? b = some o := fun b o hb e => (Heap.get?_update_other _ _ (Ne.symm hb)).trans e
    show wpAny _ A.in1 (updateSeq S (·.push (Value.ref h.objs.size)) >>= _) _ _ _
    refine wpAny_bind ?_
    refine wpAny_updateSeq hS' rfl (wpAny_pure ⟨plainId_quiet PySem.F.plain_extend_loop _, ih (i + 1) _ tk _ (acc.push (Value.ref h.objs.size)) (as ++ [h.objs.size]) (by omega) hlt (hst'.keep B up)
      (fun b o b0 b1 b2 b3 b4 e => up b o b0 (hkp b o b1 b2 b3 b4 (hkeep b o b0 b1 b2 b3 b4 e))) (Heap.get?_update_self _ hS' rfl) (by rw [Array.toList_push, hacc, List.map_append]; rfl) (by rw [List.length_append, hal]; rfl) ⟨?_, ?_, ?_⟩⟩) (by rw [hsz]; omega) (by show (acc.push (Value.ref h.objs.size)).size ≤ sizeLine + 1; rw [Array.size_push, hsz]; omega)
    · refine List.pairwise_append.mpr ⟨hG.rise, List.pairwise_singleton _ _, fun a ha b hb => ?_⟩
      rw [List.mem_singleton.mp hb]
      exact hG.there ha
    · intro a ha
      rcases List.mem_append.mp ha with ha | ha
      · exact hG.above a ha
      · rw [List.mem_singleton.mp ha]; exact hSl
    · intro j b hj
      rcases Nat.lt_trichotomy j as.length with h1 | h1 | h1
      · rw [List.getElem?_append_left h1] at hj
        obtain ⟨x', y', e1, e2, e3⟩ := hG.pairs j b hj
        have hb := hG.above b (List.mem_of_getElem? hj)
        obtain ⟨q1, q2, q3, q4⟩ := big hb
        exact ⟨x', y', e1, e2, up b _ (Nat.ne_of_gt hb) (hkp b _ q1 q2 q3 q4 e3)⟩
      · subst h1
        have hb : h.objs.size = b := by simpa using hj
        subst hb
        refine ⟨_, _, by rw [hal]; exact ex, by rw [hal]; exact ey, up _ _ (Nat.ne_of_gt hSl) ht⟩
      · have hnone : (as ++ [h.objs.size])[j]? = none := List.getElem?_eq_none (by rw [List.length_append, List.length_singleton]; omega)
        rw [hnone] at hj; cases hj
theorem extZ {R : Result → Shared → Prop} (hh : A.handled = none) (D : ZipApart z TI TO i1 i2 l1 l2) (B : Below z TI TO i1 i2 l1 l2 S) {n : Nat} (hx : xs.size = n + 1) (hy : ys.size = n) (hn : n ≤ sizeLine) (res : Value) (hS : s.heap.get? S = some { cls := .type "list", data := .seq #[] 0 })
    (hst : ZSt z TI TO i1 i2 l1 l2 S xs ys 0 s.heap) (hT : s.TypeIs (.ref z) "zip") (hself : ∀ (s' : Shared) (Q : Value → Shared → Prop) (E : Value → Shared → Prop), ZSt z TI TO i1 i2 l1 l2 S xs ys 0 s'.heap → Q (.ref z) s' → wpAny (model prog w) A.in1 (pyIter (.ref z)) Q E s')
    (hR : ∀ h' tk acc c as, (∀ b o, b ≠ S → b ≠ z → b ≠ TO → b ≠ i1 → b ≠ i2 → s.heap.get? b = some o → h'.get? b = some o) → h'.get? S = some { cls := .type "list", dict := none, data := .seq acc c, slots := #[] } → as.length = n → MadeZ xs ys S h' as →
      acc.toList = as.map Value.ref → R (.ok (.ret res)) { s with heap := h', toks := tk }) :
    wpAny (model prog w) A.in1 (Builtin.List.listExtendWith (.ref S) (.ref z) res)
      (fun fin s' => match fin with | .done f => R (.ok f) s' | .again c' => c'.quiet = true ∧ codeAny (model prog w) A c' R s') (fun e s' => R (.error e) s') s := by
  unfold Builtin.List.listExtendWith
  refine wpAny_bind (wpAny_typeOf hT ?_)
  have h1 : Builtin.List.listSameRef (.ref S) (.ref z) = false := by simp [Builtin.List.listSameRef, Nat.ne_of_gt B.z]
  have h2 : (Value.type "zip" == Value.type "list") = false := by decide
  have h3 : (Value.type "zip" == Value.type "tuple") = false := by decide
  simp only [h1, h2, h3, Bool.or_false, Bool.false_eq_true, if_false]
  refine wpAny_bind (hself _ _ _ hst ?_)
  refine wpAny_bind (wpAny_holding ?_)
  unfold Builtin.List.listLengthHint
  refine wpAny_bind (wpAny_specialOf hT nolen_zip ?_)
  show wpAny _ A.in1 (specialOf (Value.ref z) (Str.ofString "__length_hint__") >>= _) _ _ _
  refine wpAny_bind (wpAny_specialOf hT nohint_zip ?_)
  refine wpAny_pure ?_
  show wpAny _ A.in1 (rule "list.extend.makes-room" >>= fun _ => Builtin.List.listTouch (.ref S) >>= fun _ => again (.builtin "list.extend.loop" ⟨[.ref S, .ref z, res], []⟩)) _ _ _
  refine wpAny_bind (wpAny_rule ?_)
  refine wpAny_bind ?_
  show wpAny _ A.in1 (updateSeq S (·.push .none) >>= fun _ => updateSeq S (·.pop)) _ _ _
  refine wpAny_bind (wpAny_updateSeq hS rfl ?_)
  have hS₂ := Heap.get?_update_self (Obj.mapSeq (·.push Value.none)) hS rfl
  refine wpAny_updateSeq hS₂ rfl ?_
  have hS₃ := Heap.get?_update_self (Obj.mapSeq (·.pop)) hS₂ rfl
  have oth : ∀ b o, b ≠ S → s.heap.get? b = some o → ((s.heap.update S (Obj.mapSeq (·.push Value.none))).update S (Obj.mapSeq (·.pop))).get? b = some o :=
    fun b o hb e => (Heap.get?_update_other _ _ (Ne.symm hb)).trans ((Heap.get?_update_other _ _ (Ne.symm hb)).trans e)
  refine wpAny_pure ⟨plainId_quiet PySem.F.plain_extend_loop _, loopZ (s := s) (h₁ := s.heap) hh D B hx hy hn res hR n 0 _ s.toks _ #[] [] (Nat.sub_zero _) (Nat.zero_le _) (hst.keep B oth) (fun b o b0 _ _ _ _ e => oth b o b0 e) hS₃ rfl rfl ⟨List.Pairwise.nil, (fun _ ha => nomatch ha), (fun j a hj => by simp at hj)⟩⟩
theorem collectZ {R : List Value → Shared → Prop} (hh : A.handled = none) (D : ZipApart z TI TO i1 i2 l1 l2) (B : Below z TI TO i1 i2 l1 l2 s.heap.objs.size) {n : Nat} (hx : xs.size = n + 1) (hy : ys.size = n) (hn : n ≤ sizeLine)
    (hz : IsZip s.heap z TI TO .none) (hTI : IsPair s.heap TI (.ref i1) (.ref i2)) (hTO : IsPair s.heap TO .none .none) (h1 : s.heap.IsListIter i1 l1 0) (h2 : s.heap.IsListIter i2 l2 0) (hl1 : s.heap.IsList l1 xs) (hl2 : s.heap.IsList l2 ys)
    (h : ∀ (h' : Heap) (tk : Nat) (as : List Addr), (∀ b o, b ≠ z → b ≠ TO → b ≠ i1 → b ≠ i2 → s.heap.get? b = some o → h'.get? b = some o) → s.heap.objs.size < h'.objs.size → as.length = n → MadeZ xs ys s.heap.objs.size h' as → R (as.map Value.ref) { s with heap := h', toks := tk }) :
    wpAny (model prog w) A (collect (.ref z)) R E s := by
  unfold collect
  refine wpAny_bind (wpAny_runValue (codeAny_builtin entry_proto_collect' ?_))
  rw [Around.under_plainId PySem.F.plain_proto_collect _]
  show wpAny _ A.in1 (newList [] >>= fun l => again (.builtin "list.__iadd__" ⟨[l, .ref z], []⟩)) _ _ s
  refine wpAny_bind (wpAny_newObj_type ?_)
  refine wpAny_pure ⟨plainId_quiet PySem.F.plain_list_iadd _, codeAny_builtin entry_list_iadd' ?_⟩
  rw [Around.under_plainId PySem.F.plain_list_iadd _]
  have hS₁ : (s.heap.push { cls := .type "list", data := .seq ([] : List Value).toArray }).get? s.heap.objs.size = some { cls := .type "list", data := .seq #[] } := Heap.get?_push_size _ rfl
  show wpAny _ A.in1 (Builtin.List.listExtendWith (.ref s.heap.objs.size) (.ref z) (.ref s.heap.objs.size)) _ _ _
  have up : ∀ b o, s.heap.get? b = some o → (s.heap.push { cls := .type "list", data := .seq ([] : List Value).toArray }).get? b = some o := fun b o e => Heap.get?_push_of_some _ e
  have key := extZ (prog := prog) (w := w) (A := A) (s := { s with heap := s.heap.push { cls := .type "list", data := .seq ([] : List Value).toArray } })
    (R := fun (q : Result) (s' : Shared) => ∃ (h' : Heap) (tk : Nat) (acc' : Array Value) (c' : Nat) (as : List Addr), q = .ok (.ret (.ref s.heap.objs.size)) ∧ s' = { s with heap := h', toks := tk } ∧
      (∀ b o, b ≠ z → b ≠ TO → b ≠ i1 → b ≠ i2 → s.heap.get? b = some o → h'.get? b = some o) ∧ h'.get? s.heap.objs.size = some { cls := .type "list", dict := none, data := .seq acc' c', slots := #[] } ∧ as.length = n ∧ MadeZ xs ys s.heap.objs.size h' as ∧ acc'.toList = as.map Value.ref)
    hh D B hx hy hn (.ref s.heap.objs.size) hS₁ ⟨up _ _ hTI, h1.at fun o e => up _ o e, h2.at fun o e => up _ o e, hl1.at fun o e => up _ o e, hl2.at fun o e => up _ o e, .inl ⟨up _ _ hz, _, _, up _ _ hTO⟩⟩ ⟨_, up _ _ hz, rfl⟩
    (fun s' Q E st q => by
      obtain ⟨_, _, _, _, _, hz⟩ := st
      rcases hz with ⟨hz, _⟩ | ⟨T, f, oT, hz, _⟩
      · exact wpAny_pyIter_zip hz q
      · have hT : s'.TypeIs (.ref z) "zip" := ⟨_, hz, rfl⟩
        refine wpAny_pyIter_slot hT PySem.F.slot_zip_iter (wpAny_call_entry PySem.F.slot_zip_iter hT PySem.F.entry_zip_iter ?_ (PySem.F.args_zip_iter_1 _))
        show wpAny _ _ (ret (.ref z)) _ _ s'
        exact wpAny_pure ⟨_, rfl, "zip", _, hT, PySem.F.slot_zip_next.lookup, q⟩)
    (fun h' tk acc' c' as hk hS' hl hG hacc => ⟨h', tk, acc', c', as, rfl, rfl, fun b o b1 b2 b3 b4 e => hk b o (Nat.ne_of_lt (Heap.lt_size e)) b1 b2 b3 b4 (Heap.get?_push_of_some _ e), hS', hl, hG, hacc⟩)
  refine wpAny_mono key (fun fin s' x => ?_) fun e s' x => ?_
  · cases fin with
    | done f =>
      obtain ⟨h', tk, acc', c', as, e, rfl, hk, hS', hl, hG, hacc⟩ := x
      cases e
      show wpAny _ A (load s.heap.objs.size >>= _) _ _ _
      refine wpAny_bind (wpAny_load hS' ?_)
      refine wpAny_pure ?_
      show R acc'.toList _
      rw [hacc]
      exact h h' tk as hk (Heap.lt_size hS') hl hG
    | again c₁ =>
      refine ⟨x.1, codeAny_mono x.2 fun q s₂ y => ?_⟩
      obtain ⟨h', tk, acc', c', as, rfl, rfl, hk, hS', hl, hG, hacc⟩ := y
      show wpAny _ A (load s.heap.objs.size >>= _) _ _ _
      refine wpAny_bind (wpAny_load hS' ?_)
      refine wpAny_pure ?_
      show R acc'.toList _
      rw [hacc]
      exact h h' tk as hk (Heap.lt_size hS') hl hG
  · obtain ⟨_, _, _, _, _, e', _⟩ := x
    cases e'
/-- sorted(zip(..)) up to the sort of the pairs -/
theorem sortedZ {Q : Value → Shared → Prop} (hh : A.handled = none) (D : ZipApart z TI TO i1 i2 l1 l2) (B : Below z TI TO i1 i2 l1 l2 s.heap.objs.size) {n : Nat} (hx : xs.size = n + 1) (hy : ys.size = n) (hn : n ≤ sizeLine)
    (hz : IsZip s.heap z TI TO .none) (hTI : IsPair s.heap TI (.ref i1) (.ref i2)) (hTO : IsPair s.heap TO .none .none) (h1 : s.heap.IsListIter i1 l1 0) (h2 : s.heap.IsListIter i2 l2 0) (hl1 : s.heap.IsList l1 xs) (hl2 : s.heap.IsList l2 ys)
    (h : ∀ (h' : Heap) (tk : Nat) (as : List Addr), (∀ b o, b ≠ z → b ≠ TO → b ≠ i1 → b ≠ i2 → s.heap.get? b = some o → h'.get? b = some o) → s.heap.objs.size < h'.objs.size → as.length = n → MadeZ xs ys s.heap.objs.size h' as →
      wpAny (model prog w) A.in1 (call (.builtin "list.sort") [.ref h'.objs.size]) (fun _ s' => Q (.ref h'.objs.size) s') E { s with heap := h'.push { cls := .type "list", data := .seq (as.map Value.ref).toArray }, toks := tk }) :
    wpAny (model prog w) A (call (.builtin "sorted") [.ref z]) Q E s := by
  refine call_function_entry kind_sorted plain_sorted entry_sorted (args_sorted1 _) ?_
  unfold Builtin.«sorted»
  refine wpAny_bind (m := checkCount "sorted" 1 1 _) (wpAny_pure ?_)
  refine wpAny_bind (collectZ (A := A.in1) hh D B hx hy hn hz hTI hTO h1 h2 hl1 hl2 fun h' tk as hk hlt hl hG => ?_)
  refine wpAny_bind (wpAny_newList ?_ (by rw [List.length_map, hl]; exact hn))
  have hg := h h' tk as hk hlt hl hG
  refine wpAny_bind (wpAny_holding (wpAny_mono hg (fun _ s' x => ?_) fun _ _ e => e))
  exact wpAny_pure ⟨_, rfl, x⟩
end
end GZ

set_option maxHeartbeats 4000000
namespace GZ
open PySem PySem.W PySem.Calls PyProof.Rows PyProof.V PySem.Spec L2 L2.DX
theorem eachIs_of {α β : Type} {R : α → β → Prop} : ∀ {as : List α} {bs : List β}, as.length = bs.length → (∀ (j : Nat) (a : α) (b : β), as[j]? = some a → bs[j]? = some b → R a b) → EachIs R as bs
  | [], [], _, _ => .nil
  | a :: as, b :: bs, hl, h => .cons (h 0 a b rfl rfl) (eachIs_of (by simpa using hl) fun j x y e1 e2 => h (j + 1) x y (by simpa using e1) (by simpa using e2))
  | [], _ :: _, hl, _ => by simp at hl
  | _ :: _, [], hl, _ => by simp at hl
theorem refs_of {P : Addr → Str × Str → Prop} : ∀ {out : List Value} {bs : List (Str × Str)}, EachIs (fun v b => ∃ a, v = Value.ref a ∧ P a b) out bs → ∃ ts : List Addr, out = ts.map Value.ref ∧ Paired P ts bs
  | _, _, .nil => ⟨[], rfl, .nil⟩
  | _, _, .cons ⟨a, e, h⟩ t => by
    obtain ⟨ts, e2, p⟩ := refs_of t
    exact ⟨a :: ts, by rw [e, e2]; rfl, .cons h p⟩
theorem below_of {N M a b : Nat} (h : M = N + 5) (ha : a < N) (hb : b < N) : Below (N + 4) (N + 2) (N + 3) N (N + 1) a b M :=
  ⟨show (N + 4 : Nat) < M by omega, show (N + 2 : Nat) < M by omega, show (N + 3 : Nat) < M by omega, show N < M by omega, show (N + 1 : Nat) < M by omega, show a < M by omega, show b < M by omega⟩
theorem ne_lt {c N : Nat} (k : Nat) (h : c < N) : (c : Addr) ≠ (N + k : Nat) := fun z => by
  have z' : c = N + k := z
  omega
theorem le5 {N M a : Nat} (h : M = N + 5) (h2 : M < a) : N ≤ a := by omega
def encP (b : Str × Str) : PyData := .tuple [.str b.1, .str b.2]
theorem al_encP (bs : List (Str × Str)) : AllAlike (bs.map encP) := AllAlike.of fun b b' => by simp [encP, alike, alikeAll]
theorem depth_encP (b : Str × Str) : (encP b).depth ≤ 2 := by simp [encP, PyData.depth, PyData.depthAll]
theorem zip_at {α β : Type} {l : List α} {m : List β} {j : Nat} {x : α × β} (h : (l.zip m)[j]? = some x) : l[j]? = some x.1 ∧ m[j]? = some x.2 := by
  obtain ⟨a, b⟩ := x
  exact List.getElem?_zip_eq_some.mp h
theorem vals_str {xs : List Str} {its : List Value} (r : Vals (xs.map V.str) its) {j : Nat} {x : Str} (h : xs[j]? = some x) : ∃ t, its[j]? = some (.str x t) := by
  induction xs generalizing its j with
  | nil => simp at h
  | cons y ys ih =>
    cases r with
    | cons r1 r2 =>
      cases j with
      | zero =>
        obtain ⟨t, rfl⟩ := r1
        exact ⟨t, by rw [show y = x from by simpa using h]; rfl⟩
      | succ j => exact ih r2 (by simpa using h)
/-- sorted(zip(a, b)): a new list of new pairs -/
def tSrtZ (K : PySem.W.Frag) (ta : TA) : TE := fun σ H Q => ta σ H fun vs H1 => ∃ (a b : Addr) (xs ys : List Str), vs = [.ref a, .ref b] ∧ SqL K H1 a (xs.map V.str) ∧ SqL K H1 b (ys.map V.str) ∧ xs.length = ys.length + 1 ∧
  ∀ (H2 : Hp) (p : Addr) (ts : List Addr) (zs : List (Str × Str)), (∀ c o, H1 c = some o → H2 c = some o) → H1 p = none → H2 p = some (.lst (ts.map V.ref)) → Paired (fun t y => H2 t = some (.tup [.str y.1, .str y.2])) ts zs → zs.Perm (xs.zip ys) → Q (.ref p) H2
theorem g_sortedZ {X : Cx} {ta : TA} (T : G.Txt X.K X.mg) {e e2 : Expr} {p p2 pos pos2 : Pos} {k : Nat} (hr : Room k X.A) (ha : PA X [e, e2] ta) (hc : X.calm = true := by rfl) (hg : Gl X "sorted" := by rfl) (hgz : Gl X "zip" := by rfl)
    (na : starEach [.Call (.Name "zip" p2) [e, e2] [] pos2] X.env = (false, eval (.Call (.Name "zip" p2) [e, e2] [] pos2) X.env) :: starEach [] X.env := by rfl)
    (hs : starEach [e, e2] X.env = (false, eval e X.env) :: starEach [e2] X.env := by rfl) (hpl : (backTo pos2 (starEach [e2] X.env)).any (·.1) = false := by rfl) (hpl0 : (backTo pos (starEach [] X.env)).any (·.1) = false := by rfl) :
    PE X (.Call (.Name "sorted" p) [.Call (.Name "zip" p2) [e, e2] [] pos2] [] pos) (tSrtZ X.K ta) := by
  have hu := hr.units
  refine ⟨fun pins s σ H Q I h => ?_⟩
  refine wpAny_Call_Name_kw (ld_blt I hg T.sorted G.boot_sorted ?_ (by decide) (by decide))
  refine PyProof.Rows.callWith_builtin1 (args_cons ?_ na) na hpl0
  refine wpAny_Call_Name_kw (ld_blt (I.tok _) hgz T.zip PyProof.Rows.boot_zip ?_ (by decide) (by decide))
  refine PyProof.Rows.callWith_type1 (thn (ha.run pos2 pins _ σ H _ ((I.tok _).tok _) h) fun us s1 ⟨vs, H1, I1, r1, a, b, xs, ys, ex, hqx, hqy, hlen, q⟩ => ?_) hs hpl
  subst ex
  cases r1 with
  | cons r rr => cases rr with
    | cons r' rr =>
      cases rr
      cases r
      cases r'
      obtain ⟨its, rv, p1, zx⟩ := I1.list hqx
      obtain ⟨its2, rv2, p2', zy⟩ := I1.list hqy
      have la : a < s1.heap.objs.size := p1.lt
      have lb : b < s1.heap.objs.size := p2'.lt
      refine call_zip_2 p1.isList p2'.isList fun hz0 hz hTI hTO h1 h2 hsz hk0 => args_nil ?_
      have hl1 := rv.length
      have hl2 := rv2.length
      rw [List.length_map] at hl1 hl2 zx zy
      have hh : X.A.handled = none := I1.ok.hd hc
      have B : Below (s1.heap.objs.size + 4) (s1.heap.objs.size + 2) (s1.heap.objs.size + 3) s1.heap.objs.size (s1.heap.objs.size + 1) a b hz0.objs.size := below_of hsz la lb
      refine sortedZ (s := { s1 with heap := hz0 }) (n := ys.length) hh (PySem.W.ktu_apart s1.heap.objs.size a b la lb) B (by rw [List.size_toArray]; omega) (by rw [List.size_toArray]; omega) zy hz hTI hTO h1 h2 (p1.isList.at fun o e => hk0 _ o e) (p2'.isList.at fun o e => hk0 _ o e) fun h' tk as hk hlt hl hG => ?_
      have nd : as.Nodup := List.Pairwise.imp (fun h => Nat.ne_of_lt h) hG.rise
      have big : ∀ a ∈ as, s1.heap.objs.size ≤ a := fun a ha => le5 hsz (hG.above a ha)
      have lt' : s1.heap.objs.size ≤ h'.objs.size  := le5 hsz hlt
      have old : ∀ c o, s1.heap.get? c = some o → h'.get? c = some o := fun c o e => by
        have := Heap.lt_size e
        exact hk c o (ne_lt 4 this) (ne_lt 3 this) (ne_lt 0 this) (ne_lt 1 this) (hk0 c o e)
      -- the pairs
      have pr : ∀ (j : Nat) (t : Addr) (y : Str × Str), as[j]? = some t → (xs.zip ys)[j]? = some y → ∃ t1 t2, IsPair h' t (.str y.1 t1) (.str y.2 t2) := fun j t y e1 e2 => by
        obtain ⟨x', y', q1, q2, q3⟩ := hG.pairs j t e1
        obtain ⟨z1, z2⟩ := zip_at e2
        obtain ⟨t1, w1⟩ := vals_str rv z1
        obtain ⟨t2, w2⟩ := vals_str rv2 z2
        rw [List.getElem?_toArray, w1] at q1
        rw [List.getElem?_toArray, w2] at q2
        cases q1; cases q2
        exact ⟨t1, t2, q3⟩
      have lz : (xs.zip ys).length = ys.length := by rw [List.length_zip]; omega
      have ob : (h'.push { cls := .type "list", data := .seq (as.map Value.ref).toArray }).get? h'.objs.size = some (seqObj "list" (as.map Value.ref).toArray 0) := Heap.get?_push_size _ rfl
      have ka : ∀ c o, h'.get? c = some o → (h'.push { cls := .type "list", data := .seq (as.map Value.ref).toArray }).get? c = some o := fun c o e => Heap.get?_push_of_some _ e
      generalize hh2 : h'.push { cls := .type "list", data := .seq (as.map Value.ref).toArray } = hS at ob ka
      have eR : EachIs (fun v y => ∃ a, v = Value.ref a ∧ ∃ j : Nat, as[j]? = some a ∧ (xs.zip ys)[j]? = some y) (as.map Value.ref) (xs.zip ys) := eachIs_of (by rw [List.length_map, lz, hl]) fun j v y e1 e2 => by
        rw [List.getElem?_map] at e1
        cases e : as[j]? with
        | none => rw [e] at e1; cases e1
        | some t => rw [e] at e1; exact ⟨t, (Option.some.inj e1).symm, j, e, e2⟩
      have eE : EachIs (fun v y => ∃ q, Reads hS v (encP y) q ∧ h'.objs.size ∉ q) (as.map Value.ref) (xs.zip ys) := eachIs_of (by rw [List.length_map, lz, hl]) fun j v y e1 e2 => by
        rw [List.getElem?_map] at e1
        cases e : as[j]? with
        | none => rw [e] at e1; cases e1
        | some t =>
          rw [e] at e1
          have ev : v = .ref t := (Option.some.inj e1).symm
          subst ev
          obtain ⟨t1, t2, z⟩ := pr j t y e e2
          exact ⟨_, .tuple (ka _ _ z) rfl rfl (.cons (.str _ _) (.cons (.str _ _) .nil)), by simp⟩
      refine list_sort_data (s := { s1 with heap := hS, toks := tk }) (enc := encP) ob eR eE (al_encP _) (Sortable.tuples fun b => ⟨_, _, rfl⟩) (by rw [lz]; exact zy) (fun y _ => by have := depth_encP y; show X.A.units + 1 + 1 + (encP y).depth < cLine; omega) fun out ho eo => ?_
      obtain ⟨ts, et, pt⟩ := refs_of eo
      subst et
      have pm : ((xs.zip ys).mergeSort (dataLe false encP)).Perm (xs.zip ys) := List.mergeSort_perm _ _
      generalize (xs.zip ys).mergeSort (dataLe false encP) = zs at pt pm
      have ne0 : ∀ c o, h'.get? c = some o → c ≠ h'.objs.size := fun c o e => Nat.ne_of_lt (Heap.lt_size e)
      have hSz : ∀ c o, h'.get? c = some o → c < hS.objs.size := fun c o e => Heap.lt_size (ka c o e)
      have kF : ∀ c o, h'.get? c = some o → (sortedHeap hS h'.objs.size (as.map Value.ref) (ts.map Value.ref).toArray).get? c = some o := fun c o e => (PyProof.Rows.sortedHeap_old (ne0 c o e) (hSz c o e)).trans (ka c o e)
      have kS : ∀ c o, s1.heap.get? c = some o → (sortedHeap hS h'.objs.size (as.map Value.ref) (ts.map Value.ref).toArray).get? c = some o := fun c o e => kF c o (old c o e)
      obtain ⟨eF, heF⟩ := PyProof.Rows.sortedHeap_at (vs := as.map Value.ref) (out := (ts.map Value.ref).toArray) ob
      show EP X pins σ Q (.ref h'.objs.size) { s1 with heap := sortedHeap hS h'.objs.size (as.map Value.ref) (ts.map Value.ref).toArray, toks := tk }
      generalize sortedHeap hS h'.objs.size (as.map Value.ref) (ts.map Value.ref).toArray = hF at kF kS heF
      have J1 : Inv X pins σ H1 { s1 with heap := hF, toks := tk } := I1.kept (t' := tk) kS
      have hn0 : H1 h'.objs.size = none := I1.hok.fresh lt'
      have lts : ts.length = ys.length := by
        have z : (ts.map Value.ref).length = (xs.zip ys).length := ho
        rw [List.length_map] at z
        omega
      have J2 : Inv X pins σ (upd H1 h'.objs.size (.lst (ts.map V.ref))) { s1 with heap := hF, toks := tk } :=
        J1.take (h' := hF) (t' := tk) (fun b ob _ e => e) (I1.fpOk lt' hn0) ⟨by rw [List.length_map, lts]; exact zy, (ts.map Value.ref), eF, vals_maps (fun t : Addr => V.ref t) (fun t => Value.ref t) ts (fun _ _ => rfl), heF⟩
      obtain ⟨H2, J3, g, qt⟩ := takeT (P := fun t vs => ∃ (j : Nat) (y : Str × Str), as[j]? = some t ∧ (xs.zip ys)[j]? = some y ∧ vs = [.str y.1, .str y.2]) I1 as _ J2 nd fun t ht => by
        obtain ⟨j, hj⟩ := List.mem_iff_getElem?.mp ht
        obtain ⟨y, hy⟩ : ∃ y, (xs.zip ys)[j]? = some y := ⟨(xs.zip ys)[j]'(by have := (List.getElem?_eq_some_iff.mp hj).1; omega), List.getElem?_eq_getElem _⟩
        obtain ⟨t1, t2, z⟩ := pr j t y hj hy
        refine ⟨big t ht, ?_, [.str y.1, .str y.2], ⟨j, y, hj, hy, rfl⟩, fun H3 => ⟨(by show 2 ≤ sizeLine; decide), [.str y.1 t1, .str y.2 t2], .cons ⟨t1, rfl⟩ (.cons ⟨t2, rfl⟩ .nil), ⟨_, kF _ _ z, rfl, 0, rfl⟩⟩⟩
        rw [upd_ne (ne0 _ _ z)]
        exact I1.hok.fresh (big t ht)
      have gr : ∀ c o, H1 c = some o → H2 c = some o := fun c o e => g c o (by rw [upd_ne (ne_of_none e hn0)]; exact e)
      refine ⟨.ref h'.objs.size, H2, J3, rfl, q H2 h'.objs.size ts zs gr hn0 (g _ _ upd_same) (Paired.mapP pt fun t y ⟨i, i1, i2⟩ => ?_) pm⟩
      obtain ⟨vs, ⟨j, y', j1, j2, ev⟩, hH⟩ := qt t (List.mem_of_getElem? i1)
      have eij : i = j := (List.getElem?_inj (List.getElem?_eq_some_iff.mp i1).1 nd).mp (i1.trans j1.symm)
      subst eij
      rw [show y' = y from Option.some.inj (j2.symm.trans i2)] at ev
      rw [ev] at hH
      exact hH
end GZ

set_option maxHeartbeats 4000000
namespace G
open PySem L2
theorem len_sub {α : Type} [DecidableEq α] : ∀ {l m : List α}, l.Nodup → (∀ x ∈ l, x ∈ m) → l.length ≤ m.length
  | [], _, _, _ => Nat.zero_le _
  | a :: t, m, hn, h => by
    rw [List.nodup_cons] at hn
    have ha := h a (List.mem_cons_self ..)
    have := len_sub (m := m.erase a) hn.2 fun x hx => (List.mem_erase_of_ne (fun e => hn.1 (by rw [← e]; exact hx))).mpr (h x (List.mem_cons_of_mem _ hx))
    rw [List.length_erase_of_mem ha] at this
    have := List.length_pos_of_mem ha
    rw [List.length_cons]
    omega
def kk (z : Str × Str) : List Key := [Sum.inr z.1, Sum.inr z.2]
theorem kk_inj {y z : Str × Str} (h : kk y = kk z) : y = z := by
  obtain ⟨a, b⟩ := y
  obtain ⟨c, d⟩ := z
  unfold kk at h
  injection h with h1 h2
  injection h2 with h3 _
  injection h1 with h1
  injection h3 with h3
  simp only at h1 h3
  rw [h1, h3]
/-- a dict that counts the pairs zs -/
structure Cnt (D : List (List Key × V)) (zs : List (Str × Str)) : Prop where
  nd : (D.map (·.1)).Nodup
  val : ∀ z, valV D (kk z) = if z ∈ zs then some (.int (zs.count z : Nat)) else none
  ks : ∀ p ∈ D, ∃ z ∈ zs, p.1 = kk z
theorem valV_mem {κ : Type} [DecidableEq κ] : ∀ {D : List (κ × V)}, (D.map (·.1)).Nodup → ∀ p ∈ D, valV D p.1 = some p.2
  | [], _, p, h => nomatch h
  | q :: D, hn, p, h => by
    rw [List.map_cons, List.nodup_cons] at hn
    rcases List.mem_cons.mp h with e | h
    · subst e
      exact valV_pos rfl
    · rw [valV_neg (fun e => hn.1 (by rw [e]; exact List.mem_map.mpr ⟨p, h, rfl⟩))]
      exact valV_mem hn.2 p h
theorem cnt_nil : Cnt [] [] := ⟨List.nodup_nil, fun z => by rw [valV_nil, if_neg (by simp)], fun p h => nomatch h⟩
theorem cnt_snoc {D : List (List Key × V)} {zs : List (Str × Str)} (C : Cnt D zs) (z : Str × Str) : Cnt (putK D (kk z) (.int ((zs.count z : Nat) + 1 : Int))) (zs ++ [z]) := by
  have keys : ∀ p ∈ putK D (kk z) (.int ((zs.count z : Nat) + 1 : Int)), p.1 = kk z ∨ ∃ q ∈ D, q.1 = p.1 := by
    intro p hp
    unfold putK at hp
    split at hp
    · obtain ⟨q, hq, rfl⟩ := List.mem_map.mp hp
      refine .inr ⟨q, hq, ?_⟩
      split <;> rfl
    · rcases List.mem_append.mp hp with h | h
      · exact .inr ⟨p, h, rfl⟩
      · rw [List.mem_singleton.mp h]; exact .inl rfl
  refine ⟨?_, fun y => ?_, fun p hp => ?_⟩
  · cases h : valV D (kk z) with
    | none => exact nd_putK _ C.nd h
    | some v =>
      have e : (putK D (kk z) (.int ((zs.count z : Nat) + 1 : Int))).map (·.1) = D.map (·.1) := by
        unfold putK
        rw [valV_any, h]
        rw [Option.isSome_some, if_pos rfl, List.map_map]
        refine List.map_congr_left fun q _ => ?_
        show (if q.1 = kk z then (q.1, _) else q).1 = q.1
        split <;> rfl
      rw [e]; exact C.nd
  · rw [valV_put, C.val]
    by_cases e : y = z
    · subst e
      rw [if_pos rfl, if_pos (by simp), List.count_append]
      congr 2
      simp
    · rw [if_neg (fun q => e (kk_inj q)), List.count_append]
      have : List.count y [z] = 0 := List.count_eq_zero.mpr (by simpa using e)
      rw [this, Nat.add_zero]
      by_cases hy : y ∈ zs
      · rw [if_pos hy, if_pos (List.mem_append_left _ hy)]
      · rw [if_neg hy, if_neg (fun q => (List.mem_append.mp q).elim hy (by simpa using e))]
  · rcases keys p hp with h | ⟨q, hq, h⟩
    · exact ⟨z, by simp, h⟩
    · obtain ⟨y, hy, e⟩ := C.ks q hq
      exact ⟨y, List.mem_append_left _ hy, by rw [← h]; exact e⟩
theorem cnt_len {D : List (List Key × V)} {zs : List (Str × Str)} (C : Cnt D zs) (n : Nat) (h : zs.length ≤ n) : D.length ≤ n := by
  have sub : ∀ k ∈ D.map (·.1), k ∈ zs.map kk := fun k hk => by
    obtain ⟨p, hp, rfl⟩ := List.mem_map.mp hk
    obtain ⟨z, hz, e⟩ := C.ks p hp
    exact List.mem_map.mpr ⟨z, hz, e.symm⟩
  have := len_sub C.nd sub
  rw [List.length_map, List.length_map] at this
  omega
theorem cnt_key {D : List (List Key × V)} {zs : List (Str × Str)} (C : Cnt D zs) {z : Str × Str} (h : z ∈ zs) : kk z ∈ D.map (·.1) := by
  have := C.val z
  rw [if_pos h] at this
  have q : ((D.find? fun kv => decide (kv.1 = kk z)).map (·.2)) = some (.int (zs.count z : Nat)) := this
  cases e : D.find? fun kv => decide (kv.1 = kk z) with
  | none => rw [e] at q; cases q
  | some p =>
    have h1 := List.find?_some e
    have h2 := List.mem_of_find?_eq_some e
    exact List.mem_map.mpr ⟨p, h2, of_decide_eq_true h1⟩
theorem cnt_eq {D D' : List (List Key × V)} {zs zs' : List (Str × Str)} (C : Cnt D zs) (C' : Cnt D' zs') (hp : zs.Perm zs') : D.length = D'.length ∧ ∀ p ∈ D, valV D' p.1 = some p.2 ∧ flatB p.2 = true := by
  have sub : ∀ {D D' : List (List Key × V)} {zs zs' : List (Str × Str)}, Cnt D zs → Cnt D' zs' → zs.Perm zs' → D.length ≤ D'.length := by
    intro D D' zs zs' C C' hp
    have : ∀ k ∈ D.map (·.1), k ∈ D'.map (·.1) := fun k hk => by
      obtain ⟨p, hq, rfl⟩ := List.mem_map.mp hk
      obtain ⟨z, hz, e⟩ := C.ks p hq
      rw [e]
      exact cnt_key C' (hp.mem_iff.mp hz)
    have := len_sub C.nd this
    rw [List.length_map, List.length_map] at this
    exact this
  refine ⟨Nat.le_antisymm (sub C C' hp) (sub C' C hp.symm), fun p hm => ?_⟩
  obtain ⟨z, hz, e⟩ := C.ks p hm
  have h1 := valV_mem C.nd p hm
  rw [e, C.val z, if_pos hz] at h1
  refine ⟨?_, ?_⟩
  · rw [e, C'.val z, if_pos (hp.mem_iff.mp hz), ← hp.count_eq]
    exact h1
  · rw [← Option.some.inj h1]; rfl
end G

set_option maxHeartbeats 4000000
namespace G
open PySem L2
variable {P : Program} {w : World} {K : PySem.W.Frag} {mg : Str → Option Value} {base : Heap}
abbrev sHandoversOf : Stmt := top 19
theorem scHandoversOf : FnScope ["members", "history", "found", "pair"] ["members", "history"] (defScope sHandoversOf) := ⟨rfl, rfl, rfl, by decide +kernel, rfl, by decide +kernel, by decide +kernel⟩
def spHandovers : Sp := fun vs H Q _ => ∃ m ms a h, vs = [.ref m, .ref a] ∧ LS H m ms ∧ Ms ms ∧ LS H a h ∧ Hist ms h ∧ ∀ H' d D zs, Same H H' → H d = none → H' d = some (.dT D) → Cnt D zs → zs.Perm (h.zip (h.drop 1)) → Q (.ref d) H'
theorem paired_get {α β : Type} {R : α → β → Prop} : ∀ {as : List α} {bs : List β}, Paired R as bs → ∀ {j : Nat} {a : α}, as[j]? = some a → ∃ b, bs[j]? = some b ∧ R a b
  | _, _, .nil, j, a, h => by simp at h
  | _, _, .cons r t, 0, a, h => ⟨_, rfl, by rw [← show _ = a from by simpa using h]; exact r⟩
  | _, _, .cons r t, j + 1, a, h => paired_get t (by simpa using h)
theorem ok_handovers_of {f : Addr} {fd : FuncData} (F : Fun K "handovers_of" "handovers_of" sHandoversOf f fd) (T : Txt K mg) (Dneed_history : Dn P w K mg base CX0 5 "need_history" ["members", "history"] spNeedHistory) : FnOk P w K mg base CX0 6 f fd ["members", "history"] spHandovers := by
  refine F.ok scHandoversOf (fun vs H Q E h => ?_) (fun cdv A outer s H vs Q E hr h => ?_)
  · obtain ⟨m, ms, a, h, rfl, _⟩ := h
    rfl
  · obtain ⟨m, ms, a, h, rfl, hm, M, ha, Hh, k⟩ := h
    have hu := hu_of hr
    have hl := Hh.len
    refine ⟨_, (pss_cons (ps_expr (call_dn Dneed_history hr (pa_cons (pv 0) (pa_cons (pv 1) pa_nil))))
        (pss_cons (ps_set (i := 2) scHandoversOf.nd rfl (Or.inl rfl) pe_dnewT)
        (pss_cons (ps_for PassesOwn.never rfl (pi_list (GZ.g_sortedZ T hr (pa_cons (pv 1) (pa_cons (pe_slice sl_list (pv 1) (po_some pe_int) po_none) pa_nil)))) (pg_name (i := 3) scHandoversOf.nd rfl (by first | exact Or.inl rfl | exact Or.inr rfl)) (pss_one (ps_dput hu (pv 2) (pv 3) (pe_op op_add (pe_dget2 hu (pv 2) (pv 3) pe_int ⟨rfl, rfl, rfl, rfl⟩) pe_int) rfl)))
        (pss_one (ps_ret (pv 2)))))), ?_⟩
    refine ⟨_, rfl, _, rfl, m, ms, a, h, rfl, hm, M, ha, Hh, fun H1 s1 => ?_⟩
    intro d hd
    have s2 : Same H (upd H1 d (.dT [])) := Same.trans s1 (Same.new hd)
    refine ⟨_, rfl, _, rfl, _, rfl, a, _, rfl, SqL.of (Same.ls s2 ha), fun p hp => ?_⟩
    rw [cut1]
    have s3 : Same H (upd (upd H1 d (.dT [])) p (.lst ((h.map V.str).drop 1))) := Same.trans s2 (Same.new hp)
    have hlen : h.length = (h.drop 1).length + 1 := by
      have := List.length_pos_iff.mpr Hh.ne
      rw [List.length_drop]; omega
    refine ⟨a, p, h, h.drop 1, rfl, SqL.of (Same.ls s3 ha), SqL.of (by rw [List.map_drop]; exact upd_same), hlen, fun H3 q ts zs s4 hq hql hts hperm => ?_⟩
    have hd0 : H d = none := Same.free s1 hd
    have hd3 : H3 d = some (.dT []) := s4 _ _ (by rw [upd_ne (ne_of_none upd_same hp)]; exact upd_same)
    have tl : ts.length = zs.length := Paired.length hts
    have zl : zs.length = (h.drop 1).length := by rw [hperm.length_eq, List.length_zip]; omega
    refine ⟨q, rfl, ⟨_, SqL.of hql⟩, for_it (walk_list (xs := ts.map V.ref)) (fun i σ H' => (∃ u, σ = [some (.ref m), some (.ref a), some (.ref d), u]) ∧ Same H H' ∧ H' q = some (.lst (ts.map V.ref)) ∧ Paired (fun t y => H' t = some (.tup [.str y.1, .str y.2])) ts zs ∧ ∃ D, H' d = some (.dT D) ∧ Cnt D (zs.take i))
      ⟨⟨_, rfl⟩, Same.trans s3 s4, hql, hts, [], hd3, cnt_nil⟩ (fun i σ H' _ ⟨_, _, q1, _⟩ => SqL.of q1) ?_ ?_⟩
    · rintro i x σ H' H'' hi ⟨⟨u, rfl⟩, s5, q5, t5, D, hD, C⟩ y
      obtain ⟨rfl, hx⟩ := y
      rw [List.getElem?_map] at hx
      obtain ⟨t, ht, rfl⟩ : ∃ t, ts[i]? = some t ∧ x = .ref t := by
        cases e : ts[i]? with
        | none => rw [e] at hx; cases hx
        | some t => rw [e] at hx; exact ⟨t, rfl, (Option.some.inj hx).symm⟩
      obtain ⟨z, hz, htz⟩ := paired_get t5 ht
      have gd := DGet.t (k := kk z) hD htz
      refine ⟨_, rfl, d, rfl, Or.inr ⟨D, Or.inl hD⟩, _, rfl, _, gd, ?_⟩
      rw [C.val z]
      have e : (if z ∈ zs.take i then some (V.int ((zs.take i).count z : Nat)) else none).getD (.int 0) = .int ((zs.take i).count z : Nat) := by
        by_cases c : z ∈ zs.take i
        · rw [if_pos c]; rfl
        · rw [if_neg c, List.count_eq_zero.mpr c]; rfl
      rw [e]
      have hD60 : D.length < sizeLine := by
        have := cnt_len C zs.length (by rw [List.length_take]; omega)
        exact small (by rw [List.length_drop] at zl; omega)
      refine ⟨_, _, rfl, rfl, _, rfl, _, rfl, d, _, rfl, DPut.t (k := kk z) hD htz hD60, ⟨_, rfl⟩, Same.mut s5 hd0, ?_, ?_, _, upd_same, ?_⟩
      · rw [upd_ne (ne_of q5 hD (fun z => nomatch z))]; exact q5
      · exact Paired.mapP t5 fun t y e => by rw [upd_ne (ne_of e hD (fun z => nomatch z))]; exact e
      · rw [take_snoc hz]; exact cnt_snoc C z
    · rintro σ H' ⟨⟨u, rfl⟩, s5, q5, t5, D, hD, C⟩
      rw [List.length_map, tl, List.take_length] at C
      exact ⟨_, rfl, k H' d D zs s5 hd0 hD C hperm⟩
end G

set_option maxHeartbeats 4000000
namespace G
open PySem L2
/-! ### the bag -/
/-- a bag at b, good for r more takes -/
structure BagAt (r : Nat) (b : Addr) (H : Hp) : Prop where
  ex : ∃ b0 b1 b2 : Int, H b = some (.lst [.int b0, .int b1, .int b2]) ∧ 0 ≤ b0 ∧ 0 ≤ b1 ∧ b1 < 2 ^ 140 ∧ 0 ≤ b2 ∧ b2 + r ≤ 1000000
/-- all but the bag as it was; the bag good for r more takes -/
structure Bk (b : Addr) (r : Nat) (H H' : Hp) : Prop where
  keep : ∀ a o, a ≠ b → H a = some o → H' a = some o
  bag : BagAt r b H'
theorem BagAt.less {r r' : Nat} {b : Addr} {H : Hp} (h : BagAt r b H) (hr : r' ≤ r) : BagAt r' b H := by
  obtain ⟨b0, b1, b2, e, h0, h1, h2, h3, h4⟩ := h
  exact ⟨b0, b1, b2, e, h0, h1, h2, h3, by omega⟩
theorem BagAt.on {r : Nat} {b : Addr} {H H' : Hp} (h : BagAt r b H) (s : Same H H') : BagAt r b H' := by
  obtain ⟨b0, b1, b2, e, h⟩ := h
  exact ⟨b0, b1, b2, s _ _ e, h⟩
theorem BagAt.some {r : Nat} {b : Addr} {H : Hp} (h : BagAt r b H) : H b ≠ none := by
  obtain ⟨b0, b1, b2, e, h⟩ := h
  rw [e]; exact fun z => nomatch z
theorem Bk.of {r : Nat} {b : Addr} {H H' : Hp} (h : BagAt r b H) (s : Same H H') : Bk b r H H' := ⟨fun a o _ e => s a o e, h.on s⟩
theorem Bk.refl {r : Nat} {b : Addr} {H : Hp} (h : BagAt r b H) : Bk b r H H := .of h (Same.refl _)
theorem Bk.trans {r r' : Nat} {b : Addr} {H H1 H2 : Hp} (h : Bk b r H H1) (k : Bk b r' H1 H2) : Bk b r' H H2 := ⟨fun a o n e => k.keep a o n (h.keep a o n e), k.bag⟩
theorem Bk.more {r : Nat} {b : Addr} {H H1 H2 : Hp} (h : Bk b r H H1) (s : Same H1 H2) : Bk b r H H2 := h.trans (.of h.bag s)
theorem Bk.less {r r' : Nat} {b : Addr} {H H1 : Hp} (h : Bk b r H H1) (hr : r' ≤ r) : Bk b r' H H1 := ⟨h.keep, h.bag.less hr⟩
theorem Bk.free {r : Nat} {b : Addr} {H H' : Hp} {p : Addr} (h : Bk b r H H') (e : H' p = none) : H p = none := by
  cases q : H p with
  | none => rfl
  | some o =>
    by_cases hb : p = b
    · rw [hb] at e; exact absurd e h.bag.some
    · rw [h.keep p o hb q] at e; cases e
theorem BagAt.neL {r : Nat} {b a : Addr} {H : Hp} {xs : List Str} (h : BagAt r b H) (ha : LS H a xs) : a ≠ b := by
  obtain ⟨b0, b1, b2, e, _⟩ := h
  rintro rfl
  rw [show H a = _ from ha] at e
  cases xs <;> cases e
theorem BagAt.neD {r : Nat} {b a : Addr} {H : Hp} {kvs : List (Key × V)} (h : BagAt r b H) (ha : H a = Option.some (.dK kvs)) : a ≠ b := by
  obtain ⟨b0, b1, b2, e, _⟩ := h
  exact ne_of ha e (fun z => nomatch z)
theorem BagAt.neN {r : Nat} {b a : Addr} {H : Hp} (h : BagAt r b H) (ha : H a = none) : a ≠ b := fun e => h.some (e ▸ ha)
theorem Bk.ls {r r' : Nat} {b a : Addr} {H H' : Hp} {xs : List Str} (h : Bk b r H H') (hb : BagAt r' b H) (ha : LS H a xs) : LS H' a xs := h.keep a _ (hb.neL ha) ha
theorem Bk.dl {r r' : Nat} {b d : Addr} {H H' : Hp} {ms : List Str} {ad : Str → Addr} {L : Str → List Str} (h : Bk b r H H') (hb : BagAt r' b H) (hd : DL H d ms ad L) : DL H' d ms ad L := ⟨h.keep d _ (hb.neD hd.dk) hd.dk, fun x hx => h.ls hb (hd.l x hx)⟩
/-- what is new to H and written leaves Bk -/
theorem Bk.mut {r : Nat} {b p : Addr} {H H' : Hp} {o : HO} (h : Bk b r H H') (hp : H p = none) (hb : p ≠ b) : Bk b r H (upd H' p o) := by
  refine ⟨fun a u n e => by rw [upd_ne (ne_of_none e hp)]; exact h.keep a u n e, ?_⟩
  obtain ⟨b0, b1, b2, e, q⟩ := h.bag
  exact ⟨b0, b1, b2, by rw [upd_ne (Ne.symm hb)]; exact e, q⟩
variable {P : Program} {w : World} {K : PySem.W.Frag} {mg : Str → Option Value} {base : Heap}
abbrev sLawBag : Stmt := top 40
theorem scLawBag : FnScope ["_law_script", "_law_k", "_law_cell"] ["_law_script", "_law_k"] (defScope sLawBag) := ⟨rfl, rfl, rfl, by decide +kernel, rfl, by decide +kernel, by decide +kernel⟩
def spBag (K : PySem.W.Frag) : Sp := fun vs H Q _ => ∃ (a : Addr) (ns : List Int) (k : Nat), vs = [.ref a, .int (k : Nat)] ∧ SqL K H a (ns.map V.int) ∧ k ≤ 100 ∧ ∀ H' p, Same H H' → H p = none → BagAt 900000 p H' → Q (.ref p) H'
theorem pos40 : (0 : Int) < 10 ^ (Int.toNat 40) + 121 := by decide
theorem pos40b : (0 : Int) < 10 ^ (Int.toNat 40) + 4323 := by decide
theorem pos41 : (0 : Int) < 10 ^ (Int.toNat 41) + 37 := by decide
theorem more97 {z : Int} (h : z.natAbs < 2 ^ 140) : (z + 97).natAbs < 2 ^ 141 := by omega
theorem pw18 : ((10 : Int) ^ (Int.toNat 18)) = 10 ^ 18 := rfl
theorem ok_law_bag {f : Addr} {fd : FuncData} (F : Fun K "_law_bag" "_law_bag" sLawBag f fd) (T : Txt K mg) : FnOk P w K mg base CX0 1 f fd ["_law_script", "_law_k"] (spBag K) := by
  refine F.ok scLawBag (fun vs H Q E h => ?_) (fun cdv A outer s H vs Q E hr h => ?_)
  · obtain ⟨a, ns, k, rfl, _⟩ := h
    rfl
  · obtain ⟨a, ns, k, rfl, ha, hk, q⟩ := h
    refine ⟨_, (pss_cons (ps_set (i := 2) scLawBag.nd rfl (Or.inl rfl) pe_int)
        (pss_cons (ps_if (pt_cmpR op_lt (pv 1) (g_lenL T (pv 0)) (nomark _)) (pss_one (ps_set (i := 2) scLawBag.nd rfl (Or.inl rfl) (g_ixL T (pv 0) (pv 1) (fun _ _ => rfl)))) pss_nil)
        (pss_one (ps_ret (pe_lst (pa_cons (g_max T pe_int (pe_op op_sub (pv 2) (pe_op op_pow pe_int pe_int))) (pa_cons (pe_op op_mod (pv 2) (pe_op op_add (pe_op op_pow pe_int pe_int) pe_int)) (pa_cons (pe_op op_mulW pe_int (pv 1)) pa_nil)))))))), ?_⟩
    refine ⟨_, rfl, _, rfl, _, _, rfl, Or.inl ha, _, _, rfl, rfl, _, rfl, ?_⟩
    have fin : ∀ cell : Int, (tRet (tLst (tCons (tCB rMax2 (tCons (tC (.int 0)) (tCons (tOp (rI0 fun i j => .int (i - j)) (tVar 2) (tOp (rI CPow fun i j => .int (i ^ j.toNat)) (tC (.int 10)) (tC (.int 18)))) tNil)))
        (tCons (tOp (rI (fun _ j => 0 < j) fun i j => .int (i % j)) (tVar 2) (tOp (rI0 fun i j => .int (i + j)) (tOp (rI CPow fun i j => .int (i ^ j.toNat)) (tC (.int 10)) (tC (.int 40))) (tC (.int 121))))
          (tCons (tOp (rI CMulW fun i j => .int (i * j)) (tC (.int 61)) (tVar 1)) tNil))))) { nx := fun _ H' => Q .non H', rt := Q } [some (.ref a), some (.int (k : Nat)), some (.int cell)] H := fun cell => by
      refine ⟨_, rfl, _, _, rfl, rfl, ⟨by decide, by decide, by decide⟩, _, _, rfl, rfl, _, _, rfl, ?_⟩
      refine ⟨_, rfl, _, _, rfl, rfl, ⟨by decide, by decide, by decide⟩, _, _, rfl, rfl, _, _, rfl, rfl, pos40, ?_⟩
      refine ⟨_, rfl, _, _, rfl, rfl, wide_mul (a := 6) (b := 7) (by decide) (by omega) (by decide) (by decide) (by decide), (by show 3 ≤ sizeLine; decide), fun p hp => ?_⟩
      refine q _ p (Same.new hp) hp ⟨_, _, _, upd_same, ?_, ?_, ?_, ?_, ?_⟩
      · split <;> omega
      · exact Int.emod_nonneg _ (by decide)
      · have h2 := Int.emod_lt_of_pos cell (b := (10 : Int) ^ (Int.toNat 40) + 121) (by decide)
        have e : (10 : Int) ^ (Int.toNat 40) + 121 = 10000000000000000000000000000000000000121 := by decide
        show cell % ((10 : Int) ^ (Int.toNat 40) + 121) < _
        rw [e] at h2 ⊢
        omega
      · show 0 ≤ 61 * (k : Int)
        omega
      · show 61 * (k : Int) + (900000 : Nat) ≤ 1000000
        omega
    rw [List.length_map]
    by_cases c : ((k : Nat) : Int) < (ns.length : Nat)
    · refine iteDT c ?_
      have hk2 : k < ns.length := by omega
      refine ⟨_, rfl, _, rfl, _, _, _, _, rfl, rfl, ha, atI_nat (v := V.int ns[k]) (by rw [List.getElem?_map, List.getElem?_eq_getElem hk2]; rfl), fin _⟩
    · exact iteDF c (fin 0)
abbrev sLawTake : Stmt := top 41
theorem scLawTake : FnScope ["_law_bag_here", "_law_many", "_law_found", "_law_mark"] ["_law_bag_here", "_law_many"] (defScope sLawTake) := ⟨rfl, rfl, rfl, by decide +kernel, rfl, by decide +kernel, by decide +kernel⟩
def spTake : Sp := fun vs H Q _ => ∃ (b : Addr) (many r : Nat), vs = [.ref b, .int many] ∧ BagAt (r + 1) b H ∧ 0 < many ∧ many ≤ 1000 ∧ ∀ H' (n : Nat), Bk b r H H' → n < many → Q (.int n) H'
theorem at3 {b0 b1 b2 : Int} : atI [V.int b0, V.int b1, V.int b2] 0 = some (.int b0) ∧ atI [V.int b0, V.int b1, V.int b2] 1 = some (.int b1) ∧ atI [V.int b0, V.int b1, V.int b2] 2 = some (.int b2) := ⟨rfl, rfl, rfl⟩
theorem modN {i : Int} {m : Nat} (h : 0 < m) : ∃ n : Nat, i % (m : Int) = n ∧ n < m := by
  have h1 := Int.emod_nonneg i (b := (m : Int)) (by omega)
  have h2 := Int.emod_lt_of_pos i (b := (m : Int)) (by omega)
  exact ⟨(i % (m : Int)).toNat, by omega, by omega⟩
theorem ok_law_take {f : Addr} {fd : FuncData} (F : Fun K "_law_take" "_law_take" sLawTake f fd) (T : Txt K mg) : FnOk P w K mg base CX0 1 f fd ["_law_bag_here", "_law_many"] spTake := by
  refine F.ok scLawTake (fun vs H Q E h => ?_) (fun cdv A outer s H vs Q E hr h => ?_)
  · obtain ⟨b, many, r, rfl, _⟩ := h
    rfl
  · obtain ⟨b, many, r, rfl, ⟨b0, b1, b2, hb, h0, h1, h1u, h2, h2r⟩, m0, m1, k⟩ := h
    refine ⟨_, (pss_cons (ps_if (pt_cmpR op_gt (g_ixL T (pv 0) pe_int (fun _ _ => rfl)) pe_int (nomark _)) (pss_cons (ps_set (i := 2) scLawTake.nd rfl (Or.inl rfl) (pe_op op_mod (g_ixL T (pv 0) pe_int (fun _ _ => rfl)) (pv 1)))
            (pss_cons (ps_asg (pe_op op_fdivW (g_ixL T (pv 0) pe_int (fun _ _ => rfl)) (pv 1)) (pg_sub (pv 0) pe_int set_list))
            (pss_one (ps_ret (pv 2))))) pss_nil)
        (pss_cons (ps_asg (pe_op op_add (g_ixL T (pv 0) pe_int (fun _ _ => rfl)) pe_int) (pg_sub (pv 0) pe_int set_list))
        (pss_cons (ps_set (i := 3) scLawTake.nd rfl (Or.inl rfl) (pe_op op_add (pe_op op_mulW (pe_op op_add (g_ixL T (pv 0) pe_int (fun _ _ => rfl)) pe_int) (pe_op op_add (pe_op op_mulW pe_int (g_ixL T (pv 0) pe_int (fun _ _ => rfl))) pe_int)) (pe_op op_mulW (pe_op op_mulW pe_int (g_ixL T (pv 0) pe_int (fun _ _ => rfl))) (g_ixL T (pv 0) pe_int (fun _ _ => rfl)))))
        (pss_cons (ps_set (i := 3) scLawTake.nd rfl (Or.inl rfl) (pe_op op_mod (pe_op op_mulW (pv 3) (pv 3)) (pe_op op_add (pe_op op_pow pe_int pe_int) pe_int)))
        (pss_one (ps_ret (pe_op op_mod (pe_op op_fdivW (pe_op op_mod (pe_op op_mulW (pv 3) (pe_op op_add (pv 3) pe_int)) (pe_op op_add (pe_op op_pow pe_int pe_int) pe_int)) pe_int) (pv 1)))))))), ?_⟩
    refine ⟨_, rfl, _, _, _, _, rfl, rfl, SqL.of hb, at3.1, _, _, rfl, rfl, _, rfl, ?_⟩
    by_cases c : 0 < b0
    · refine iteDT c ?_
      obtain ⟨n, en, hn⟩ := modN (i := b0) m0
      refine ⟨_, rfl, _, _, _, _, rfl, rfl, SqL.of hb, at3.1, _, rfl, _, _, rfl, rfl, by omega, ?_⟩
      refine ⟨_, rfl, _, _, _, _, rfl, rfl, SqL.of hb, at3.1, _, rfl, _, _, rfl, rfl, wide_div (b := 10) (by omega) (by omega) (by decide) (by decide), ?_⟩
      refine ⟨_, rfl, _, _, _, 0, rfl, rfl, hb, rfl, ?_⟩
      refine ⟨_, rfl, ?_⟩
      show Q (V.int (b0 % ↑many)) _
      rw [en]
      refine k _ n ⟨fun a o ne e => by rw [upd_ne ne]; exact e, _, b1, b2, upd_same, ?_, h1, h1u, h2, by omega⟩ hn
      exact Int.ediv_nonneg h0 (by omega)
    · refine iteDF c ?_
      refine ⟨_, rfl, _, _, _, _, rfl, rfl, SqL.of hb, at3.2.2, _, _, rfl, rfl, ?_⟩
      refine ⟨_, rfl, _, _, _, 2, rfl, rfl, hb, rfl, ?_⟩
      have hB : upd H b (.lst [.int b0, .int b1, .int (b2 + 1)]) b = some (.lst [.int b0, .int b1, .int (b2 + 1)]) := upd_same
      show tSeq _ _ _ _ (upd H b (.lst [.int b0, .int b1, .int (b2 + 1)]))
      generalize hG : upd H b (.lst [.int b0, .int b1, .int (b2 + 1)]) = HB at hB
      have kB : ∀ n : Nat, n < many → Q (.int n) HB := fun n hn => by
        refine k HB n ⟨fun a o ne e => by rw [← hG, upd_ne ne]; exact e, _, b1, b2 + 1, hB, h0, h1, h1u, by omega, by omega⟩ hn
      have w2 : (b2 + 1).natAbs < 2 ^ 20 := by omega
      generalize b2 + 1 = c2 at hB w2
      have w1 : (b1 + 1).natAbs < 2 ^ 141 := by omega
      have w3 : (30011 * c2 + 7).natAbs < 2 ^ 40 := by omega
      have w4 : (104729 * c2).natAbs < 2 ^ 40 := by omega
      refine ⟨_, rfl, _, _, _, _, rfl, rfl, SqL.of hB, at3.2.1, _, _, rfl, rfl, ?_⟩
      refine ⟨_, rfl, _, _, _, _, rfl, rfl, SqL.of hB, at3.2.2, _, _, rfl, rfl, wide_mul (a := 20) (b := 20) (by decide) w2 (by decide) (by decide) (by decide), ?_⟩
      refine ⟨_, _, rfl, rfl, _, _, rfl, rfl, wide_mul (a := 141) (b := 40) w1 w3 (by decide) (by decide) (by decide), ?_⟩
      refine ⟨_, rfl, _, _, _, _, rfl, rfl, SqL.of hB, at3.2.2, _, _, rfl, rfl, wide_mul (a := 20) (b := 20) (by decide) w2 (by decide) (by decide) (by decide), ?_⟩
      refine ⟨_, rfl, _, _, _, _, rfl, rfl, SqL.of hB, at3.2.2, _, _, rfl, rfl, wide_mul (a := 40) (b := 20) w4 w2 (by decide) (by decide) (by decide), _, _, rfl, rfl, ?_⟩
      have w5 : ((b1 + 1) * (30011 * c2 + 7) + 104729 * c2 * c2).natAbs < 2 ^ 190 := by
        have x1 := wide_lt w1 w3
        have x2 := wide_lt w4 w2
        have := Int.natAbs_add_le ((b1 + 1) * (30011 * c2 + 7)) (104729 * c2 * c2)
        omega
      show tSeq _ _ _ [_, _, _, some (V.int ((b1 + 1) * (30011 * c2 + 7) + 104729 * c2 * c2))] HB
      generalize (b1 + 1) * (30011 * c2 + 7) + 104729 * c2 * c2 = mk at w5
      refine ⟨_, rfl, _, rfl, _, _, rfl, rfl, wide_mul (a := 190) (b := 190) w5 w5 (by decide) (by decide) (by decide), _, _, rfl, rfl, ⟨by decide, by decide, by decide⟩, _, _, rfl, rfl, _, _, rfl, rfl, pos41, ?_⟩
      have w6 : (mk * mk % ((10 : Int) ^ (Int.toNat 41) + 37)).natAbs < 2 ^ 140 := by
        have e : (10 : Int) ^ (Int.toNat 41) + 37 = 100000000000000000000000000000000000000037 := by decide
        rw [e]
        have h1 := Int.emod_nonneg (mk * mk) (b := 100000000000000000000000000000000000000037) (by decide)
        have h2 := Int.emod_lt_of_pos (mk * mk) (b := 100000000000000000000000000000000000000037) (by decide)
        omega
      have w7 := more97 w6
      refine ⟨_, rfl, _, rfl, _, _, rfl, rfl, _, _, rfl, rfl, wide_mul (a := 140) (b := 141) w6 w7 (by decide) (by decide) (by decide), _, _, rfl, rfl, ⟨by decide, by decide, by decide⟩, _, _, rfl, rfl, _, _, rfl, rfl, pos40b, ?_⟩
      refine ⟨_, _, rfl, rfl, wide_div (b := 20) (by decide) (by decide) (by decide) (by decide), _, rfl, _, _, rfl, rfl, by omega, ?_⟩
      obtain ⟨n, en, hn⟩ := modN (i := (mk * mk % ((10 : Int) ^ (Int.toNat 41) + 37)) * ((mk * mk % ((10 : Int) ^ (Int.toNat 41) + 37)) + 97) % ((10 : Int) ^ (Int.toNat 40) + 4323) / 100003) m0
      show Q (V.int ((mk * mk % ((10 : Int) ^ (Int.toNat 41) + 37)) * ((mk * mk % ((10 : Int) ^ (Int.toNat 41) + 37)) + 97) % ((10 : Int) ^ (Int.toNat 40) + 4323) / 100003 % (many : Int))) HB
      rw [en]
      exact kB n hn
end G

set_option maxHeartbeats 4000000
namespace G
open PySem L2
variable {P : Program} {w : World} {K : PySem.W.Frag} {mg : Str → Option Value} {base : Heap}
theorem cutTake (xs : List V) (k : Nat) : cutV xs none (some (k : Int)) = xs.take k := by
  unfold cutV
  rw [HT.sIx_none, HT.sIx_nat, List.drop_zero, Nat.sub_zero, ← List.take_eq_take_min]
theorem cutDrop (xs : List V) (k : Nat) : cutV xs (some (k : Int)) none = xs.drop k := by
  unfold cutV
  rw [HT.sIx_none, HT.sIx_nat]
  by_cases h : k ≤ xs.length
  · rw [Nat.min_eq_left h]
    exact List.take_of_length_le (by rw [List.length_drop]; exact Nat.le_refl _)
  · rw [Nat.min_eq_right (by omega), List.drop_length, List.drop_eq_nil_of_le (by omega), List.take_nil]
theorem ixM {xs : List Str} {n : Nat} (h : n < xs.length) : ∃ x, x ∈ xs ∧ xs[n]? = some x ∧ atI (xs.map V.str) ((n : Nat) : Int) = some (.str x) :=
  ⟨xs[n], List.getElem_mem h, List.getElem?_eq_getElem h, atI_nat (by rw [List.getElem?_map, List.getElem?_eq_getElem h]; rfl)⟩
abbrev sLawPick : Stmt := top 42
theorem scLawPick : FnScope ["_law_bag_here", "_law_values"] ["_law_bag_here", "_law_values"] (defScope sLawPick) := ⟨rfl, rfl, rfl, by decide +kernel, rfl, by decide +kernel, by decide +kernel⟩
def spPick : Sp := fun vs H Q _ => ∃ (b a : Addr) (r : Nat) (xs : List Str), vs = [.ref b, .ref a] ∧ BagAt (r + 1) b H ∧ LS H a xs ∧ xs ≠ [] ∧ xs.length ≤ 1000 ∧ ∀ H' x, Bk b r H H' → x ∈ xs → Q (.str x) H'
theorem ok_law_pick {f : Addr} {fd : FuncData} (F : Fun K "_law_pick" "_law_pick" sLawPick f fd) (T : Txt K mg) (D_law_take : Dn P w K mg base CX0 1 "_law_take" ["_law_bag_here", "_law_many"] spTake) : FnOk P w K mg base CX0 2 f fd ["_law_bag_here", "_law_values"] spPick := by
  refine F.ok scLawPick (fun vs H Q E h => ?_) (fun cdv A outer s H vs Q E hr h => ?_)
  · obtain ⟨b, a, r, xs, rfl, _⟩ := h
    rfl
  · obtain ⟨b, a, r, xs, rfl, hb, ha, hne, hl, k⟩ := h
    refine ⟨_, (pss_one (ps_ret (g_ixL T (pv 1) (call_dn D_law_take hr (pa_cons (pv 0) (pa_cons (g_lenL T (pv 1)) pa_nil))) (fun _ _ => rfl)))), ?_⟩
    refine ⟨_, rfl, _, rfl, _, rfl, _, _, rfl, Or.inl (SqL.of ha), ?_⟩
    refine ⟨b, xs.length, r, by rw [List.length_map]; rfl, hb, List.length_pos_iff.mpr hne, hl, fun H1 n k1 hn => ?_⟩
    obtain ⟨x, hx, _, hat⟩ := ixM hn
    exact ⟨_, _, _, _, rfl, rfl, SqL.of (k1.ls hb ha), hat, k H1 x k1 hx⟩
/-! ### _law_members -/
def pool : List Str := ["a", "aa", "b", "hand", "p", "zzzzzzzz", "list", "c", "known", "d", "group", "e"]
def srt7 : List Str := ["a", "aa", "b", "hand", "list", "p", "zzzzzzzz"]
def mem7 (n : Nat) : List Str := if n = 7 then srt7 else pool.take n
theorem nm7 : ∀ z ∈ srt7, NameOk z := by
  intro z hz
  have h : ∀ z ∈ srt7, decide (1 ≤ z.length ∧ z.length ≤ 8 ∧ ∀ c ∈ z.cps.toList, c ∈ ("abcdefghijklmnopqrstuvwxyz" : Str).cps.toList) = true := by decide +kernel
  have q := of_decide_eq_true (h z hz)
  exact q
theorem srt7_srt : srt7.Pairwise ltS := by
  have h : srt7.Pairwise (fun a b => a.cps.toList < b.cps.toList) := by decide +kernel
  exact h
theorem ms7 {n : Nat} (h1 : 1 ≤ n) (h2 : n ≤ 7) : Ms (mem7 n) ∧ (mem7 n).Perm (pool.take n) := by
  have c : n = 1 ∨ n = 2 ∨ n = 3 ∨ n = 4 ∨ n = 5 ∨ n = 6 ∨ n = 7 := by omega
  have sub : ∀ l : List Str, (∀ z ∈ l, z ∈ srt7) → l.Pairwise ltS → 1 ≤ l.length → l.length ≤ 12 → Ms l := fun l a b c d => ⟨fun z hz => nm7 z (a z hz), b, c, d⟩
  have pw : ∀ l : List Str, l.Pairwise (fun a b => a.cps.toList < b.cps.toList) → l.Pairwise ltS := fun l h => h
  rcases c with rfl | rfl | rfl | rfl | rfl | rfl | rfl
  · exact ⟨sub _ (by decide +kernel) (pw _ (by decide +kernel)) (by decide +kernel) (by decide +kernel), List.Perm.refl _⟩
  · exact ⟨sub _ (by decide +kernel) (pw _ (by decide +kernel)) (by decide +kernel) (by decide +kernel), List.Perm.refl _⟩
  · exact ⟨sub _ (by decide +kernel) (pw _ (by decide +kernel)) (by decide +kernel) (by decide +kernel), List.Perm.refl _⟩
  · exact ⟨sub _ (by decide +kernel) (pw _ (by decide +kernel)) (by decide +kernel) (by decide +kernel), List.Perm.refl _⟩
  · exact ⟨sub _ (by decide +kernel) (pw _ (by decide +kernel)) (by decide +kernel) (by decide +kernel), List.Perm.refl _⟩
  · exact ⟨sub _ (by decide +kernel) (pw _ (by decide +kernel)) (by decide +kernel) (by decide +kernel), List.Perm.refl _⟩
  · exact ⟨sub _ (by decide +kernel) (pw _ (by decide +kernel)) (by decide +kernel) (by decide +kernel), by decide +kernel⟩
abbrev sLawMembers : Stmt := top 43
theorem scLawMembers : FnScope ["_law_bag_here", "_law_least", "_law_most", "_law_pool"] ["_law_bag_here", "_law_least", "_law_most"] (defScope sLawMembers) := ⟨rfl, rfl, rfl, by decide +kernel, rfl, by decide +kernel, by decide +kernel⟩
def spMembers : Sp := fun vs H Q _ => ∃ (b : Addr) (r : Nat), vs = [.ref b, .int 1, .int 7] ∧ BagAt (r + 1) b H ∧ ∀ H' p ms, Bk b r H H' → H p = none → LS H' p ms → Ms ms → Q (.ref p) H'
theorem ok_law_members {f : Addr} {fd : FuncData} (F : Fun K "_law_members" "_law_members" sLawMembers f fd) (T : Txt K mg) (D_law_take : Dn P w K mg base CX0 1 "_law_take" ["_law_bag_here", "_law_many"] spTake) : FnOk P w K mg base CX0 2 f fd ["_law_bag_here", "_law_least", "_law_most"] spMembers := by
  refine F.ok scLawMembers (fun vs H Q E h => ?_) (fun cdv A outer s H vs Q E hr h => ?_)
  · obtain ⟨b, r, rfl, _⟩ := h
    rfl
  · obtain ⟨b, r, rfl, hb, k⟩ := h
    refine ⟨_, (pss_cons (ps_set (i := 3) scLawMembers.nd rfl (Or.inl rfl) (pe_lst (pa_cons pe_str (pa_cons pe_str (pa_cons pe_str (pa_cons pe_str (pa_cons pe_str (pa_cons pe_str (pa_cons pe_str (pa_cons pe_str (pa_cons pe_str (pa_cons pe_str (pa_cons pe_str (pa_cons pe_str pa_nil))))))))))))))
        (pss_one (ps_ret (g_sortedS T (pe_slice sl_list (pv 3) po_none (po_some (pe_op op_add (pv 1) (call_dn D_law_take hr (pa_cons (pv 0) (pa_cons (pe_op op_add (pe_op op_sub (pv 2) (pv 1)) pe_int) pa_nil)))))))))), ?_⟩
    refine ⟨(by show 12 ≤ sizeLine; decide), fun l hl => ?_⟩
    have s1 : Same H (upd H l (.lst (pool.map V.str))) := Same.new hl
    have hlb : l ≠ b := hb.neN hl
    show tSeq _ _ _ _ (upd H l (.lst (pool.map V.str)))
    have hL : LS (upd H l (.lst (pool.map V.str))) l pool := upd_same
    generalize upd H l (.lst (pool.map V.str)) = H1 at s1 hL
    refine ⟨_, rfl, _, rfl, _, rfl, ?_⟩
    refine ⟨_, rfl, _, rfl, _, _, rfl, rfl, _, _, rfl, rfl, ?_⟩
    refine ⟨b, 7, r, rfl, hb.on s1, by decide, by decide, fun H2 n k2 hn => ?_⟩
    have kb : Bk b r H H2 := (Bk.of hb s1).trans k2
    have hL2 : LS H2 l pool := k2.keep l _ hlb hL
    refine ⟨_, _, rfl, rfl, _, rfl, _, _, rfl, SqL.of hL2, fun p hp => ?_⟩
    have ec : cutV (pool.map V.str) none (some (1 + (n : Int))) = (pool.take (n + 1)).map V.str := by
      rw [show (1 + (n : Int)) = ((n + 1 : Nat) : Int) by omega, cutTake, List.map_take]
    rw [ec]
    obtain ⟨M, pm⟩ := ms7 (n := n + 1) (by omega) (by omega)
    have hpb : p ≠ b := k2.bag.neN hp
    have k3 : Bk b r H (upd H2 p (.lst ((pool.take (n + 1)).map V.str))) := kb.more (Same.new hp)
    refine ⟨p, pool.take (n + 1), rfl, SqL.of upd_same, by rw [List.length_take]; show min (n + 1) 12 < 64; omega, fun ys q hperm hs hq => ?_⟩
    have e := srt_eq M.srt (hperm.trans pm.symm) hs
    subst e
    exact k _ q _ (k3.more (Same.new hq)) (k3.free hq) upd_same M
end G

set_option maxHeartbeats 4000000
namespace G
open PySem L2
variable {P : Program} {w : World} {K : PySem.W.Frag} {mg : Str → Option Value} {base : Heap}
def oth (ms : List Str) (z : Str) : List Str := ms.filter fun x => decide (x ≠ z)
theorem mem_oth {ms : List Str} {z x : Str} : x ∈ oth ms z ↔ x ∈ ms ∧ x ≠ z := by
  unfold oth
  rw [List.mem_filter]
  simp
theorem oth_len (ms : List Str) (z : Str) : (oth ms z).length ≤ ms.length := List.length_filter_le _ _
theorem oth_take {ms : List Str} {i : Nat} {x : Str} (z : Str) (h : ms[i]? = some x) : oth (ms.take (i + 1)) z = oth (ms.take i) z ++ if x = z then [] else [x] := by
  rw [take_snoc h]
  unfold oth
  rw [List.filter_append]
  by_cases e : x = z
  · rw [if_pos e, List.filter_cons, if_neg (by simp [e])]; rfl
  · rw [if_neg e, List.filter_cons, if_pos (by simpa using e)]; rfl
theorem head_snoc {l : List Str} {a x : Str} (h : l.head? = some a) : (l ++ [x]).head? = some a := by
  cases l with
  | nil => cases h
  | cons b t => exact h
theorem idx_of {ms : List Str} {z : Str} (h : z ∈ ms) : ∃ j : Nat, ms[j]? = some z ∧ ∀ (m : Nat) (z' : Str), m < j → ms[m]? = some z' → z' ≠ z := by
  induction ms with
  | nil => cases h
  | cons a t ih =>
    by_cases e : a = z
    · exact ⟨0, by rw [e]; rfl, fun m z' hm _ => absurd hm (by omega)⟩
    · obtain ⟨j, h1, h2⟩ := ih ((List.mem_cons.mp h).resolve_left fun q => e q.symm)
      refine ⟨j + 1, by simpa using h1, fun m z' hm hz => ?_⟩
      cases m with
      | zero => rw [← show a = z' from by simpa using hz]; exact e
      | succ m => exact h2 m z' (by omega) (by simpa using hz)
theorem last_split {h : List Str} (hne : h ≠ []) : ∃ p z, h = p ++ [z] := by
  rcases List.eq_nil_or_concat h with q | ⟨p, z, q⟩
  · exact absurd q hne
  · exact ⟨p, z, by rw [q, List.concat_eq_append]⟩
theorem at_last1 (p : List Str) (z : Str) : atI ((p ++ [z]).map V.str) (-1) = some (.str z) := by
  rw [List.map_append]
  exact atI_last _ _
theorem at_last2 (p : List Str) (y z : Str) : atI ((p ++ [y] ++ [z]).map V.str) (-2) = some (.str y) := by
  have e : ixN (((p ++ [y] ++ [z]).map V.str).length) (-2) = some p.length := by
    unfold ixN
    have hl : (((p ++ [y] ++ [z]).map V.str).length) = p.length + 2 := by simp
    rw [hl, if_neg (by decide), if_pos (by omega)]
    congr 1
    omega
  unfold atI
  rw [e]
  show ((p ++ [y] ++ [z]).map V.str)[p.length]? = _
  simp
theorem alt_snoc {p : List Str} {z x : Str} (h : GM.Alt (p ++ [z])) (hx : x ≠ z) : GM.Alt (p ++ [z] ++ [x]) := by
  induction p with
  | nil => exact ⟨fun e => hx e.symm, trivial⟩
  | cons a t ih =>
    cases t with
    | nil => exact ⟨h.1, fun e => hx e.symm, trivial⟩
    | cons b t =>
      obtain ⟨h1, h2⟩ := h
      exact ⟨h1, ih h2⟩
theorem alt_last {p : List Str} {y z : Str} (h : GM.Alt (p ++ [y] ++ [z])) : y ≠ z := by
  induction p with
  | nil => exact h.1
  | cons a t ih =>
    cases t with
    | nil => exact ih h.2
    | cons b t => exact ih h.2
/-- values, each a text among xs -/
def Strs (xs : List Str) (vs : List V) : Prop := ∀ v ∈ vs, ∃ z, z ∈ xs ∧ v = .str z
theorem strs_at {xs : List Str} {vs : List V} {n : Nat} (h : Strs xs vs) (hn : n < vs.length) : ∃ z, z ∈ xs ∧ atI vs ((n : Nat) : Int) = some (.str z) := by
  obtain ⟨z, hz, e⟩ := h vs[n] (List.getElem_mem hn)
  exact ⟨z, hz, atI_nat (by rw [List.getElem?_eq_getElem hn, e])⟩
structure Wst (b q o m : Addr) (h os ms : List Str) (H : Hp) (R : Nat) (Hc : Hp) : Prop where
  bk : Bk b R H Hc
  f : LS Hc q h
  o : LS Hc o os
  m : LS Hc m ms
theorem Wst.new {b q o m : Addr} {h os ms : List Str} {H : Hp} {R : Nat} {Hc Hd : Hp} (w : Wst b q o m h os ms H R Hc) (s : Same Hc Hd) : Wst b q o m h os ms H R Hd := ⟨w.bk.more s, Same.ls s w.f, Same.ls s w.o, Same.ls s w.m⟩
theorem Wst.step {b q o m : Addr} {h os ms : List Str} {H : Hp} {R R' : Nat} {Hc Hd : Hp} (w : Wst b q o m h os ms H R Hc) (s : Bk b R' Hc Hd) : Wst b q o m h os ms H R' Hd := ⟨w.bk.trans s, s.ls w.bk.bag w.f, s.ls w.bk.bag w.o, s.ls w.bk.bag w.m⟩
theorem tIf_any {tA : TT} {ta tb : TE} {σ : St} {H : Hp} {Q' : VK} (xs : List Str) (h1 : ∀ Q : VK, (∀ x ∈ xs, Q (.str x) H) → tIf tA ta tb σ H Q) (h2 : ∀ x ∈ xs, Q' (.str x) H) : tIf tA ta tb σ H Q' := h1 Q' h2
abbrev sLawWalk : Stmt := top 44
theorem scLawWalk : FnScope ["_law_bag_here", "_law_members_here", "_law_history", "_law_many", "_law_style", "_law_found", "_law_turn", "_law_others", "_law_back", "_law_after", "_law_some", "_law_member"] ["_law_bag_here", "_law_members_here", "_law_history", "_law_many", "_law_style"] (defScope sLawWalk) := ⟨rfl, rfl, rfl, by decide +kernel, rfl, by decide +kernel, by decide +kernel⟩
def spWalk : Sp := fun vs H Q _ => ∃ (b m h0 : Addr) (many style r : Nat) (ms : List Str) (first : Str), vs = [.ref b, .ref m, .ref h0, .int many, .int style] ∧ BagAt (r + 5 * many) b H ∧ LS H m ms ∧ Ms ms ∧ LS H h0 [first] ∧ first ∈ ms ∧ style < 4 ∧ many ≤ 60 ∧
  ∀ H' p h, Bk b r H H' → H p = none → LS H' p h → h.head? = some first → Hist ms h → h.length ≤ many + 1 → Q (.ref p) H'
theorem ok_law_walk {f : Addr} {fd : FuncData} (F : Fun K "_law_walk" "_law_walk" sLawWalk f fd) (T : Txt K mg) (D_law_take : Dn P w K mg base CX0 1 "_law_take" ["_law_bag_here", "_law_many"] spTake) (D_law_pick : Dn P w K mg base CX0 2 "_law_pick" ["_law_bag_here", "_law_values"] spPick) :
    FnOk P w K mg base CX0 3 f fd ["_law_bag_here", "_law_members_here", "_law_history", "_law_many", "_law_style"] spWalk := by
  refine F.ok scLawWalk (fun vs H Q E h => ?_) (fun cdv A outer s H vs Q E hr h => ?_)
  · obtain ⟨b, m, h0, many, style, r, ms, first, rfl, _⟩ := h
    rfl
  · obtain ⟨b, m, h0, many, style, r, ms, first, rfl, hb, hm, M, hh0, hf, hst, hmany, k⟩ := h
    have h12 := M.l12
    refine ⟨_, (pss_cons (ps_set (i := 5) scLawWalk.nd rfl (Or.inr rfl) (g_list T (pv 2)))
        (pss_cons (ps_for PassesOwn.never rfl (pi_range1 (by rfl) T.range (pa_cons (pv 3) pa_nil)) (pg_name (i := 6) scLawWalk.nd rfl (by first | exact Or.inl rfl | exact Or.inr rfl)) (pss_cons (ps_setLc (i := 7) (own := [("_law_member", 11)]) (g := gName 11) rfl scLawWalk.nd rfl rfl (sw_true rfl rfl rfl (by decide +kernel)) (pi_list (pv 1)) (blkOk_by (N := ["_law_bag_here", "_law_members_here", "_law_history", "_law_many", "_law_style", "_law_found", "_law_turn", "_law_others", "_law_back", "_law_after", "_law_some", "_law_member"]) (sc := defScope sLawWalk) (by decide +kernel)) (fun _ _ _ _ _ => pg_name (i := 11) scLawWalk.nd rfl (by first | exact Or.inl rfl | exact Or.inr rfl)) (fun _ _ _ _ _ => (pts_one (pt_cmpR op_ne (pv 11) (g_ixL T (pv 5) (pe_un un_neg pe_int) (fun _ _ => rfl)) (nomark _)))) (fun _ _ _ _ _ => (pv 11)))
            (pss_one (ps_if (pt_cmpR (op_neL hr.units) (pv 7) (pe_lst pa_nil) (nomark _)) (pss_cons (ps_set (i := 8) scLawWalk.nd rfl (Or.inl rfl) (pe_ifExp (pt_cmpR op_gt (g_lenL T (pv 5)) pe_int (nomark _)) (g_ixL T (pv 5) (pe_un un_neg pe_int) (fun _ _ => rfl)) (g_ixL T (pv 7) pe_int (fun _ _ => rfl))))
              (pss_cons (ps_set (i := 9) scLawWalk.nd rfl (Or.inl rfl) (g_ixL T (pv 7) (pe_op op_mod (pe_bm PySem.F.plainAttrs_list PySem.F.slot_list_index PySem.F.type_list_index mt_index (pv 1) (pa_cons (g_ixL T (pv 5) (pe_un un_neg pe_int) (fun _ _ => rfl)) pa_nil)) (g_lenL T (pv 7))) (fun _ _ => rfl)))
              (pss_cons (ps_set (i := 10) scLawWalk.nd rfl (Or.inl rfl) (pe_lst (pa_cons (call_dn D_law_pick hr (pa_cons (pv 0) (pa_cons (pv 7) pa_nil))) (pa_cons (g_ixL T (pe_lst (pa_cons (pv 8) (pa_cons (call_dn D_law_pick hr (pa_cons (pv 0) (pa_cons (pv 7) pa_nil))) pa_nil))) (call_dn D_law_take hr (pa_cons (pv 0) (pa_cons pe_int pa_nil))) (fun _ _ => rfl)) (pa_cons (pv 9) (pa_cons (g_ixL T (pv 7) pe_int (fun _ _ => rfl)) pa_nil))))))
              (pss_one (ps_expr (pe_bm PySem.F.plainAttrs_list PySem.F.slot_list_append PySem.F.type_list_append mt_append (pv 5) (pa_cons (g_ixL T (pe_lst (pa_cons (g_ixL T (pv 10) (pv 4) (fun _ _ => rfl)) (pa_cons (call_dn D_law_pick hr (pa_cons (pv 0) (pa_cons (pv 7) pa_nil))) pa_nil))) (g_int T (pe_cmpR op_eq (call_dn D_law_take hr (pa_cons (pv 0) (pa_cons pe_int pa_nil))) pe_int (nomark _))) (fun _ _ => rfl)) pa_nil))))))) pss_nil))))
        (pss_one (ps_ret (pv 5))))), ?_⟩
    refine ⟨_, rfl, h0, _, rfl, Or.inl (SqL.of hh0), fun q hq => ?_⟩
    have hqb : q ≠ b := hb.neN hq
    refine ⟨_, rfl, many, rfl, by omega, by omega, for_it (walk_range) (fun i σ H' => (∃ v1 v2 v3 v4 v5 v6, σ = [some (.ref b), some (.ref m), some (.ref h0), some (.int many), some (.int style), some (.ref q), v1, v2, v3, v4, v5, v6]) ∧ ∃ h, Bk b (r + 5 * (many - i)) H H' ∧ LS H' q h ∧ h.head? = some first ∧ (∀ x ∈ h, x ∈ ms) ∧ GM.Alt h ∧ h.length ≤ i + 1)
      ⟨⟨_, _, _, _, _, _, rfl⟩, [first], Bk.of hb (Same.new hq), upd_same, rfl, fun x hx => by rw [List.mem_singleton.mp hx]; exact hf, trivial, Nat.le_refl _⟩ (fun _ _ _ _ _ => trivial) ?_ ?_⟩
    · rintro i x σ H' H'' hi ⟨⟨v1, v2, v3, v4, v5, v6, rfl⟩, h, kb, hqh, hhd, hmem, halt, hlen⟩ ⟨rfl, rfl⟩
      rw [Int.toNat_natCast] at hi
      have hne : h ≠ [] := fun e => by rw [e] at hhd; cases hhd
      obtain ⟨hp, z, rfl⟩ := last_split hne
      have hz : z ∈ ms := hmem z (by simp)
      have hm1 : LS H'' m ms := kb.ls hb hm
      -- others
      refine ⟨_, rfl, m, rfl, ⟨_, SqL.of hm1⟩, lc_pure (walk_list (xs := ms.map V.str)) (fun i => (oth (ms.take i) z).map V.str) rfl (fun _ e => SqL.of (Same.ls e hm1)) (fun D j x H1 H2 hj hD s1 d1 y => ?_) (fun o H1 ho0 s1 d1 => ?_)⟩
      · obtain ⟨rfl, hx⟩ := y
        obtain ⟨x', hx', rfl, hxm⟩ := at_str hx
        refine ⟨rfl, ⟨_, rfl, _, rfl, _, rfl, q, _, _, .str z, rfl, rfl, SqL.of (Same.ls s1 hqh), at_last1 hp z, rfl, _, rfl, ?_⟩⟩
        have hsm : ((oth (ms.take j) z).map V.str).length ≤ 100 := by
          rw [List.length_map]
          have := oth_len (ms.take j) z
          rw [List.length_take] at this
          omega
        by_cases e : x' = z
        · rw [decide_eq_true (show V.str x' = V.str z by rw [e])]
          refine ⟨s1, ?_⟩
          rw [oth_take z hx', if_pos e, List.append_nil]
          exact d1
        · rw [decide_eq_false (show ¬ V.str x' = V.str z from fun q => e (V.str.inj q))]
          refine ⟨_, rfl, ?_⟩
          refine lcY hD s1 d1 (Same.refl _) (small (by omega)) ?_
          rw [oth_take z hx', if_neg e, List.map_append]; rfl
      · rw [List.length_map, List.take_length] at d1
        have d1 : LS H1 o (oth ms z) := d1
        have w1 : Wst b q o m (hp ++ [z]) (oth ms z) ms H (r + 5 * (many - i)) H1 := ⟨kb.more s1, Same.ls s1 hqh, d1, Same.ls s1 hm1⟩
        refine ⟨_, rfl, Nat.zero_le _, fun e he => ?_⟩
        have w2 := w1.new (Same.new (o := .lst []) he)
        have ee : upd H1 e (.lst []) e = some (.lst []) := upd_same
        generalize upd H1 e (.lst []) = H2 at w2 ee
        have hom : ∀ x ∈ oth ms z, x ∈ ms := fun x hx => (mem_oth.mp hx).1
        refine ⟨o, e, oth ms z, [], rfl, rfl, w2.o, ee, M.sOkL hom, (fun _ z => nomatch z), _, rfl, ?_⟩
        by_cases hoe : oth ms z = []
        · refine iteNS hoe ⟨⟨_, _, _, _, _, _, rfl⟩, hp ++ [z], w2.bk.less (by omega), w2.f, hhd, hmem, halt, by omega⟩
        · refine iteNT hoe ?_
          have hol := oth_len ms z
          obtain ⟨o0, ho00, ho0m⟩ : ∃ x, (oth ms z)[0]? = some x ∧ x ∈ oth ms z := by
            cases q : oth ms z with
            | nil => exact absurd q hoe
            | cons a t => exact ⟨a, rfl, List.mem_cons_self ..⟩
          have at0 : atI ((oth ms z).map V.str) 0 = some (.str o0) := atI_nat (j := 0) (by rw [List.getElem?_map, ho00]; rfl)
          have hR : r + 5 * (many - i) = r + 5 * (many - (i + 1)) + 5 := by omega
          rw [hR] at w2
          have o1000 : (oth ms z).length ≤ 1000 := by omega
          -- back
          refine tIf_any (oth ms z) (fun Q hQ => ?_) (fun bk hbk => ?_)
          · refine ⟨_, rfl, q, _, rfl, Or.inl (SqL.of w2.f), _, _, rfl, rfl, _, rfl, ?_⟩
            rcases (show hp = [] ∨ ∃ p y, hp = p ++ [y] from (List.eq_nil_or_concat hp).imp id fun ⟨p, y, e⟩ => ⟨p, y, by rw [e, List.concat_eq_append]⟩) with e | ⟨p, y, e⟩
            · refine iteDF (by rw [e]; simp) ?_
              exact ⟨_, rfl, o, _, _, .str o0, rfl, rfl, SqL.of w2.o, at0, hQ o0 ho0m⟩
            · refine iteDT (by rw [e]; simp; omega) ?_
              have hbk : y ∈ oth ms z := mem_oth.mpr ⟨hmem y (by rw [e]; simp), alt_last (by rw [← e]; exact halt)⟩
              exact ⟨_, rfl, _, rfl, q, _, _, .str y, rfl, rfl, SqL.of w2.f, by rw [e]; exact at_last2 p y z, hQ y hbk⟩
          · -- after
            obtain ⟨jx, hjx, hjm⟩ := idx_of hz
            obtain ⟨na, ena, hna⟩ := modN (i := ((jx : Nat) : Int)) (List.length_pos_iff.mpr hoe)
            obtain ⟨af, hafm, _, hafa⟩ := ixM hna
            refine ⟨_, rfl, _, rfl, Or.inl ⟨rfl, _, SqL.of w2.m⟩, _, rfl, _, rfl, q, _, _, .str z, rfl, rfl, SqL.of w2.f, at_last1 hp z, m, ms.map V.str, .str z, jx, .str z, rfl, rfl, SqL.of w2.m, rfl, flat_strs ms, by rw [List.getElem?_map, hjx]; rfl, ?_, ?_, ?_⟩
            · show (z == z) = true
              simp
            · intro mm z' hmm hz'
              rw [List.getElem?_map] at hz'
              cases qq : ms[mm]? with
              | none => rw [qq] at hz'; cases hz'
              | some u =>
                rw [qq] at hz'
                rw [← Option.some.inj hz']
                show (u == z) = false
                simpa using hjm mm u hmm qq
            · refine ⟨_, rfl, o, _, rfl, Or.inl (SqL.of w2.o), _, _, rfl, rfl, by rw [List.length_map]; have := List.length_pos_iff.mpr hoe; omega, ?_⟩
              refine ⟨o, _, _, .str af, rfl, rfl, SqL.of w2.o, by rw [List.length_map, ena]; exact hafa, ?_⟩
              -- some
              refine ⟨_, rfl, _, rfl, b, o, _, oth ms z, rfl, w2.bk.bag, w2.o, hoe, o1000, fun H3 p1 k3 hp1 => ?_⟩
              have w3 := w2.step k3
              refine ⟨_, rfl, _, rfl, _, rfl, b, o, _, oth ms z, rfl, w3.bk.bag, w3.o, hoe, o1000, fun H4 p2 k4 hp2 => ⟨by show 2 ≤ sizeLine; decide, fun l1 hl1 => ?_⟩⟩
              have w4 := (w3.step k4).new (Same.new (o := .lst [V.str bk, V.str p2]) hl1)
              have l1b : l1 ≠ b := k4.bag.neN hl1
              have el1 : LS (upd H4 l1 (.lst [V.str bk, V.str p2])) l1 [bk, p2] := upd_same
              generalize upd H4 l1 (.lst [V.str bk, V.str p2]) = H5 at ⊢ w4 el1
              refine ⟨_, rfl, b, 2, _, rfl, w4.bk.bag, by decide, by decide, fun H6 n1 k6 hn1 => ?_⟩
              have w6 := w4.step k6
              obtain ⟨c1, hc1, _, hc1a⟩ := ixM (xs := [bk, p2]) hn1
              have hc1m : c1 ∈ oth ms z := by
                rcases List.mem_cons.mp hc1 with e | e
                · rw [e]; exact hbk
                · rw [List.mem_singleton.mp e]; exact hp2
              refine ⟨l1, _, _, .str c1, rfl, rfl, SqL.of (k6.keep l1 _ l1b el1), hc1a, _, rfl, _, rfl, o, _, _, .str o0, rfl, rfl, SqL.of w6.o, at0, by show 4 ≤ sizeLine; decide, fun l2 hl2 => ?_⟩
              have l2b : l2 ≠ b := k6.bag.neN hl2
              have w7 := w6.new (Same.new (o := .lst [V.str p1, V.str c1, V.str af, V.str o0]) hl2)
              have el2 : LS (upd H6 l2 (.lst [V.str p1, V.str c1, V.str af, V.str o0])) l2 [p1, c1, af, o0] := upd_same
              generalize upd H6 l2 (.lst [V.str p1, V.str c1, V.str af, V.str o0]) = H7 at ⊢ w7 el2
              -- found.append
              obtain ⟨s1v, hs1, _, hs1a⟩ := ixM (xs := [p1, c1, af, o0]) (n := style) hst
              have hs1m : s1v ∈ oth ms z := by
                rcases List.mem_cons.mp hs1 with e | e
                · rw [e]; exact hp1
                · rcases List.mem_cons.mp e with e | e
                  · rw [e]; exact hc1m
                  · rcases List.mem_cons.mp e with e | e
                    · rw [e]; exact hafm
                    · rw [List.mem_singleton.mp e]; exact ho0m
              refine ⟨_, rfl, Or.inl ⟨rfl, _, SqL.of w7.f⟩, _, rfl, _, rfl, l2, _, _, .str s1v, rfl, rfl, SqL.of el2, hs1a, ?_⟩
              refine ⟨_, rfl, _, rfl, b, o, _, oth ms z, rfl, w7.bk.bag, w7.o, hoe, o1000, fun H8 p3 k8 hp3 => ⟨by show 2 ≤ sizeLine; decide, fun l3 hl3 => ?_⟩⟩
              have l3b : l3 ≠ b := k8.bag.neN hl3
              have w8 := (w7.step k8).new (Same.new (o := .lst [V.str s1v, V.str p3]) hl3)
              have el3 : LS (upd H8 l3 (.lst [V.str s1v, V.str p3])) l3 [s1v, p3] := upd_same
              generalize upd H8 l3 (.lst [V.str s1v, V.str p3]) = H9 at ⊢ w8 el3
              refine ⟨_, rfl, b, 4, _, rfl, w8.bk.bag, by decide, by decide, fun H10 n2 k10 hn2 => ?_⟩
              have w10 := w8.step k10
              have el3' := k10.keep l3 _ l3b el3
              have fin : ∀ (kx : Nat), kx < 2 → ∃ s2, s2 ∈ oth ms z ∧ atI ([s1v, p3].map V.str) ((kx : Nat) : Int) = some (.str s2) := fun kx hkx => by
                obtain ⟨s2, hs2, _, hs2a⟩ := ixM (xs := [s1v, p3]) (n := kx) hkx
                refine ⟨s2, ?_, hs2a⟩
                rcases List.mem_cons.mp hs2 with e | e
                · rw [e]; exact hs1m
                · rw [List.mem_singleton.mp e]; exact hp3
              refine ⟨rfl, Or.inr ⟨_, rfl, ?_⟩⟩
              have last : ∀ s2 : Str, s2 ∈ oth ms z → ∀ w1 w2 w3 w4 w5 w6, (∃ v1 v2 v3 v4 v5 v6, [some (V.ref b), some (V.ref m), some (V.ref h0), some (V.int many), some (V.int style), some (V.ref q), w1, w2, w3, w4, w5, w6] = [some (V.ref b), some (V.ref m), some (V.ref h0), some (V.int many), some (V.int style), some (V.ref q), v1, v2, v3, v4, v5, v6]) ∧
                  ∃ h, Bk b (r + 5 * (many - (i + 1))) H (upd H10 q (.lst ((hp ++ [z]).map V.str ++ [V.str s2]))) ∧ LS (upd H10 q (.lst ((hp ++ [z]).map V.str ++ [V.str s2]))) q h ∧ h.head? = some first ∧ (∀ x ∈ h, x ∈ ms) ∧ GM.Alt h ∧ h.length ≤ i + 1 + 1 := fun s2 hs2 w1 w2 w3 w4 w5 w6 => by
                obtain ⟨q1, q2⟩ := mem_oth.mp hs2
                refine ⟨⟨_, _, _, _, _, _, rfl⟩, hp ++ [z] ++ [s2], w10.bk.mut hq hqb, ?_, head_snoc hhd, fun x hx => ?_, alt_snoc halt q2, ?_⟩
                · show upd H10 q _ q = _
                  rw [upd_same, List.map_append (l₁ := hp ++ [z])]; rfl
                · rcases List.mem_append.mp hx with e | e
                  · exact hmem x e
                  · rw [List.mem_singleton.mp e]; exact q1
                · rw [List.length_append, List.length_singleton]; omega
              have hsz : ((hp ++ [z]).map V.str).length < sizeLine := small (by rw [List.length_map]; omega)
              by_cases e : V.int (n2 : Nat) = V.int 0
              · rw [decide_eq_true e]
                obtain ⟨s2, hs2, hat⟩ := fin 1 (by decide)
                exact ⟨l3, _, _, .str s2, rfl, rfl, SqL.of el3', hat, q, _, _, rfl, rfl, w10.f, hsz, last s2 hs2 _ _ _ _ _ _⟩
              · rw [decide_eq_false e]
                obtain ⟨s2, hs2, hat⟩ := fin 0 (by decide)
                exact ⟨l3, _, _, .str s2, rfl, rfl, SqL.of el3', hat, q, _, _, rfl, rfl, w10.f, hsz, last s2 hs2 _ _ _ _ _ _⟩
    · rintro σ H' ⟨⟨v1, v2, v3, v4, v5, v6, rfl⟩, h, kb, hqh, hhd, hmem, halt, hlen⟩
      rw [Int.toNat_natCast] at kb hlen
      have hne : h ≠ [] := fun e => by rw [e] at hhd; cases hhd
      exact ⟨_, rfl, k H' q h (kb.less (by omega)) hq hqh hhd ⟨hne, hmem, halt, by omega⟩ hlen⟩
end G

set_option maxHeartbeats 4000000
namespace G
open PySem L2
variable {P : Program} {w : World} {K : PySem.W.Frag} {mg : Str → Option Value} {base : Heap}
theorem perm_pop {fs lf xs : List Str} {n : Nat} {x : Str} (h : (fs ++ lf).Perm xs) (hx : lf[n]? = some x) : ((fs ++ [x]) ++ lf.eraseIdx n).Perm xs := by
  refine List.Perm.trans ?_ h
  rw [List.append_assoc]
  refine List.Perm.append_left fs ?_
  have e : lf.Perm (x :: lf.eraseIdx n) := by
    obtain ⟨a, b⟩ := List.getElem?_eq_some_iff.mp hx
    rw [List.eraseIdx_eq_take_drop_succ]
    have e : lf = lf.take n ++ x :: lf.drop (n + 1) := by
      rw [← b, List.getElem_cons_drop, List.take_append_drop]
    exact List.Perm.trans (List.Perm.of_eq e) List.perm_middle
  exact e.symm
theorem map_erase {α β : Type} (f : α → β) : ∀ (l : List α) (j : Nat), (l.eraseIdx j).map f = (l.map f).eraseIdx j
  | [], _ => rfl
  | _ :: _, 0 => rfl
  | x :: l, j + 1 => by
    show f x :: (l.eraseIdx j).map f = f x :: (l.map f).eraseIdx j
    rw [map_erase f l j]
theorem seqIx {n m : Nat} (h : n < m) : seqIndex? ((n : Nat) : Int) m = some n := by
  have e : ixN m ((n : Nat) : Int) = some n := by
    unfold ixN
    rw [if_pos (by omega), if_pos (by omega), Int.toNat_natCast]
  exact (ixN_seq e).1
abbrev sLawShuffled : Stmt := top 49
theorem scLawShuffled : FnScope ["_law_bag_here", "_law_values", "_law_left", "_law_found"] ["_law_bag_here", "_law_values"] (defScope sLawShuffled) := ⟨rfl, rfl, rfl, by decide +kernel, rfl, by decide +kernel, by decide +kernel⟩
def spShuf : Sp := fun vs H Q _ => ∃ (b a : Addr) (r : Nat) (xs : List Str), vs = [.ref b, .ref a] ∧ BagAt (r + xs.length) b H ∧ LS H a xs ∧ SOk xs ∧ xs.length ≤ 1000 ∧ ∀ H' p ys, Bk b r H H' → H p = none → LS H' p ys → ys.Perm xs → Q (.ref p) H'
theorem ok_law_shuffled {f : Addr} {fd : FuncData} (F : Fun K "_law_shuffled" "_law_shuffled" sLawShuffled f fd) (T : Txt K mg) (D_law_take : Dn P w K mg base CX0 1 "_law_take" ["_law_bag_here", "_law_many"] spTake) : FnOk P w K mg base CX0 2 f fd ["_law_bag_here", "_law_values"] spShuf := by
  refine F.ok scLawShuffled (fun vs H Q E h => ?_) (fun cdv A outer s H vs Q E hr h => ?_)
  · obtain ⟨b, a, r, xs, rfl, _⟩ := h
    rfl
  · obtain ⟨b, a, r, xs, rfl, hb, ha, so, hl, k⟩ := h
    refine ⟨_, (pss_cons (ps_par (i := 2) (j := 3) (by rfl) scLawShuffled.nd rfl rfl (by decide) rfl rfl (pa_cons (g_list T (pv 1)) (pa_cons (pe_lst pa_nil) pa_nil)) (by rfl))
        (pss_cons (ps_while PassesOwn.never (pt_cmpR (op_neL hr.units) (pv 2) (pe_lst pa_nil) (nomark _)) (pss_one (ps_expr (pe_bm PySem.F.plainAttrs_list PySem.F.slot_list_append PySem.F.type_list_append mt_append (pv 3) (pa_cons (pe_bm PySem.F.plainAttrs_list PySem.F.slot_list_pop PySem.F.type_list_pop mt_popAt (pv 2) (pa_cons (call_dn D_law_take hr (pa_cons (pv 0) (pa_cons (g_lenL T (pv 2)) pa_nil))) pa_nil)) pa_nil)))))
        (pss_one (ps_ret (pv 3))))), ?_⟩
    refine ⟨_, rfl, a, _, rfl, Or.inl (SqL.of ha), fun l hl0 => ⟨Nat.zero_le _, fun f hf0 => ?_⟩⟩
    have hlb : l ≠ b := hb.neN hl0
    have s1 : Same H (upd H l (.lst (xs.map V.str))) := Same.new hl0
    have hfl : l ≠ f := ne_of_none (show upd H l (.lst (xs.map V.str)) l = some _ from upd_same) hf0
    have hf1 : H f = none := Same.free s1 hf0
    have hfb : f ≠ b := hb.neN hf1
    have s2 : Same H (upd (upd H l (.lst (xs.map V.str))) f (.lst [])) := Same.trans s1 (Same.new hf0)
    refine ⟨_, _, rfl, ?_⟩
    refine ⟨fun n σ H' => ∃ lf fs, σ = [some (.ref b), some (.ref a), some (.ref l), some (.ref f)] ∧ Bk b (r + lf.length) H H' ∧ LS H' l lf ∧ LS H' f fs ∧ (fs ++ lf).Perm xs ∧ lf.length = n, ⟨xs.length, xs, [], rfl, Bk.of hb s2, ?_, upd_same, List.Perm.refl _, rfl⟩, ?_⟩
    · show upd _ f _ l = _
      rw [upd_ne hfl, upd_same]
    · rintro n σ H' ⟨lf, fs, rfl, kb, hL, hF, hp, hn⟩
      have sol : SOk lf := fun x hx => so x (hp.mem_iff.mp (List.mem_append_right _ hx))
      have len1 : fs.length + lf.length = xs.length := by rw [← hp.length_eq, List.length_append]
      refine ⟨_, rfl, Nat.zero_le _, fun e he => ⟨l, e, lf, [], rfl, rfl, Same.ls (Same.new he) hL, upd_same, sol, (fun _ q => nomatch q), _, rfl, ?_⟩⟩
      have kb2 := kb.more (Same.new (o := .lst []) he)
      have hL2 := Same.ls (Same.new (o := .lst []) he) hL
      have hF2 := Same.ls (Same.new (o := .lst []) he) hF
      generalize upd H' e (.lst []) = H2 at kb2 hL2 hF2 ⊢
      by_cases c : lf = []
      · refine iteNS c ⟨_, rfl, k H2 f fs (kb2.less (by omega)) hf1 hF2 ?_⟩
        rw [c, List.append_nil] at hp; exact hp
      · refine iteNT c ?_
        obtain ⟨n', hn'⟩ : ∃ n', lf.length = n' + 1 := ⟨lf.length - 1, by have := List.length_pos_iff.mpr c; omega⟩
        rw [hn'] at kb2
        refine ⟨fun σ' H3 => ∃ lf fs, σ' = [some (.ref b), some (.ref a), some (.ref l), some (.ref f)] ∧ Bk b (r + lf.length) H H3 ∧ LS H3 l lf ∧ LS H3 f fs ∧ (fs ++ lf).Perm xs ∧ lf.length = n', fun σ' H3 q => ⟨n', by omega, q⟩, ?_⟩
        refine ⟨_, rfl, Or.inl ⟨rfl, _, SqL.of hF2⟩, _, rfl, Or.inl ⟨rfl, _, SqL.of hL2⟩, _, rfl, _, rfl, l, _, rfl, Or.inl (SqL.of hL2), b, lf.length, r + n', by rw [List.length_map]; rfl, kb2.bag, by omega, by omega, fun H3 j k3 hj => ?_⟩
        obtain ⟨x, hx, hxj, _⟩ := ixM hj
        have hL3 := k3.keep l _ hlb hL2
        have hF3 := k3.keep f _ hfb hF2
        refine ⟨l, _, _, j, .str x, rfl, rfl, hL3, by omega, by omega, by rw [List.length_map]; exact seqIx hj, by rw [List.getElem?_map, hxj]; rfl, ?_⟩
        have hF4 : LS (upd H3 l (.lst ((lf.map V.str).eraseIdx j))) f fs := by
          show upd H3 l _ f = _
          rw [upd_ne hfl.symm]; exact hF3
        refine ⟨f, _, _, rfl, rfl, hF4, small (by rw [List.length_map]; omega), ?_⟩
        have el : (lf.eraseIdx j).length = n' := by rw [List.length_eraseIdx, if_pos hj]; omega
        refine ⟨lf.eraseIdx j, fs ++ [x], rfl, ?_, ?_, ?_, perm_pop hp hxj, el⟩
        · rw [el]
          exact ((kb2.trans k3).mut hl0 hlb).mut hf1 hfb
        · show upd (upd H3 l _) f _ l = _
          rw [upd_ne hfl, upd_same]
          refine congrArg (fun l => some (HO.lst l)) ?_
          rw [map_erase]
        · show upd (upd H3 l _) f _ f = _
          rw [upd_same, List.map_append]; rfl
theorem tInt_any {ta : TA} {σ : St} {H : Hp} {Q' : VK} (kn : Nat) (h1 : ∀ Q : VK, Q (.int (kn : Nat)) H → tCB rInt ta σ H Q) (h2 : Q' (.int (kn : Nat)) H) : tCB rInt ta σ H Q' := h1 Q' h2
abbrev sLawReordered : Stmt := top 50
theorem scLawReordered : FnScope ["_law_bag_here", "_law_members_here", "_law_first", "_law_lists_here", "_law_found", "_law_member", "_law_kept"] ["_law_bag_here", "_law_members_here", "_law_first", "_law_lists_here"] (defScope sLawReordered) := ⟨rfl, rfl, rfl, by decide +kernel, rfl, by decide +kernel, by decide +kernel⟩
/-- the same names; but for the first holder's list, the same first entry -/
structure Reo (ms : List Str) (first : Str) (L L' : Str → List Str) : Prop where
  perm : ∀ x ∈ ms, (L' x).Perm (L x)
  hd : ∀ x ∈ ms, x ≠ first → (L' x).head? = (L x).head?
theorem reo_one {xs ys : List Str} {kn : Nat} (h : ys.Perm (xs.drop kn)) : (xs.take kn ++ ys).Perm xs := by
  have := List.Perm.append_left (xs.take kn) h
  rw [List.take_append_drop] at this
  exact this
theorem reo_hd {xs ys : List Str} (h : ys.Perm (xs.drop 1)) : (xs.take 1 ++ ys).head? = xs.head? := by
  cases xs with
  | nil =>
    have : ys = [] := List.Perm.eq_nil h
    rw [this]; rfl
  | cons a t => rfl
def spReord : Sp := fun vs H Q _ => ∃ (b m d : Addr) (first : Str) (r : Nat) (ms : List Str) (ad : Str → Addr) (L : Str → List Str), vs = [.ref b, .ref m, .str first, .ref d] ∧ BagAt (r + 2400) b H ∧ LS H m ms ∧ Ms ms ∧ DL H d ms ad L ∧ LsOk ms L ∧
  ∀ H' d' ad' L', Bk b r H H' → H d' = none → DL H' d' ms ad' L' → Reo ms first L L' → Q (.ref d') H'
theorem ok_law_reordered {f : Addr} {fd : FuncData} (F : Fun K "_law_reordered" "_law_reordered" sLawReordered f fd) (T : Txt K mg) (D_law_shuffled : Dn P w K mg base CX0 2 "_law_shuffled" ["_law_bag_here", "_law_values"] spShuf) : FnOk P w K mg base CX0 3 f fd ["_law_bag_here", "_law_members_here", "_law_first", "_law_lists_here"] spReord := by
  refine F.ok scLawReordered (fun vs H Q E h => ?_) (fun cdv A outer s H vs Q E hr h => ?_)
  · obtain ⟨b, m, d, first, r, ms, ad, L, rfl, _⟩ := h
    rfl
  · obtain ⟨b, m, d, first, r, ms, ad, L, rfl, hb, hm, M, hd, Lo, k⟩ := h
    have hu := hu_of hr
    have h12 := M.l12
    refine ⟨_, (pss_cons (ps_set (i := 4) scLawReordered.nd rfl (Or.inl rfl) pe_dnewK)
        (pss_cons (ps_for PassesOwn.never rfl (pi_list (pv 1)) (pg_name (i := 5) scLawReordered.nd rfl (by first | exact Or.inl rfl | exact Or.inr rfl)) (pss_cons (ps_set (i := 6) scLawReordered.nd rfl (Or.inl rfl) (g_int T (pe_cmpR op_ne (pv 5) (pv 2) (nomark _))))
            (pss_one (ps_dput hu (pv 4) (pv 5) (pe_op op_cat (pe_slice sl_list (pe_dget hu (pv 3) (pv 5) (fun _ _ => rfl)) po_none (po_some (pv 6))) (call_dn D_law_shuffled hr (pa_cons (pv 0) (pa_cons (pe_slice sl_list (pe_dget hu (pv 3) (pv 5) (fun _ _ => rfl)) (po_some (pv 6)) po_none) pa_nil)))) rfl))))
        (pss_one (ps_ret (pv 4))))), ?_⟩
    intro e he
    have heb : e ≠ b := hb.neN he
    refine ⟨_, rfl, m, rfl, ⟨_, SqL.of (Same.ls (Same.new he) hm)⟩, for_it (walk_list (xs := ms.map V.str)) (fun i σ H' => (∃ u v, σ = [some (.ref b), some (.ref m), some (.str first), some (.ref d), some (.ref e), u, v]) ∧ ∃ ad' L', Bk b (r + 200 * (ms.length - i)) H H' ∧ DL H' e (ms.take i) ad' L' ∧ (∀ x ∈ ms.take i, H (ad' x) = none) ∧ Reo (ms.take i) first L L')
      ⟨⟨_, _, rfl⟩, fun _ => 0, fun _ => [], (Bk.of hb (Same.new he)).less (by omega), ⟨upd_same, fun x hx => absurd hx (by simp)⟩, fun x hx => absurd hx (by simp), ⟨fun x hx => absurd hx (by simp), fun x hx => absurd hx (by simp)⟩⟩ (fun i σ H' _ ⟨_, _, _, kb, _⟩ => SqL.of (kb.ls hb hm)) ?_ ?_⟩
    · rintro i x σ H' H'' hi ⟨⟨u, v, rfl⟩, ad', L', kb, hE, h0, R⟩ y
      obtain ⟨rfl, hx⟩ := y
      obtain ⟨z, hz, rfl, hzm⟩ := at_str hx
      rw [List.length_map] at hi
      have hno : z ∉ ms.take i := nd_take M.nd hz
      have hD := kb.dl hb hd
      refine tInt_any (if z = first then 0 else 1) (fun Q hQ => ?_) ?_
      · refine ⟨_, rfl, _, rfl, rfl, ?_⟩
        by_cases c : z = first
        · rw [decide_eq_true (show V.str z = V.str first by rw [c])]
          rw [if_pos c] at hQ
          exact Or.inr ⟨_, rfl, hQ⟩
        · rw [decide_eq_false (show ¬ V.str z = V.str first from fun q => c (V.str.inj q))]
          rw [if_neg c] at hQ
          exact Or.inr ⟨_, rfl, hQ⟩
      · have hkn : ∀ kn, kn = (if z = first then 0 else 1) → z ≠ first → kn = 1 := fun kn e1 e2 => by rw [e1, if_neg e2]
        generalize hk : (if z = first then 0 else 1) = kn at *
        have zl := Lo.len z hzm
        refine ⟨_, rfl, _, rfl, d, _, rfl, dget hD.dk hzm, _, rfl, _, rfl, ad z, _, rfl, SqL.of (hD.l z hzm), fun p hp => ?_⟩
        rw [cutTake, ← List.map_take]
        have kb2 := kb.more (Same.new (o := .lst (((L z).take kn).map V.str)) hp)
        have hE2 := hE.on (Same.new (o := .lst (((L z).take kn).map V.str)) hp)
        have hD2 := hD.on (Same.new (o := .lst (((L z).take kn).map V.str)) hp)
        have e2 : LS (upd H'' p (.lst (((L z).take kn).map V.str))) p ((L z).take kn) := upd_same
        have hpb : p ≠ b := kb.bag.neN hp
        generalize upd H'' p (.lst (((L z).take kn).map V.str)) = H2 at kb2 hE2 hD2 e2 ⊢
        refine ⟨_, rfl, _, rfl, _, rfl, d, _, rfl, dget hD2.dk hzm, _, rfl, _, rfl, ad z, _, rfl, SqL.of (hD2.l z hzm), fun p2 hp2 => ?_⟩
        rw [cutDrop, ← List.map_drop]
        have kb3 := kb2.more (Same.new (o := .lst (((L z).drop kn).map V.str)) hp2)
        have hE3 := hE2.on (Same.new (o := .lst (((L z).drop kn).map V.str)) hp2)
        have e3 : LS (upd H2 p2 (.lst (((L z).drop kn).map V.str))) p ((L z).take kn) := Same.ls (Same.new hp2) e2
        have f3 : LS (upd H2 p2 (.lst (((L z).drop kn).map V.str))) p2 ((L z).drop kn) := upd_same
        generalize upd H2 p2 (.lst (((L z).drop kn).map V.str)) = H3 at kb3 hE3 e3 f3 ⊢
        have hdl : ((L z).drop kn).length ≤ 200 := by rw [List.length_drop]; omega
        have hR : r + 200 * (ms.length - i) = r + 200 * (ms.length - (i + 1)) + 200 := by omega
        rw [hR] at kb3
        refine ⟨b, p2, r + 200 * (ms.length - (i + 1)), (L z).drop kn, rfl, kb3.bag.less (by omega), f3, M.sOkL (fun x hx => (Lo.ok z hzm x (List.mem_of_mem_drop hx)).1), by omega, fun H5 q ys k5 hq hys hperm => ?_⟩
        have kb5 := kb3.trans k5
        have hE5 := k5.dl kb3.bag hE3
        have e5 := k5.ls kb3.bag e3
        have ylen : ys.length ≤ 200 := by rw [hperm.length_eq]; exact hdl
        refine ⟨p, q, _, _, rfl, rfl, e5, hys, smallE (by rw [List.length_map, List.length_map, List.length_take]; omega), fun s hs => ?_⟩
        rw [← List.map_append]
        have kb6 := kb5.more (Same.new (o := .lst (((L z).take kn ++ ys).map V.str)) hs)
        have hE6 := hE5.on (Same.new (o := .lst (((L z).take kn ++ ys).map V.str)) hs)
        have s6 : LS (upd H5 s (.lst (((L z).take kn ++ ys).map V.str))) s ((L z).take kn ++ ys) := upd_same
        have adS : ∀ x ∈ ms.take i, ad' x ≠ s := fun x hx => ne_of_none (hE5.l x hx) hs
        have hs0 : H s = none := kb5.free hs
        generalize upd H5 s (.lst (((L z).take kn ++ ys).map V.str)) = H6 at kb6 hE6 s6 ⊢
        refine ⟨_, rfl, _, rfl, e, _, rfl, DPut.k (k := Sum.inr z) hE6.dk (small (by rw [kvM_len, List.length_take]; omega)), ⟨_, _, rfl⟩, fun x => if x = z then s else ad' x, fun x => if x = z then (L z).take kn ++ ys else L' x, kb6.mut he heb, ?_, ?_, ?_⟩
        · have xz : ∀ x ∈ ms.take i, x ≠ z := fun x hx q => hno (q ▸ hx)
          rw [take_snoc hz]
          refine ⟨?_, fun x hx => ?_⟩
          · show upd _ e _ e = _
            rw [upd_same, putK_new' _ hno, kvM_snoc, if_pos rfl]
            rw [kvM_congr (f := fun x => V.ref (ad' x)) (g := fun x => V.ref (if x = z then s else ad' x)) fun x hx => by rw [if_neg (xz x hx)]]
          · show upd _ e _ (if x = z then s else ad' x) = some (HO.lst ((if x = z then (L z).take kn ++ ys else L' x).map V.str))
            rcases List.mem_append.mp hx with q | q
            · rw [if_neg (xz x q), if_neg (xz x q), upd_ne (ne_of (hE6.l x q) hE6.dk (fun z => nomatch z))]
              exact hE6.l x q
            · rw [if_pos (List.mem_singleton.mp q), if_pos (List.mem_singleton.mp q), upd_ne (ne_of s6 hE6.dk (fun z => nomatch z))]
              exact s6
        · intro x hx
          show H (if x = z then s else ad' x) = none
          split
          · exact hs0
          · rename_i c
            rw [take_snoc hz] at hx
            exact h0 x ((List.mem_append.mp hx).resolve_right fun q => c (List.mem_singleton.mp q))
        · rw [take_snoc hz]
          refine ⟨fun x hx => ?_, fun x hx hxf => ?_⟩
          · show (if x = z then (L z).take kn ++ ys else L' x).Perm (L x)
            split
            · rename_i c; subst c; exact reo_one hperm
            · rename_i c; exact R.perm x ((List.mem_append.mp hx).resolve_right fun q => c (List.mem_singleton.mp q))
          · show (if x = z then (L z).take kn ++ ys else L' x).head? = (L x).head?
            split
            · rename_i c
              subst c
              have e1 := hkn kn rfl hxf
              subst e1
              exact reo_hd hperm
            · rename_i c; exact R.hd x ((List.mem_append.mp hx).resolve_right fun q => c (List.mem_singleton.mp q)) hxf
    · rintro σ H' ⟨⟨u, v, rfl⟩, ad', L', kb, hE, h0, R⟩
      rw [List.length_map, List.take_length] at hE R
      exact ⟨_, rfl, k H' e ad' L' (kb.less (by omega)) he hE R⟩
end G

set_option maxHeartbeats 4000000
namespace G
open PySem L2
variable {P : Program} {w : World} {K : PySem.W.Frag} {mg : Str → Option Value} {base : Heap}
theorem DL.put {H : Hp} {d : Addr} {ms : List Str} {ad : Str → Addr} {L : Str → List Str} (D : DL H d ms ad L) (inj : ∀ x ∈ ms, ∀ y ∈ ms, ad x = ad y → x = y) {r : Str} (hr : r ∈ ms) (xs : List Str) :
    DL (upd H (ad r) (.lst (xs.map V.str))) d ms ad (fun x => if x = r then xs else L x) := by
  refine ⟨?_, fun x hx => ?_⟩
  · show upd H (ad r) _ d = _
    rw [upd_ne (ne_of D.dk (D.l r hr) (fun z => nomatch z))]
    exact D.dk
  · show upd H (ad r) _ (ad x) = _
    by_cases e : x = r
    · subst e
      rw [upd_same, if_pos rfl]
    · rw [upd_ne (fun z => e (inj x hx r hr z)), if_neg e]
      exact D.l x hx
/-- dict([(m, list(d[m])) for m in members]): new lists -/
theorem newL_copy {H : Hp} {m d : Addr} {ms : List Str} {ad0 : Str → Addr} {L : Str → List Str} (hm : LS H m ms) (M : Ms ms) (hd : DL H d ms ad0 L) {J0 : Nat} {vs : List Nat} {σ : St} {te : TE} {Qd : Addr → Hp → Prop}
    (hw : ∀ x, wipe ((wipe σ vs).set J0 (some x)) vs = wipe σ vs)
    (he : ∀ (z : Str) H1 (Q : VK), z ∈ ms → DL H1 d ms ad0 L → (∀ p t, H1 p = none → H1 t = none → p ≠ t → Q (.ref t) (upd (upd H1 p (.lst ((L z).map V.str))) t (.tup [.str z, .ref p]))) → te ((wipe σ vs).set J0 (some (.str z))) H1 Q)
    (hq : ∀ X H1, (∃ (ad tp : Str → Addr), NewL H (upd H1 X (.dK (kvM (fun x => .ref (ad x)) ms))) X ms ad L ∧ Same H H1 ∧ H1 X = some (.lst (ms.map fun x => .ref (tp x))) ∧ ∀ x ∈ ms, H1 (tp x) = some (.tup [.str x, .ref (ad x)])) → Qd X H1) :
    ∀ D, H D = none → ∃ W : Nat → Nat → Hp → Prop, (∃ m, W 0 m (upd H D (.lst []))) ∧ ∀ i n H', W i n H' →
      ((Itl K m).stop i H' ∧ Qd D H') ∨ ((Itl K m).go i H' ∧ ∃ Nx : Hp → Prop, (∀ H', Nx H' → ∃ m', m' < n ∧ W (i + 1) m' H') ∧ ∀ x H'', (Itl K m).yld i H' x H'' → gName J0 x (wipe σ vs) H'' fun σ2 H2 => wipe σ2 vs = wipe σ vs ∧ tYes σ2 H2 fun b H3 =>
        if b = true then te σ2 H3 fun y H4 => ∃ acc, H4 D = some (.lst acc) ∧ acc.length < sizeLine ∧ Nx (upd H4 D (.lst (acc ++ [y]))) else Nx H3) := by
  intro X hX
  have h12 := M.l12
  refine lc_it (walk_list (xs := ms.map V.str)) (Qd := fun H => Qd X H) (fun i H' => ∃ (ad tp : Str → Addr), NewL H (upd H' X (.dK (kvM (fun x => .ref (ad x)) (ms.take i)))) X (ms.take i) ad L ∧ Same H H' ∧ H' X = some (.lst ((ms.take i).map fun x => .ref (tp x))) ∧ ∀ x ∈ ms.take i, H' (tp x) = some (.tup [.str x, .ref (ad x)])) ?_ (fun i H' _ ⟨_, _, _, q, _⟩ => Same.seq q (SqL.of hm)) (fun i x H' H'' hi q y => ?_) (fun H1 q => ?_)
  · refine ⟨fun _ => 0, fun _ => 0, ⟨Same.mut (Same.new hX) hX, hX, ⟨upd_same, fun x hx => absurd hx (by simp)⟩, fun x hx => absurd hx (by simp), fun x hx => absurd hx (by simp)⟩, Same.new hX, upd_same, fun x hx => absurd hx (by simp)⟩
  · obtain ⟨ad, tp, N, s1, hl1, ht1⟩ := q
    obtain ⟨rfl, hx⟩ := y
    obtain ⟨z, hz, rfl, hzm⟩ := at_str hx
    have hno : z ∉ ms.take i := nd_take M.nd hz
    refine ⟨hw _, he z H'' _ hzm (hd.on s1) fun p t hp ht' pt => ?_⟩
    have ht : upd H'' p (.lst ((L z).map V.str)) t = none := by rw [upd_ne pt.symm]; exact ht'
    have s2 : Same H'' (upd (upd H'' p (.lst ((L z).map V.str))) t (.tup [.str z, .ref p])) := Same.trans (Same.new hp) (Same.new ht)
    refine ⟨_, s2 _ _ hl1, small (by rw [List.length_map, List.length_take]; omega), fun x => if x = z then p else ad x, fun x => if x = z then t else tp x, ?_, Same.mut (Same.trans s1 s2) hX, ?_, fun x hx => ?_⟩
    · have Xp : X ≠ p := ne_of_none hl1 hp
      have Xt : X ≠ t := ne_of_none hl1 ht'
      have xz : ∀ x ∈ ms.take i, x ≠ z := fun x hx q => hno (q ▸ hx)
      have adX : ∀ x ∈ ms.take i, ad x ≠ X := fun x hx => ne_of (N.dl.l x hx) N.dl.dk (fun z => nomatch z)
      have adl : ∀ x ∈ ms.take i, H'' (ad x) = some (.lst ((L x).map V.str)) := fun x hx => by
        have := N.dl.l x hx
        have this : upd H'' X (.dK (kvM (fun x => .ref (ad x)) (ms.take i))) (ad x) = some (.lst ((L x).map V.str)) := this
        rw [upd_ne (adX x hx)] at this; exact this
      have adp : ∀ x ∈ ms.take i, ad x ≠ p := fun x hx => ne_of_none (adl x hx) hp
      have adt : ∀ x ∈ ms.take i, ad x ≠ t := fun x hx => ne_of_none (adl x hx) ht'
      rw [take_snoc hz]
      refine ⟨Same.mut (Same.mut (Same.trans s1 s2) hX) hX, hX, ⟨upd_same, fun x hx => ?_⟩, fun x hx => ?_, fun x hx y hy q => ?_⟩
      · show upd (upd _ X _) X _ (if x = z then p else ad x) = _
        rcases List.mem_append.mp hx with q | q
        · rw [if_neg (xz x q), upd_ne (adX x q), upd_ne (adX x q), upd_ne (adt x q), upd_ne (adp x q)]
          exact adl x q
        · rw [if_pos (List.mem_singleton.mp q), upd_ne Xp.symm, upd_ne Xp.symm, upd_ne pt, upd_same, List.mem_singleton.mp q]
      · show H (if x = z then p else ad x) = none
        rcases List.mem_append.mp hx with q | q
        · rw [if_neg (xz x q)]; exact N.a0 x q
        · rw [if_pos (List.mem_singleton.mp q)]; exact Same.free s1 hp
      · have q : (if x = z then p else ad x) = (if y = z then p else ad y) := q
        rcases List.mem_append.mp hx with a | a
        · rcases List.mem_append.mp hy with b | b
          · rw [if_neg (xz x a), if_neg (xz y b)] at q; exact N.inj x a y b q
          · rw [if_neg (xz x a), if_pos (List.mem_singleton.mp b)] at q; exact absurd q (adp x a)
        · rcases List.mem_append.mp hy with b | b
          · rw [if_neg (xz y b), if_pos (List.mem_singleton.mp a)] at q; exact absurd q.symm (adp y b)
          · rw [List.mem_singleton.mp a, List.mem_singleton.mp b]
    · have xz : ∀ x ∈ ms.take i, x ≠ z := fun x hx q => hno (q ▸ hx)
      rw [upd_same, take_snoc hz, List.map_append]
      refine congrArg (fun l => some (HO.lst l)) ?_
      show _ ++ [V.ref t] = _ ++ [V.ref (if z = z then t else tp z)]
      rw [if_pos rfl]
      refine congrArg (· ++ [V.ref t]) (List.map_congr_left fun x hx => ?_)
      show V.ref (tp x) = V.ref (if x = z then t else tp x)
      rw [if_neg (xz x hx)]
    · have xz : ∀ x ∈ ms.take i, x ≠ z := fun x hx q => hno (q ▸ hx)
      rw [take_snoc hz] at hx
      have Xt : X ≠ t := ne_of_none hl1 ht'
      rcases List.mem_append.mp hx with q | q
      · have e1 : tp x ≠ X := ne_of (ht1 x q) hl1 (fun z => nomatch z)
        show upd _ X _ (if x = z then t else tp x) = some (.tup [.str x, .ref (if x = z then p else ad x)])
        rw [if_neg (xz x q), if_neg (xz x q), upd_ne e1]
        exact s2 _ _ (ht1 x q)
      · have e := List.mem_singleton.mp q
        show upd _ X _ (if x = z then t else tp x) = some (.tup [.str x, .ref (if x = z then p else ad x)])
        rw [if_pos e, if_pos e, upd_ne Xt.symm, upd_same, e]
  · refine hq X H1 ?_
    obtain ⟨ad, tp, q⟩ := q
    rw [List.length_map, List.take_length] at q
    exact ⟨ad, tp, q⟩
structure Cst (b o e : Addr) (ms os : List Str) (ad : Str → Addr) (L : Str → List Str) (H : Hp) (R : Nat) (Hc : Hp) : Prop where
  bk : Bk b R H Hc
  d : DL Hc e ms ad L
  o : LS Hc o os
theorem Cst.new {b o e : Addr} {ms os : List Str} {ad : Str → Addr} {L : Str → List Str} {H : Hp} {R : Nat} {Hc Hd : Hp} (w : Cst b o e ms os ad L H R Hc) (s : Same Hc Hd) : Cst b o e ms os ad L H R Hd := ⟨w.bk.more s, w.d.on s, Same.ls s w.o⟩
theorem Cst.step {b o e : Addr} {ms os : List Str} {ad : Str → Addr} {L : Str → List Str} {H : Hp} {R R' : Nat} {Hc Hd : Hp} (w : Cst b o e ms os ad L H R Hc) (s : Bk b R' Hc Hd) : Cst b o e ms os ad L H R' Hd := ⟨w.bk.trans s, s.dl w.bk.bag w.d, s.ls w.bk.bag w.o⟩
theorem tAnd_any {c1 c2 : TT} {σ : St} {H : Hp} {Q' : Bool → Hp → Prop} (Pp : Bool → Hp → Prop) (h1 : ∀ Q : Bool → Hp → Prop, (∀ b H', Pp b H' → Q b H') → tAnd c1 c2 σ H Q) (h2 : ∀ b H', Pp b H' → Q' b H') : tAnd c1 c2 σ H Q' := h1 Q' h2
theorem at2 {j n : Nat} (h : n < 2) : ∃ q : Nat, (q = 0 ∨ q = j) ∧ atI [V.int 0, V.int (j : Nat)] ((n : Nat) : Int) = some (.int (q : Nat)) := by
  have c : n = 0 ∨ n = 1 := by omega
  rcases c with rfl | rfl
  · exact ⟨0, .inl rfl, rfl⟩
  · exact ⟨j, .inr rfl, rfl⟩
theorem lok_put {ms : List Str} {L : Str → List Str} {z : Str} {xs : List Str} (h : GM.Lok ms L) (hx : ∀ g ∈ xs, g ∈ ms ∧ g ≠ z) : GM.Lok ms (fun x => if x = z then xs else L x) := by
  intro x hx' g hg
  have hg : g ∈ (if x = z then xs else L x) := hg
  by_cases c : x = z
  · rw [if_pos c] at hg; rw [c]; exact hx g hg
  · rw [if_neg c] at hg; exact h x hx' g hg
theorem len_put {ms : List Str} {L : Str → List Str} {z : Str} {xs : List Str} {n : Nat} (h : ∀ x ∈ ms, (L x).length ≤ n) (hx : xs.length ≤ n + 1) : ∀ x ∈ ms, ((fun x => if x = z then xs else L x) x).length ≤ n + 1 := by
  intro x hx'
  show (if x = z then xs else L x).length ≤ n + 1
  by_cases c : x = z
  · rw [if_pos c]; exact hx
  · rw [if_neg c]; exact Nat.le_succ_of_le (h x hx')
abbrev sLawChanged : Stmt := top 54
theorem scLawChanged : FnScope ["_law_bag_here", "_law_members_here", "_law_lists_here", "_law_member", "_law_found", "_law_others", "_law_row", "_law_way", "_law_one"] ["_law_bag_here", "_law_members_here", "_law_lists_here"] (defScope sLawChanged) := ⟨rfl, rfl, rfl, by decide +kernel, rfl, by decide +kernel, by decide +kernel⟩
def spChanged : Sp := fun vs H Q _ => ∃ (b m d : Addr) (r n : Nat) (ms : List Str) (ad : Str → Addr) (L : Str → List Str), vs = [.ref b, .ref m, .ref d] ∧ BagAt (r + 7) b H ∧ LS H m ms ∧ Ms ms ∧ DL H d ms ad L ∧ GM.Lok ms L ∧ (∀ x ∈ ms, (L x).length ≤ n) ∧ n ≤ 150 ∧
  ∀ H' d' ad' L', Bk b r H H' → H d' = none → DL H' d' ms ad' L' → GM.Lok ms L' → (∀ x ∈ ms, (L' x).length ≤ n + 1) → Q (.ref d') H'
theorem ok_law_changed {f : Addr} {fd : FuncData} (F : Fun K "_law_changed" "_law_changed" sLawChanged f fd) (T : Txt K mg) (D_law_take : Dn P w K mg base CX0 1 "_law_take" ["_law_bag_here", "_law_many"] spTake) (D_law_pick : Dn P w K mg base CX0 2 "_law_pick" ["_law_bag_here", "_law_values"] spPick) :
    FnOk P w K mg base CX0 3 f fd ["_law_bag_here", "_law_members_here", "_law_lists_here"] spChanged := by
  refine F.ok scLawChanged (fun vs H Q E h => ?_) (fun cdv A outer s H vs Q E hr h => ?_)
  · obtain ⟨b, m, d, r, n, ms, ad, L, rfl, _⟩ := h
    rfl
  · obtain ⟨b, m, d, r, n, ms, ad, L, rfl, hb, hm, M, hd, Lo, hn, hn1, k⟩ := h
    have hu := hu_of hr
    have h12 := M.l12
    refine ⟨_, (pss_cons (ps_set (i := 4) scLawChanged.nd rfl (Or.inl rfl) (g_dict T (pe_lc (own := [("_law_member", 3)]) (g := gName 3) (tt := tYes) rfl scLawChanged.nd (pi_list (pv 1)) (blkOk_by (N := ["_law_bag_here", "_law_members_here", "_law_lists_here", "_law_member", "_law_found", "_law_others", "_law_row", "_law_way", "_law_one"]) (sc := defScope sLawChanged) (by decide +kernel)) (fun _ _ _ _ _ => pg_name (i := 3) scLawChanged.nd rfl (by first | exact Or.inl rfl | exact Or.inr rfl)) (fun _ _ _ _ _ => pts_nil) (fun _ _ _ _ _ => (pe_tup (pa_cons (pv 3) (pa_cons (g_list T (pe_dget hu (pv 2) (pv 3) (fun _ _ => rfl))) pa_nil)))))))
        (pss_cons (ps_set (i := 3) scLawChanged.nd rfl (Or.inr rfl) (call_dn D_law_pick hr (pa_cons (pv 0) (pa_cons (pv 1) pa_nil))))
        (pss_cons (ps_setLc (i := 5) (own := [("_law_one", 8)]) (g := gName 8) rfl scLawChanged.nd rfl rfl (sw_true rfl rfl rfl (by decide +kernel)) (pi_list (pv 1)) (blkOk_by (N := ["_law_bag_here", "_law_members_here", "_law_lists_here", "_law_member", "_law_found", "_law_others", "_law_row", "_law_way", "_law_one"]) (sc := defScope sLawChanged) (by decide +kernel)) (fun _ _ _ _ _ => pg_name (i := 8) scLawChanged.nd rfl (by first | exact Or.inl rfl | exact Or.inr rfl)) (fun _ _ _ _ _ => (pts_one (pt_cmpR op_ne (pv 8) (pv 3) (nomark _)))) (fun _ _ _ _ _ => (pv 8)))
        (pss_cons (ps_par (i := 6) (j := 7) (by rfl) scLawChanged.nd rfl rfl (by decide) rfl rfl (pa_cons (pe_dget hu (pv 4) (pv 3) (fun _ _ => rfl)) (pa_cons (call_dn D_law_take hr (pa_cons (pv 0) (pa_cons pe_int pa_nil))) pa_nil)) (by rfl))
        (pss_cons (ps_if (pt_cmpR (op_eqL hr.units) (pv 5) (pe_lst pa_nil) (nomark _)) (pss_one (ps_ret (pv 4))) pss_nil)
        (pss_cons (ps_if (PW.pt (pw_and (pt_cmpR op_eq (pv 7) pe_int (nomark _)) (pw_and1 (pt_cmpR (op_neL hr.units) (pv 6) (pe_lst pa_nil) (nomark _))))) (pss_one (ps_expr (pe_bm PySem.F.plainAttrs_list PySem.F.slot_list_pop PySem.F.type_list_pop mt_popAt (pv 6) (pa_cons (g_ixL T (pe_lst (pa_cons pe_int (pa_cons (call_dn D_law_take hr (pa_cons (pv 0) (pa_cons (g_lenL T (pv 6)) pa_nil))) pa_nil))) (call_dn D_law_take hr (pa_cons (pv 0) (pa_cons pe_int pa_nil))) (fun _ _ => rfl)) pa_nil)))) (pss_one (ps_if (PW.pt (pw_and (pt_cmpR op_eq (pv 7) pe_int (nomark _)) (pw_and1 (pt_cmpR (op_neL hr.units) (pv 6) (pe_lst pa_nil) (nomark _))))) (pss_one (ps_asg (call_dn D_law_pick hr (pa_cons (pv 0) (pa_cons (pv 5) pa_nil))) (pg_sub (pv 6) (g_ixL T (pe_lst (pa_cons pe_int (pa_cons (call_dn D_law_take hr (pa_cons (pv 0) (pa_cons (g_lenL T (pv 6)) pa_nil))) pa_nil))) (call_dn D_law_take hr (pa_cons (pv 0) (pa_cons pe_int pa_nil))) (fun _ _ => rfl)) set_list))) (pss_one (ps_expr (pe_bm PySem.F.plainAttrs_list PySem.F.slot_list_insert PySem.F.type_list_insert mt_insert (pv 6) (pa_cons (call_dn D_law_take hr (pa_cons (pv 0) (pa_cons (pe_op op_add (g_lenL T (pv 6)) pe_int) pa_nil))) (pa_cons (call_dn D_law_pick hr (pa_cons (pv 0) (pa_cons (pv 5) pa_nil))) pa_nil))))))))
        (pss_one (ps_ret (pv 4))))))))), ?_⟩
    refine ⟨_, rfl, m, rfl, ⟨_, SqL.of hm⟩, newL_copy hm M hd (fun _ => rfl) (fun z H1 Q hz hd1 hQ => ?_) (fun X H1 q => ?_)⟩
    · refine ⟨_, rfl, _, rfl, _, rfl, d, _, rfl, dget hd1.dk hz, ad z, _, rfl, Or.inl (SqL.of (hd1.l z hz)), fun p hp => ⟨by show 2 ≤ sizeLine; decide, fun t ht => ?_⟩⟩
      have pt : p ≠ t := ne_of_none (show upd H1 p (.lst ((L z).map V.str)) p = some _ from upd_same) ht
      have ht' : H1 t = none := by rw [upd_ne pt.symm] at ht; exact ht
      exact hQ p t hp ht' pt
    · obtain ⟨ad1, tp, N, s1, hl1, ht1⟩ := q
      refine ⟨X, ms.map tp, kvM (fun x => .ref (ad1 x)) ms, rfl, SqL.of (by rw [hl1, List.map_map]; rfl), paired_ms ht1, fun e he => ?_⟩
      rw [mergeK_ms M.nd]
      have he0 : H e = none := Same.free s1 he
      have D1 : DL (upd H1 e (.dK (kvM (fun x => .ref (ad1 x)) ms))) e ms ad1 L := by
        refine ⟨upd_same, fun x hx => ?_⟩
        have adX : ad1 x ≠ X := ne_of (N.dl.l x hx) N.dl.dk (fun z => nomatch z)
        have adl : H1 (ad1 x) = some (.lst ((L x).map V.str)) := by
          have this : upd H1 X (.dK (kvM (fun x => .ref (ad1 x)) ms)) (ad1 x) = some (.lst ((L x).map V.str)) := N.dl.l x hx
          rw [upd_ne adX] at this; exact this
        exact Same.new he _ _ adl
      have kb1 : Bk b (r + 7) H (upd H1 e (.dK (kvM (fun x => .ref (ad1 x)) ms))) := .of hb (Same.mut s1 he0)
      generalize upd H1 e (.dK (kvM (fun x => V.ref (ad1 x)) ms)) = H2 at D1 kb1 ⊢
      have m2 := kb1.ls hb hm
      refine ⟨_, rfl, _, rfl, b, m, r + 6, ms, rfl, kb1.bag, m2, (fun q => by have := M.l1; rw [q] at this; cases this), by omega, fun H3 z k3 hz => ?_⟩
      have kb3 := kb1.trans k3
      have D3 := k3.dl kb1.bag D1
      have m3 := k3.ls kb1.bag m2
      refine ⟨_, rfl, m, rfl, ⟨_, SqL.of m3⟩, lc_pure (walk_list (xs := ms.map V.str)) (fun i => (oth (ms.take i) z).map V.str) rfl (fun _ e => SqL.of (Same.ls e m3)) (fun D j x H1 H2 hj hD s1 d1 y => ?_) (fun o H4 ho0 s4 d4 => ?_)⟩
      · obtain ⟨rfl, hx⟩ := y
        obtain ⟨x', hx', rfl, hxm⟩ := at_str hx
        refine ⟨rfl, ⟨_, rfl, _, rfl, rfl, _, rfl, ?_⟩⟩
        have hsm : ((oth (ms.take j) z).map V.str).length ≤ 100 := by
          rw [List.length_map]
          have := oth_len (ms.take j) z
          rw [List.length_take] at this
          omega
        by_cases e : x' = z
        · rw [decide_eq_true (show V.str x' = V.str z by rw [e])]
          refine ⟨s1, ?_⟩
          rw [oth_take z hx', if_pos e, List.append_nil]
          exact d1
        · rw [decide_eq_false (show ¬ V.str x' = V.str z from fun q => e (V.str.inj q))]
          refine ⟨_, rfl, ?_⟩
          refine lcY hD s1 d1 (Same.refl _) (small (by omega)) ?_
          rw [oth_take z hx', if_neg e, List.map_append]; rfl
      · rw [List.length_map, List.take_length] at d4
        have o4 : LS H4 o (oth ms z) := d4
        have kb4 := kb3.more s4
        have D4 := D3.on s4
        refine ⟨_, rfl, _, rfl, e, _, rfl, dget D4.dk hz, _, rfl, b, 3, r + 5, rfl, kb4.bag, by decide, by decide, fun H5 way k5 hway => ⟨_, _, rfl, ?_⟩⟩
        have kb5 := kb4.trans k5
        have D5 := k5.dl kb4.bag D4
        have o5 := k5.ls kb4.bag o4
        have hom : ∀ x ∈ oth ms z, x ∈ ms := fun x hx => (mem_oth.mp hx).1
        refine ⟨_, rfl, Nat.zero_le _, fun p hp => ⟨o, p, oth ms z, [], rfl, rfl, Same.ls (Same.new hp) o5, upd_same, M.sOkL hom, (fun _ q => nomatch q), _, rfl, ?_⟩⟩
        have kb6 := kb5.more (Same.new (o := .lst []) hp)
        have D6 := D5.on (Same.new (o := .lst []) hp)
        have o6 := Same.ls (Same.new (o := .lst []) hp) o5
        generalize upd H5 p (.lst []) = H6 at kb6 D6 o6 ⊢
        by_cases hoe : oth ms z = []
        · exact iteDT hoe ⟨_, rfl, k H6 e ad1 L (kb6.less (by omega)) he0 D6 Lo (fun x hx => by have := hn x hx; omega)⟩
        · refine iteDF hoe ?_
          have w6 : Cst b o e ms (oth ms z) ad1 L H (r + 5) H6 := ⟨kb6, D6, o6⟩
          have a0 := N.a0 z hz
          have ab : ad1 z ≠ b := hb.neN a0
          have sz : SOk (L z) := M.sOkL fun x hx => (Lo z hz x hx).1
          have lz := hn z hz
          have o1000 : (oth ms z).length ≤ 1000 := by have := oth_len ms z; omega
          have fin : ∀ (Hc : Hp) (R : Nat) (ys : List Str), Cst b o e ms (oth ms z) ad1 L H (r + R) Hc → (∀ g ∈ ys, g ∈ ms ∧ g ≠ z) → ys.length ≤ n + 1 → Q (.ref e) (upd Hc (ad1 z) (.lst (ys.map V.str))) := fun Hc R ys wc hy hl =>
            k _ e ad1 _ ((wc.bk.less (by omega)).mut a0 ab) he0 (wc.d.put N.inj hz ys) (lok_put Lo hy) (len_put hn hl)
          -- way == 0 and row != []
          unfold tNext
          dsimp only
          unfold tSeq tIfS
          refine tAnd_any (fun bb H' => Cst b o e ms (oth ms z) ad1 L H (r + 5) H' ∧ (bb = true → L z ≠ [])) (fun Q hQ => ?_) (fun bb H7 ⟨w7, hne⟩ => ?_)
          · refine ⟨_, rfl, rfl, _, rfl, ?_⟩
            by_cases c0 : V.int (way : Nat) = V.int 0
            · rw [decide_eq_true c0]
              refine ⟨_, rfl, Nat.zero_le _, fun p hp => ⟨ad1 z, p, L z, [], rfl, rfl, Same.ls (Same.new hp) (w6.d.l z hz), upd_same, sz, (fun _ q => nomatch q), _, rfl, ?_⟩⟩
              exact hQ _ _ ⟨w6.new (Same.new hp), fun q => by
                intro e
                rw [decide_eq_true e] at q
                cases q⟩
            · rw [decide_eq_false c0]
              exact hQ _ _ ⟨w6, fun q => by cases q⟩
          cases bb with
          | true =>
            have hL := hne rfl
            refine ⟨_, rfl, Or.inl ⟨rfl, _, SqL.of (w7.d.l z hz)⟩, _, rfl, _, rfl, ad1 z, _, rfl, Or.inl (SqL.of (w7.d.l z hz)), b, (L z).length, r + 4, by rw [List.length_map]; rfl, w7.bk.bag, List.length_pos_iff.mpr hL, by omega, fun H8 j k8 hj => ⟨by show 2 ≤ sizeLine; decide, fun l hl => ?_⟩⟩
            have w8 := w7.step k8
            have lb : l ≠ b := w8.bk.bag.neN hl
            have w9 := w8.new (Same.new (o := .lst [V.int 0, V.int (j : Nat)]) hl)
            have e9 : upd H8 l (.lst [V.int 0, V.int (j : Nat)]) l = some (.lst [V.int 0, V.int (j : Nat)]) := upd_same
            refine ⟨_, rfl, b, 2, r + 3, rfl, w9.bk.bag, by decide, by decide, fun H10 j2 k10 hj2 => ?_⟩
            obtain ⟨j3, hj3, hat⟩ := at2 (j := j) hj2
            have w10 := w9.step k10
            have j3l : j3 < (L z).length := by rcases hj3 with e | e <;> omega
            obtain ⟨x, hx, hxj, _⟩ := ixM j3l
            refine ⟨l, _, _, .int (j3 : Nat), rfl, rfl, SqL.of (k10.keep l _ lb e9), hat, ?_⟩
            refine ⟨ad1 z, _, _, j3, .str x, rfl, rfl, w10.d.l z hz, by omega, by omega, by rw [List.length_map]; exact seqIx j3l, by rw [List.getElem?_map, hxj]; rfl, ?_⟩
            refine ⟨_, rfl, ?_⟩
            rw [← map_erase]
            exact fin H10 3 _ w10 (fun g hg => Lo z hz g (List.mem_of_mem_eraseIdx hg)) (by rw [List.length_eraseIdx, if_pos j3l]; omega)
          | false =>
            refine iteF ?_
            refine tAnd_any (fun bb H' => Cst b o e ms (oth ms z) ad1 L H (r + 5) H' ∧ (bb = true → L z ≠ [])) (fun Q hQ => ?_) (fun bb H7 ⟨w7, hne⟩ => ?_)
            · refine ⟨_, rfl, rfl, _, rfl, ?_⟩
              by_cases c0 : V.int (way : Nat) = V.int 1
              · rw [decide_eq_true c0]
                refine ⟨_, rfl, Nat.zero_le _, fun p hp => ⟨ad1 z, p, L z, [], rfl, rfl, Same.ls (Same.new hp) (w7.d.l z hz), upd_same, sz, (fun _ q => nomatch q), _, rfl, ?_⟩⟩
                exact hQ _ _ ⟨w7.new (Same.new hp), fun q => by
                  intro e
                  rw [decide_eq_true e] at q
                  cases q⟩
              · rw [decide_eq_false c0]
                exact hQ _ _ ⟨w7, fun q => by cases q⟩
            cases bb with
            | true =>
              have hL := hne rfl
              refine ⟨_, rfl, _, rfl, b, o, r + 4, oth ms z, rfl, w7.bk.bag, w7.o, hoe, o1000, fun H8 g k8 hg => ?_⟩
              have w8 := w7.step k8
              refine ⟨_, rfl, _, rfl, _, rfl, ad1 z, _, rfl, Or.inl (SqL.of (w8.d.l z hz)), b, (L z).length, r + 3, by rw [List.length_map]; rfl, w8.bk.bag, List.length_pos_iff.mpr hL, by omega, fun H9 j k9 hj => ⟨by show 2 ≤ sizeLine; decide, fun l hl => ?_⟩⟩
              have w9 := w8.step k9
              have lb : l ≠ b := w9.bk.bag.neN hl
              have w10 := w9.new (Same.new (o := .lst [V.int 0, V.int (j : Nat)]) hl)
              have e10 : upd H9 l (.lst [V.int 0, V.int (j : Nat)]) l = some (.lst [V.int 0, V.int (j : Nat)]) := upd_same
              refine ⟨_, rfl, b, 2, r + 2, rfl, w10.bk.bag, by decide, by decide, fun H11 j2 k11 hj2 => ?_⟩
              obtain ⟨j3, hj3, hat⟩ := at2 (j := j) hj2
              have w11 := w10.step k11
              have j3l : j3 < (L z).length := by rcases hj3 with e | e <;> omega
              refine ⟨l, _, _, .int (j3 : Nat), rfl, rfl, SqL.of (k11.keep l _ lb e10), hat, ?_⟩
              refine ⟨ad1 z, _, _, j3, rfl, rfl, w11.d.l z hz, ?_, ?_⟩
              · unfold ixN
                rw [List.length_map, if_pos (by omega), if_pos (by omega), Int.toNat_natCast]
              · refine ⟨_, rfl, ?_⟩
                rw [show ((L z).map V.str).set j3 (V.str g) = ((L z).set j3 g).map V.str from List.map_set.symm]
                refine fin H11 2 _ w11 (fun x hx => ?_) (by rw [List.length_set]; omega)
                rcases List.mem_or_eq_of_mem_set hx with e | e
                · exact Lo z hz x e
                · rw [e]; exact mem_oth.mp hg
            | false =>
              refine ⟨_, rfl, Or.inl ⟨rfl, _, SqL.of (w7.d.l z hz)⟩, _, rfl, _, rfl, ad1 z, _, rfl, Or.inl (SqL.of (w7.d.l z hz)), _, _, rfl, rfl, b, (L z).length + 1, r + 4, by rw [List.length_map]; rfl, w7.bk.bag, by omega, by omega, fun H8 j k8 hj => ?_⟩
              have w8 := w7.step k8
              refine ⟨_, rfl, _, rfl, b, o, r + 3, oth ms z, rfl, w8.bk.bag, w8.o, hoe, o1000, fun H9 g k9 hg => ?_⟩
              have w9 := w8.step k9
              refine ⟨ad1 z, _, _, _, rfl, rfl, w9.d.l z hz, small (by rw [List.length_map]; omega), by omega, by omega, ?_⟩
              refine ⟨_, rfl, ?_⟩
              have em : ((L z).map V.str).take (Int.toNat ((j : Nat) : Int)) ++ [V.str g] ++ ((L z).map V.str).drop (Int.toNat ((j : Nat) : Int)) = ((L z).take j ++ [g] ++ (L z).drop j).map V.str := by
                rw [Int.toNat_natCast, List.map_append, List.map_append, List.map_take, List.map_drop]; rfl
              rw [em]
              refine fin H9 3 _ w9 (fun x hx => ?_) (by simp; omega)
              rcases List.mem_append.mp hx with e | e
              · rcases List.mem_append.mp e with e | e
                · exact Lo z hz x (List.mem_of_mem_take e)
                · rw [List.mem_singleton.mp e]; exact mem_oth.mp hg
              · exact Lo z hz x (List.mem_of_mem_drop e)
end G

set_option maxHeartbeats 4000000
namespace G
open PySem L2
/-- a conflict is small enough to be shown -/
theorem cf_ok {ms : List Str} {first : Str} {L : Str → List Str} (M : Ms ms) (Lo : LsOk ms L) : ∀ c, GM.conf ms first L = some c → CfOk c := by
  intro c hc
  have h12 := M.l12
  have mem := confS_mem (first := first) Lo.ok
  rw [hc] at mem
  cases c with
  | unb x a b =>
    obtain ⟨hx, ha, hb, _⟩ := conf_unb hc
    refine ⟨M.nm x hx, ?_, ?_⟩
    · rw [ha]
      unfold GM.had
      have := Lo.len x hx
      split <;> omega
    · rw [hb]
      unfold GM.named
      have := nsum_le (ms := ms) (f := fun y => (L y).count x) (b := 200) fun y hy => Nat.le_trans List.count_le_length (Lo.len y hy)
      omega
  | ring l =>
    obtain ⟨m, hm, _, hr⟩ := conf_ring Lo.ok hc
    refine ⟨fun e => (by rw [e] at hm; cases hm), ?_, fun x hx => M.nm x (mem x hx)⟩
    have h1 := (GM.rat_ring hr).2
    have h2 := keys_len (first := first) (L := L) M
    omega
/-- lists without a conflict come from a history: the one that is walked back -/
structure Good (ms : List Str) (first : Str) (L : Str → List Str) (last : Str) : Prop where
  lst : LastOf ms first L last
  hd : (hist ms L last).head? = some first
  mem : ∀ x ∈ hist ms L last, x ∈ ms
  len : (hist ms L last).length ≤ 3000
  lof : ∀ x ∈ ms, GM.lof (hist ms L last) x = L x
theorem good_of {ms : List Str} {first : Str} {L : Str → List Str} (M : Ms ms) (hf : first ∈ ms) (Lo : LsOk ms L) (hc : GM.conf ms first L = none) : ∃ last, Good ms first L last := by
  obtain ⟨hb, hr⟩ := GM.conf_none hc
  have nr := GM.noring_conf Lo.ok hr
  have h12 := M.l12
  obtain ⟨p, x, q, e, hx, hp, hq⟩ := GM.Bal.last M.nd hf Lo.ok hb
  have hxm : x ∈ ms := by rw [e]; simp
  have hlast : LastOf ms first L x := by
    unfold LastOf
    rw [e]
    rw [← e]
    have hp' : ∀ y ∈ p, decide (GM.sur ms first L y = 1) = false := fun y hy => decide_eq_false (by rw [hp y hy]; decide)
    have hq' : ∀ y ∈ q, decide (GM.sur ms first L y = 1) = false := fun y hy => decide_eq_false (by rw [hq y hy]; decide)
    have := GM.filter_one (P := fun y => decide (GM.sur ms first L y = 1)) hp' (decide_eq_true hx) hq'
    rw [← e] at this
    exact this
  have nd := M.nd
  have only : ∀ y ∈ ms, GM.sur ms first L y = if y = x then 1 else 0 := fun y hy => by
    by_cases c : y = x
    · rw [if_pos c, c]; exact hx
    · rw [if_neg c]
      rw [e] at hy
      rcases List.mem_append.mp hy with h | h
      · exact hp y h
      · exact hq y ((List.mem_cons.mp h).resolve_left c)
  have nl : GM.nsum (fun x => (L x).length) ms ≤ 12 * 200 := by
    have := nsum_le (ms := ms) (f := fun x => (L x).length) (b := 200) fun x hx => Lo.len x hx
    omega
  have B := GM.bw_all M.nd hf Lo.ok nr (GM.nsum (fun x => (L x).length) ms) (fun x => (L x).length) x hxm (Nat.le_refl _) (fun _ _ => Nat.le_refl _) (fun y hy => by
    have h1 := only y hy
    unfold GM.sur GM.had GM.named at h1
    have e2 : (fun z => ((L z).take (L z).length).count y) = fun z => (L z).count y := funext fun z => by rw [List.take_length]
    rw [e2]
    split at h1 <;> split <;> split at h1 <;> simp_all <;> omega)
  obtain ⟨b1, b2, b3, b4⟩ := B
  refine ⟨x, hlast, b3, fun y hy => ?_, ?_, fun y hy => ?_⟩
  · unfold hist at hy
    rw [List.mem_reverse] at hy
    rcases List.mem_cons.mp hy with h | h
    · rw [h]; exact hxm
    · exact b1 y h
  · unfold hist
    rw [List.length_reverse, List.length_cons, b2]
    omega
  · have := b4 y hy
    rw [List.take_length] at this
    exact this
end G

set_option maxHeartbeats 4000000
namespace G
open PySem L2
variable {P : Program} {w : World} {K : PySem.W.Frag} {mg : Str → Option Value} {base : Heap}
theorem at_end {l : List Str} {z : Str} (h : l.getLast? = some z) : atI (l.map V.str) (-1) = some (.str z) := by
  obtain ⟨ys, e⟩ := List.getLast?_eq_some_iff.mp h
  rw [e, List.map_append]
  exact atI_last _ _
theorem at_hd {l : List Str} {z : Str} (h : l.head? = some z) : atI (l.map V.str) 0 = some (.str z) := by
  cases l with
  | nil => cases h
  | cons a t =>
    have e : a = z := Option.some.inj h
    rw [e]
    exact atI_nat (j := 0) rfl
abbrev sLawListsRight : Stmt := top 53
theorem scLawListsRight : FnScope ["_law_members_here", "_law_first", "_law_lists_here", "_law_due", "_law_caught", "_law_found", "e"] ["_law_members_here", "_law_first", "_law_lists_here"] (defScope sLawListsRight) := ⟨rfl, rfl, rfl, by decide +kernel, rfl, by decide +kernel, by decide +kernel⟩
def spRight : Sp := fun vs H Q _ => ∃ (m : Addr) (ms : List Str) (first : Str) (d : Addr) (ad : Str → Addr) (L : Str → List Str), vs = [.ref m, .str first, .ref d] ∧ LS H m ms ∧ Ms ms ∧ first ∈ ms ∧ DL H d ms ad L ∧ LsOk ms L ∧ ∀ H', Same H H' → Q (.bl true) H'
theorem ok_law_lists_right {C fI f : Addr} {fd : FuncData} (F : Fun K "_law_lists_right" "_law_lists_right" sLawListsRight f fd) (T : Txt K mg) (TI : IncT K mg C fI) (D_law_conflict : Dn P w K mg base CX0 2 "_law_conflict" ["_law_members_here", "_law_first", "_law_lists_here"] spConflict)
    (Dconflict_of : Dn P w K mg base CX0 5 "conflict_of" ["members", "first", "lists"] spConflict) (Dhistory_of : DnX P w K mg base 6 "history_of" ["members", "first", "lists"] (spHistoryOf C)) (Dis_conflict : Dn P w K mg base CX0 5 "is_conflict" ["members", "first", "lists", "value"] spIsConflict)
    (D_law_lists : Dn P w K mg base CX0 1 "_law_lists" ["_law_members_here", "_law_history"] spLawLists) (Dlast_holder : Dn P w K mg base CX0 6 "last_holder" ["members", "first", "lists"] spLastHolder) : FnOk P w K mg base CX0 7 f fd ["_law_members_here", "_law_first", "_law_lists_here"] spRight := by
  refine F.ok scLawListsRight (fun vs H Q E h => ?_) (fun cdv A outer s H vs Q E hr h => ?_)
  · obtain ⟨m, ms, first, d, ad, L, rfl, _⟩ := h
    rfl
  · obtain ⟨m, ms, first, d, ad, L, rfl, hm, M, hf, hd, Lo, k⟩ := h
    refine ⟨_, (pss_cons (ps_par3 (i := 3) (j := 4) (l := 5) (by rfl) scLawListsRight.nd rfl rfl rfl (by decide) (by decide) (by decide) rfl rfl rfl (pa_cons (call_dn D_law_conflict hr (pa_cons (pv 0) (pa_cons (pv 1) (pa_cons (pv 2) pa_nil)))) (pa_cons pe_non (pa_cons pe_non pa_nil))) (by rfl))
        (pss_cons (ps_if (pt_cmpR (op_neD hr.units) (call_dn Dconflict_of hr (pa_cons (pv 0) (pa_cons (pv 1) (pa_cons (pv 2) pa_nil)))) (pv 3) (nomark _)) (pss_one (ps_ret pe_bl)) pss_nil)
        (pss_cons (ps_try_asK (i := 6) (tb := fun W => tAsg (tCallS (spHistoryOf C) (WE W) (tCons (tVar 0) (tCons (tVar 1) (tCons (tVar 2) tNil)))) (gName 5)) (ts := fun _ _ _ => tAsg (tVar 6) (gName 4)) (Wout := fun _ _ _ _ => False) rfl rfl rfl scLawListsRight.nd rfl rfl ⟨rfl, by decide, Or.inl TI.gC⟩ takes0 (fun W pn xe tk _ => pss_one (ps_set (i := 5) scLawListsRight.nd rfl (Or.inl rfl) (by exact (call_dnX Dhistory_of hr tk (by exact (pa_cons (pv 0) (pa_cons (pv 1) (pa_cons (pv 2) pa_nil)))))))) (fun a oe cls d pn hz hf => pss_one (ps_set (i := 4) scLawListsRight.nd rfl (Or.inl rfl) (pv 6))))
        (pss_cons (ps_if (pt_cmpR op_notN (pv 3) pe_non (nomark _)) (pss_one (ps_ret (pe_and (pe_cmpR op_notN (pv 4) pe_non (nomark _)) (pe_and (pe_cmpR (op_eqD hr.units) (pe_xv TI.xf TI.noC (pv 4)) (pv 3) (nomark _)) (pe_one (pe_cmpR op_isBl (call_dn Dis_conflict hr (pa_cons (pv 0) (pa_cons (pv 1) (pa_cons (pv 2) (pa_cons (pv 3) pa_nil))))) pe_bl (nomark _))))))) pss_nil)
        (pss_cons (ps_if (PW.pt (pw_or (pt_cmpR op_notN (pv 4) pe_non (nomark _)) (pw_or (pt_cmpR op_ne (g_ixL T (pv 5) pe_int (fun _ _ => rfl)) (pv 1) (nomark _)) (pw_or1 (pt_cmpR (op_neDL hr) (call_dn D_law_lists hr (pa_cons (pv 0) (pa_cons (pv 5) pa_nil))) (pv 2) (nomark _)))))) (pss_one (ps_ret pe_bl)) pss_nil)
        (pss_one (ps_ret (pe_cmpR op_eq (call_dn Dlast_holder hr (pa_cons (pv 0) (pa_cons (pv 1) (pa_cons (pv 2) pa_nil)))) (g_ixL T (pv 5) (pe_un un_neg pe_int) (fun _ _ => rfl)) (nomark _))))))))), ?_⟩
    refine ⟨_, rfl, _, rfl, _, rfl, m, ms, first, d, ad, L, rfl, hm, M, hf, hd, Lo, fun H1 due s1 cv1 => ⟨_, _, _, rfl, ?_⟩⟩
    refine ⟨_, rfl, _, rfl, _, rfl, m, ms, first, d, ad, L, rfl, Same.ls s1 hm, M, hf, hd.on s1, Lo, fun H2 r2 s2 cv2 => ?_⟩
    have s12 := Same.trans s1 s2
    have so : SOk (confS (GM.conf ms first L)) := M.sOkL (confS_mem Lo.ok)
    have cvd := cv1.on s2
    refine ⟨_, rfl, _, _, dp_conf cv2, dp_conf cvd, shaped_conf so, shaped_conf so, ?_⟩
    rw [eqv_conf so]
    refine ⟨_, rfl, iteF ?_⟩
    cases hcf : GM.conf ms first L with
    | some c =>
      rw [hcf] at cvd so
      have hdue : due ≠ .non := fun z => by
        subst z
        cases c with
        | unb x a b => obtain ⟨p, q, _⟩ := cvd; cases q
        | ring l => obtain ⟨p, a, q, _⟩ := cvd; cases q
      refine ⟨_, rfl, _, rfl, _, rfl, m, ms, first, d, ad, L, first, rfl, Same.ls s12 hm, M, hf, hd.on s12, Lo, cf_ok M Lo, (fun q => by rw [hcf] at q; cases q), fun c' hc' H3 v dd s3 hdd cv3 => ?_⟩
      rw [hcf] at hc'
      cases hc'
      refine ⟨true, TI.te, fun _ a ha => ?_, fun q => by cases q⟩
      have hdd4 : upd H3 a (exq a (.ref C) (some dd)) dd = some (.xd [("conflict", v)]) := by rw [upd_ne (ne_of_none hdd ha)]; exact hdd
      have s4 : Same H3 (upd H3 a (exq a (.ref C) (some dd))) := Same.new ha
      have ea : upd H3 a (exq a (.ref C) (some dd)) a = some (exq a (.ref C) (some dd)) := upd_same
      refine ⟨_, rfl, ?_⟩
      have s14 := Same.trans s12 (Same.trans s3 s4)
      refine ⟨_, rfl, rfl, ?_⟩
      rw [decide_eq_false hdue]
      refine ⟨_, rfl, ?_⟩
      refine ⟨_, rfl, rfl, ?_⟩
      rw [decide_eq_false (show ¬ V.ref a = V.non from fun q => nomatch q)]
      refine ⟨_, rfl, ?_⟩
      refine ⟨_, rfl, a, dd, _, v, rfl, ea, hdd4, rfl, _, rfl, _, _, dp_conf (cv3.on s4), dp_conf (cvd.on (Same.trans s3 s4)), shaped_conf so, shaped_conf so, ?_⟩
      rw [eqv_conf so]
      refine ⟨_, rfl, ?_⟩
      refine ⟨_, rfl, _, rfl, _, rfl, _, rfl, m, ms, first, d, ad, L, due, c, rfl, Same.ls s14 hm, M, hf, hd.on s14, Lo, hcf, cvd.on (Same.trans s3 s4), fun H5 s5 => ?_⟩
      refine ⟨true, true, rfl, rfl, ?_⟩
      exact k H5 (Same.trans s14 s5)
    | none =>
      rw [hcf] at cvd
      have cvd : due = .non := cvd
      obtain ⟨last, G⟩ := good_of M hf Lo hcf
      refine ⟨_, rfl, _, rfl, _, rfl, m, ms, first, d, ad, L, last, rfl, Same.ls s12 hm, M, hf, hd.on s12, Lo, cf_ok M Lo, fun _ => ⟨G.lst, fun H3 p s3 hp hh => ?_⟩, fun c' hc' => by rw [hcf] at hc'; cases hc'⟩
      have s13 := Same.trans s12 s3
      refine ⟨_, rfl, rfl, ?_⟩
      rw [decide_eq_true cvd]
      refine ⟨_, rfl, iteF ?_⟩
      refine ⟨_, rfl, rfl, ?_⟩
      rw [decide_eq_true (show V.non = V.non from rfl)]
      refine ⟨_, rfl, iteF ?_⟩
      refine ⟨_, rfl, p, _, 0, .str first, rfl, rfl, SqL.of hh, at_hd G.hd, _, rfl, rfl, ?_⟩
      rw [decide_eq_true (show V.str first = V.str first from rfl)]
      refine ⟨_, rfl, iteF ?_⟩
      refine ⟨_, rfl, _, rfl, m, ms, p, hist ms L last, rfl, Same.ls s13 hm, M, hh, G.mem, (fun q => by have := G.hd; rw [q] at this; cases this), Nat.le_trans G.len (by decide), fun H4 d4 ad4 N4 => ?_⟩
      have s14 := Same.trans s13 N4.same
      refine ⟨_, rfl, dl_neDL N4.dl (hd.on s14) (fun x hx => G.lof x hx) ⟨_, rfl, iteF ?_⟩⟩
      refine ⟨_, rfl, _, rfl, _, rfl, m, ms, first, d, ad, L, last, rfl, Same.ls s14 hm, M, hf, hd.on s14, Lo, hcf, G.lst, fun H5 z s5 hz => ?_⟩
      refine ⟨_, rfl, _, rfl, p, _, _, .str z, rfl, rfl, SqL.of (Same.ls (Same.trans N4.same s5) hh), at_end hz, rfl, ?_⟩
      rw [decide_eq_true (show V.str z = V.str z from rfl)]
      exact k H5 (Same.trans s14 s5)
end G

set_option maxHeartbeats 4000000
namespace G
open PySem L2
/-- what the lists of a history are -/
structure HisOk (ms : List Str) (first : Str) (h : List Str) (z : Str) : Prop where
  lo : LsOk ms (GM.lof h)
  len : ∀ x ∈ ms, (GM.lof h x).length ≤ 100
  conf : GM.conf ms first (GM.lof h) = none
  lst : LastOf ms first (GM.lof h) z
  hist : hist ms (GM.lof h) z = h
  end_ : h.getLast? = some z
theorem his_ok {ms : List Str} {first : Str} {h : List Str} (M : Ms ms) (Hh : Hist ms h) (hf : h.head? = some first) : ∃ z, HisOk ms first h z := by
  obtain ⟨p, z, e⟩ : ∃ p z, h = p ++ [z] := by
    rcases List.eq_nil_or_concat h with q | ⟨p, z, q⟩
    · exact absurd q Hh.ne
    · exact ⟨p, z, by rw [q, List.concat_eq_append]⟩
  obtain ⟨t, e2⟩ : ∃ t, h = first :: t := by
    cases h with
    | nil => cases hf
    | cons a t => exact ⟨t, by rw [show a = first from Option.some.inj hf]⟩
  have hl := Hh.len
  have len : ∀ x, (GM.lof h x).length ≤ 100 := fun x => by have := GM.lof_len_le h x; omega
  have mem : ∀ y ∈ p ++ [z], y ∈ ms := fun y hy => Hh.mem y (by rw [e]; exact hy)
  have sur : ∀ x, GM.sur ms first (GM.lof h) x = if x = z then 1 else 0 := fun x => by
    have := GM.sur_lof M.nd mem (a := first) (t := t) (by rw [← e, e2]) x
    rw [e]; exact this
  have hzm : z ∈ ms := Hh.mem z (by rw [e]; simp)
  refine ⟨z, ⟨⟨fun x hx g hg => ?_, fun x _ => Nat.le_trans (len x) (by decide)⟩, fun x _ => len x, ?_, ?_, ?_, by rw [e]; simp⟩⟩
  · exact ⟨Hh.mem g (GM.lof_mem hg), GM.lof_ne Hh.alt hg⟩
  · have := GM.conf_lof M.nd (a := first) (t := t) (by rw [← e2]; exact Hh.mem)
    rw [e2]; exact this
  · unfold LastOf
    obtain ⟨a, b, e3⟩ := List.append_of_mem hzm
    have nd := M.nd
    rw [e3] at nd
    have hn := List.nodup_append.mp nd
    have h2 := List.nodup_cons.mp hn.2.1
    have := GM.filter_one (P := fun y => decide (GM.sur ms first (GM.lof h) y = 1)) (p := a) (q := b) (x := z) (fun y hy => decide_eq_false (by rw [sur, if_neg (fun c => hn.2.2 y hy z (List.mem_cons_self ..) c)]; decide)) (decide_eq_true (by rw [sur, if_pos rfl])) (fun y hy => decide_eq_false (by rw [sur, if_neg (fun c : y = z => h2.1 (by rw [← c]; exact hy))]; decide))
    rw [← e3] at this
    exact this
  · unfold hist
    have nsum : GM.nsum (fun x => (GM.lof h x).length) ms = p.length := by
      rw [show (fun x => (GM.lof h x).length) = fun x => h.tail.count x from funext fun x => GM.lof_length_tail h x, GM.nsum_count_total M.nd (fun g hg => Hh.mem g (List.mem_of_mem_tail hg)), List.length_tail, e]
      simp
    rw [nsum, GM.bw_lof (GM.lof h) p.length p z [] (fun x => (GM.lof h x).length) rfl (fun x => by rw [e]) (fun x => by rw [e]), List.reverse_cons, List.reverse_reverse, e]
theorem reo_ok {ms : List Str} {first : Str} {L L' : Str → List Str} (hf : first ∈ ms) (Lo : LsOk ms L) (hc : GM.conf ms first L = none) (R : Reo ms first L L') : GM.conf ms first L' = none ∧ GM.Lok ms L' ∧ ∀ x ∈ ms, (L' x).length = (L x).length := by
  refine ⟨GM.conf_congr R.perm (fun x hx => ?_) Lo.ok (fun _ _ => hc) hf, fun x hx g hg => Lo.ok x hx g ((R.perm x hx).mem_iff.mp hg), fun x hx => (R.perm x hx).length_eq⟩
  unfold GM.st
  by_cases c : x = first
  · rw [if_pos c, if_pos c]
  · rw [if_neg c, if_neg c]; exact R.hd x hx c
end G

set_option maxHeartbeats 4000000
namespace G
open PySem L2
variable {P : Program} {w : World} {K : PySem.W.Frag} {mg : Str → Option Value} {base : Heap}
structure Rst (b m q d : Addr) (ms h : List Str) (ad : Str → Addr) (L : Str → List Str) (H : Hp) (R : Nat) (Hc : Hp) : Prop where
  bk : Bk b R H Hc
  m : LS Hc m ms
  h : LS Hc q h
  d : DL Hc d ms ad L
theorem Rst.new {b m q d : Addr} {ms h : List Str} {ad : Str → Addr} {L : Str → List Str} {H : Hp} {R : Nat} {Hc Hd : Hp} (w : Rst b m q d ms h ad L H R Hc) (s : Same Hc Hd) : Rst b m q d ms h ad L H R Hd := ⟨w.bk.more s, Same.ls s w.m, Same.ls s w.h, w.d.on s⟩
theorem Rst.step {b m q d : Addr} {ms h : List Str} {ad : Str → Addr} {L : Str → List Str} {H : Hp} {R R' : Nat} {Hc Hd : Hp} (w : Rst b m q d ms h ad L H R Hc) (s : Bk b R' Hc Hd) : Rst b m q d ms h ad L H R' Hd := ⟨w.bk.trans s, s.ls w.bk.bag w.m, s.ls w.bk.bag w.h, s.dl w.bk.bag w.d⟩
theorem Rst.less {b m q d : Addr} {ms h : List Str} {ad : Str → Addr} {L : Str → List Str} {H : Hp} {R R' : Nat} {Hc : Hp} (w : Rst b m q d ms h ad L H R Hc) (hr : R' ≤ R) : Rst b m q d ms h ad L H R' Hc := ⟨w.bk.less hr, w.m, w.h, w.d⟩
theorem manyAt {n : Nat} (h : n < 3) : ∃ k : Nat, k ≤ 39 ∧ atI [V.int 6, V.int 15, V.int 39] ((n : Nat) : Int) = some (.int (k : Nat)) := by
  have c : n = 0 ∨ n = 1 ∨ n = 2 := by omega
  rcases c with rfl | rfl | rfl
  · exact ⟨6, by decide, rfl⟩
  · exact ⟨15, by decide, rfl⟩
  · exact ⟨39, by decide, rfl⟩
abbrev sLawRight : Stmt := top 55
theorem scLawRight : FnScope ["_law_bag_here", "_law_members_here", "_law_first", "_law_style", "_law_history", "_law_lists_here", "_law_counts", "_law_at", "_law_pair", "_law_again", "_law_turn"] ["_law_bag_here"] (defScope sLawRight) := ⟨rfl, rfl, rfl, by decide +kernel, rfl, by decide +kernel, by decide +kernel⟩
def spLR : Sp := fun vs H Q _ => ∃ b : Addr, vs = [.ref b] ∧ BagAt 3000 b H ∧ ∀ H' r, Bk b r H H' → Q (.bl true) H'
theorem ok_law_right {C f : Addr} {fd : FuncData} (F : Fun K "_law_right" "_law_right" sLawRight f fd) (T : Txt K mg) (D_law_members : Dn P w K mg base CX0 2 "_law_members" ["_law_bag_here", "_law_least", "_law_most"] spMembers) (D_law_pick : Dn P w K mg base CX0 2 "_law_pick" ["_law_bag_here", "_law_values"] spPick)
    (D_law_take : Dn P w K mg base CX0 1 "_law_take" ["_law_bag_here", "_law_many"] spTake) (D_law_walk : Dn P w K mg base CX0 3 "_law_walk" ["_law_bag_here", "_law_members_here", "_law_history", "_law_many", "_law_style"] spWalk) (D_law_lists : Dn P w K mg base CX0 1 "_law_lists" ["_law_members_here", "_law_history"] spLawLists)
    (Dlists_of : Dn P w K mg base CX0 6 "lists_of" ["members", "history"] spListsOf) (Dhandovers_of : Dn P w K mg base CX0 6 "handovers_of" ["members", "history"] spHandovers) (Dhistory_of : DnX P w K mg base 6 "history_of" ["members", "first", "lists"] (spHistoryOf C))
    (Dlast_holder : Dn P w K mg base CX0 6 "last_holder" ["members", "first", "lists"] spLastHolder) (D_law_reordered : Dn P w K mg base CX0 3 "_law_reordered" ["_law_bag_here", "_law_members_here", "_law_first", "_law_lists_here"] spReord) (D_law_lists_right : Dn P w K mg base CX0 7 "_law_lists_right" ["_law_members_here", "_law_first", "_law_lists_here"] spRight)
    (Dconflict_of : Dn P w K mg base CX0 5 "conflict_of" ["members", "first", "lists"] spConflict) (D_law_changed : Dn P w K mg base CX0 3 "_law_changed" ["_law_bag_here", "_law_members_here", "_law_lists_here"] spChanged) : FnOk P w K mg base CX0 8 f fd ["_law_bag_here"] spLR := by
  refine F.ok scLawRight (fun vs H Q E h => ?_) (fun cdv A outer s H vs Q E hr h => ?_)
  · obtain ⟨b, rfl, _⟩ := h
    rfl
  · obtain ⟨b, rfl, hb, k⟩ := h
    have hu := hu_of hr
    refine ⟨_, (pss_cons (ps_set (i := 1) scLawRight.nd rfl (Or.inl rfl) (call_dn D_law_members hr (pa_cons (pv 0) (pa_cons pe_int (pa_cons pe_int pa_nil)))))
        (pss_cons (ps_par (i := 2) (j := 3) (by rfl) scLawRight.nd rfl rfl (by decide) rfl rfl (pa_cons (call_dn D_law_pick hr (pa_cons (pv 0) (pa_cons (pv 1) pa_nil))) (pa_cons (call_dn D_law_take hr (pa_cons (pv 0) (pa_cons pe_int pa_nil))) pa_nil)) (by rfl))
        (pss_cons (ps_set (i := 4) scLawRight.nd rfl (Or.inl rfl) (call_dn D_law_walk hr (pa_cons (pv 0) (pa_cons (pv 1) (pa_cons (pe_lst (pa_cons (pv 2) pa_nil)) (pa_cons (g_ixL T (pe_lst (pa_cons pe_int (pa_cons pe_int (pa_cons pe_int pa_nil)))) (call_dn D_law_take hr (pa_cons (pv 0) (pa_cons pe_int pa_nil))) (fun _ _ => rfl)) (pa_cons (pv 3) pa_nil)))))))
        (pss_cons (ps_par (i := 5) (j := 6) (by rfl) scLawRight.nd rfl rfl (by decide) rfl rfl (pa_cons (call_dn D_law_lists hr (pa_cons (pv 1) (pa_cons (pv 4) pa_nil))) (pa_cons pe_dnewT pa_nil)) (by rfl))
        (pss_cons (ps_for PassesOwn.never rfl (pi_range2 (by rfl) T.range (pa_cons pe_int (pa_cons (g_lenL T (pv 4)) pa_nil))) (pg_name (i := 7) scLawRight.nd rfl (by first | exact Or.inl rfl | exact Or.inr rfl)) (pss_cons (ps_set (i := 8) scLawRight.nd rfl (Or.inl rfl) (pe_tup (pa_cons (g_ixL T (pv 4) (pe_op op_sub (pv 7) pe_int) (fun _ _ => rfl)) (pa_cons (g_ixL T (pv 4) (pv 7) (fun _ _ => rfl)) pa_nil))))
            (pss_one (ps_dput hu (pv 6) (pv 8) (pe_op op_add (pe_dget2 hu (pv 6) (pv 8) pe_int ⟨rfl, rfl, rfl, rfl⟩) pe_int) rfl))))
        (pss_cons (ps_if (PW.pt (pw_or (pt_cmpR (op_neDL hr) (call_dn Dlists_of hr (pa_cons (pv 1) (pa_cons (pv 4) pa_nil))) (pv 5) (nomark _)) (pw_or1 (pt_cmpR (op_neDT hr) (call_dn Dhandovers_of hr (pa_cons (pv 1) (pa_cons (pv 4) pa_nil))) (pv 6) (nomark _))))) (pss_one (ps_ret pe_bl)) pss_nil)
        (pss_cons (ps_if (PW.pt (pw_or (pt_cmpR (op_neL hr.units) (call_dn0 Dhistory_of hr (pa_cons (pv 1) (pa_cons (pv 2) (pa_cons (pv 5) pa_nil)))) (pv 4) (nomark _)) (pw_or1 (pt_cmpR op_ne (call_dn Dlast_holder hr (pa_cons (pv 1) (pa_cons (pv 2) (pa_cons (pv 5) pa_nil)))) (g_ixL T (pv 4) (pe_un un_neg pe_int) (fun _ _ => rfl)) (nomark _))))) (pss_one (ps_ret pe_bl)) pss_nil)
        (pss_cons (ps_set (i := 9) scLawRight.nd rfl (Or.inl rfl) (call_dn D_law_reordered hr (pa_cons (pv 0) (pa_cons (pv 1) (pa_cons (pv 2) (pa_cons (pv 5) pa_nil))))))
        (pss_cons (ps_if (PW.pt (pw_or (pt_not (pt_val (call_dn D_law_lists_right hr (pa_cons (pv 1) (pa_cons (pv 2) (pa_cons (pv 9) pa_nil)))))) (pw_or1 (pt_cmpR op_notN (call_dn Dconflict_of hr (pa_cons (pv 1) (pa_cons (pv 2) (pa_cons (pv 9) pa_nil)))) pe_non (nomark _))))) (pss_one (ps_ret pe_bl)) pss_nil)
        (pss_cons (ps_for PassesOwn.never rfl (pi_range1 (by rfl) T.range (pa_cons pe_int pa_nil)) (pg_name (i := 10) scLawRight.nd rfl (by first | exact Or.inl rfl | exact Or.inr rfl)) (pss_cons (ps_set (i := 9) scLawRight.nd rfl (Or.inl rfl) (call_dn D_law_changed hr (pa_cons (pv 0) (pa_cons (pv 1) (pa_cons (pv 9) pa_nil)))))
            (pss_one (ps_if (pt_not (pt_val (call_dn D_law_lists_right hr (pa_cons (pv 1) (pa_cons (pv 2) (pa_cons (pv 9) pa_nil)))))) (pss_one (ps_ret pe_bl)) pss_nil))))
        (pss_one (ps_ret (call_dn D_law_lists_right hr (pa_cons (pv 1) (pa_cons (call_dn D_law_pick hr (pa_cons (pv 0) (pa_cons (pv 1) pa_nil))) (pa_cons (pv 5) pa_nil)))))))))))))))), ?_⟩
    refine ⟨_, rfl, b, 2999, rfl, hb, fun H1 m ms kb1 hm0 hm1 M => ?_⟩
    have mne : ms ≠ [] := fun q => by have := M.l1; rw [q] at this; cases this
    have m12 := M.l12
    refine ⟨_, rfl, _, rfl, b, m, 2998, ms, rfl, kb1.bag, hm1, mne, by omega, fun H2 first k2 hf => ?_⟩
    have kb2 := kb1.trans k2
    have hm2 := k2.ls kb1.bag hm1
    refine ⟨_, rfl, b, 4, 2997, rfl, kb2.bag, by decide, by decide, fun H3 style k3 hst => ⟨_, _, rfl, ?_⟩⟩
    have kb3 := kb2.trans k3
    have hm3 := k3.ls kb2.bag hm2
    -- history
    refine ⟨_, rfl, _, rfl, _, rfl, (by show 1 ≤ sizeLine; decide), fun l1 hl1 => ⟨(by show 3 ≤ sizeLine; decide), fun l2 hl2 => ?_⟩⟩
    have l1b : l1 ≠ b := kb3.bag.neN hl1
    have kb4 := (kb3.more (Same.new (o := .lst [V.str first]) hl1)).more (Same.new (o := .lst [V.int 6, V.int 15, V.int 39]) hl2)
    have hm4 := Same.ls (Same.new (o := .lst [V.int 6, V.int 15, V.int 39]) hl2) (Same.ls (Same.new (o := .lst [V.str first]) hl1) hm3)
    have e1 : LS (upd (upd H3 l1 (.lst [V.str first])) l2 (.lst [V.int 6, V.int 15, V.int 39])) l1 [first] := Same.ls (xs := [first]) (Same.new hl2) upd_same
    have e2 : upd (upd H3 l1 (.lst [V.str first])) l2 (.lst [V.int 6, V.int 15, V.int 39]) l2 = some (.lst [V.int 6, V.int 15, V.int 39]) := upd_same
    have l2b : l2 ≠ b := (kb3.more (Same.new (o := .lst [V.str first]) hl1)).bag.neN hl2
    generalize upd (upd H3 l1 (.lst [V.str first])) l2 (.lst [V.int 6, V.int 15, V.int 39]) = H4 at kb4 hm4 e1 e2 ⊢
    refine ⟨_, rfl, b, 3, 2996, rfl, kb4.bag, by decide, by decide, fun H5 n3 k5 hn3 => ?_⟩
    obtain ⟨many, hmany, hat⟩ := manyAt hn3
    have kb5 := kb4.trans k5
    have hm5 := k5.ls kb4.bag hm4
    have e5 := k5.ls kb4.bag e1
    refine ⟨l2, _, _, .int (many : Nat), rfl, rfl, SqL.of (k5.keep l2 _ l2b e2), hat, _, rfl, ?_⟩
    refine ⟨b, m, l1, many, style, 2801, ms, first, rfl, kb5.bag.less (by omega), hm5, M, e5, hf, hst, by omega, fun H6 q h k6 hq0 hqh hhd Hh hhl => ?_⟩
    have kb6 := kb5.trans k6
    have hm6 := k6.ls kb5.bag hm5
    have hl60 : h.length ≤ 60 := by omega
    obtain ⟨z, O⟩ := his_ok M Hh hhd
    -- lists
    refine ⟨_, rfl, _, rfl, m, ms, q, h, rfl, hm6, M, hqh, Hh.mem, Hh.ne, by omega, fun H7 d ad N7 => ?_⟩
    have w7 : Rst b m q d ms h ad (GM.lof h) H 2801 H7 := ⟨kb6.more N7.same, Same.ls N7.same hm6, Same.ls N7.same hqh, N7.dl⟩
    intro c hc
    refine ⟨_, _, rfl, ?_⟩
    have w8 := w7.new (Same.new (o := .dT []) hc)
    have ec : upd H7 c (.dT []) c = some (.dT []) := upd_same
    have hc0 : H c = none := w7.bk.free hc
    have hcb : c ≠ b := w7.bk.bag.neN hc
    generalize upd H7 c (.dT []) = H8 at w8 ec ⊢
    -- counts
    have hlen : ((h.map V.str).length : Int) = (h.length : Nat) := by rw [List.length_map]
    have zl : (h.zip (h.drop 1)).length = h.length - 1 := by rw [List.length_zip, List.length_drop]; omega
    refine ⟨_, rfl, q, _, rfl, .inl (SqL.of w8.h), 1, _, rfl, ⟨by decide, by decide, by omega, by omega⟩, for_it (walk_range) (fun i σ H' => (∃ u v x y, σ = [some (.ref b), some (.ref m), some (.str first), some (.int (style : Nat)), some (.ref q), some (.ref d), some (.ref c), u, v, x, y]) ∧ Rst b m q d ms h ad (GM.lof h) H 2801 H' ∧ ∃ D, H' c = some (.dT D) ∧ Cnt D ((h.zip (h.drop 1)).take i))
      ⟨⟨_, _, _, _, rfl⟩, w8, [], ec, cnt_nil⟩ (fun _ _ _ _ _ => trivial) ?_ ?_⟩
    · rintro i x σ H' H'' hi ⟨⟨u, v, x1, x2, rfl⟩, w9, D, hD, Cn⟩ ⟨rfl, rfl⟩
      have hlt : i + 1 < h.length := by omega
      obtain ⟨g, hg⟩ : ∃ g, h[i]? = some g := ⟨h[i], List.getElem?_eq_getElem (by omega)⟩
      obtain ⟨r2, hr2⟩ : ∃ r, h[i + 1]? = some r := ⟨h[i + 1], List.getElem?_eq_getElem hlt⟩
      have hz : (h.zip (h.drop 1))[i]? = some (g, r2) := List.getElem?_zip_eq_some.mpr ⟨hg, by rw [List.getElem?_drop, Nat.add_comm]; exact hr2⟩
      refine ⟨_, rfl, _, rfl, _, _, rfl, rfl, q, _, _, .str g, rfl, rfl, SqL.of w9.h, at_of (j := i) (by omega) (by rw [List.getElem?_map, hg]; rfl), ?_⟩
      refine ⟨_, rfl, _, rfl, q, _, _, .str r2, rfl, rfl, SqL.of w9.h, at_of (j := i + 1) (by omega) (by rw [List.getElem?_map, hr2]; rfl), (by show 2 ≤ sizeLine; decide), fun t ht => ?_⟩
      have w10 := w9.new (Same.new (o := .tup [V.str g, V.str r2]) ht)
      have hD2 : upd H'' t (.tup [V.str g, V.str r2]) c = some (.dT D) := Same.new ht _ _ hD
      have et : upd H'' t (.tup [V.str g, V.str r2]) t = some (.tup ((kk (g, r2)).map kV)) := upd_same
      generalize upd H'' t (.tup [V.str g, V.str r2]) = H10 at w10 hD2 et ⊢
      refine ⟨_, rfl, c, rfl, Or.inr ⟨D, Or.inl hD2⟩, _, rfl, _, DGet.t (k := kk (g, r2)) hD2 et, ?_⟩
      rw [Cn.val (g, r2)]
      have e : (if (g, r2) ∈ (h.zip (h.drop 1)).take i then some (V.int (((h.zip (h.drop 1)).take i).count (g, r2) : Nat)) else none).getD (.int 0) = .int (((h.zip (h.drop 1)).take i).count (g, r2) : Nat) := by
        by_cases cc : (g, r2) ∈ (h.zip (h.drop 1)).take i
        · rw [if_pos cc]; rfl
        · rw [if_neg cc, List.count_eq_zero.mpr cc]; rfl
      rw [e]
      have hD60 : D.length < sizeLine := by
        have := cnt_len Cn h.length (by rw [List.length_take]; omega)
        exact small (by omega)
      refine ⟨_, _, rfl, rfl, _, rfl, _, rfl, c, _, rfl, DPut.t (k := kk (g, r2)) hD2 et hD60, ⟨_, _, _, _, rfl⟩, ⟨w10.bk.mut hc0 hcb, ?_, ?_, ?_⟩, _, upd_same, ?_⟩
      · show upd _ c _ m = _
        rw [upd_ne (ne_of w10.m hD2 (fun z => nomatch z))]; exact w10.m
      · show upd _ c _ q = _
        rw [upd_ne (ne_of w10.h hD2 (fun z => nomatch z))]; exact w10.h
      · refine ⟨?_, fun y hy => ?_⟩
        · show upd _ c _ d = _
          rw [upd_ne (ne_of w10.d.dk hD2 (fun z => nomatch z))]; exact w10.d.dk
        · show upd _ c _ (ad y) = _
          rw [upd_ne (ne_of (w10.d.l y hy) hD2 (fun z => nomatch z))]; exact w10.d.l y hy
      · rw [take_snoc hz]; exact cnt_snoc Cn (g, r2)
    · rintro σ H9 ⟨⟨u, v, x1, x2, rfl⟩, w9, D, hD, Cn⟩
      have en : (((h.map V.str).length : Int) - 1).toNat = (h.zip (h.drop 1)).length := by omega
      have Cn : Cnt D (h.zip (h.drop 1)) := by
        have Cn' := Cn
        rw [en, List.take_length] at Cn'
        exact Cn'
      have soh : SOk h := M.sOkL Hh.mem
      -- lists_of, handovers_of
      refine ⟨_, rfl, _, rfl, m, ms, q, h, rfl, w9.m, M, w9.h, Hh, fun H10 d10 ad10 N10 => ⟨_, rfl, dl_neDL N10.dl (w9.d.on N10.same) (fun x _ => rfl) ⟨_, rfl, iteF ?_⟩⟩⟩
      have w10 := w9.new N10.same
      refine ⟨_, rfl, _, rfl, m, ms, q, h, rfl, w10.m, M, w10.h, Hh, fun H11 d11 D11 zs11 s11 hd11 hD11 C11 pm11 => ⟨_, rfl, d11, c, D11, D, rfl, rfl, hD11, s11 _ _ (N10.same _ _ hD), (cnt_eq C11 Cn pm11).1, (cnt_eq C11 Cn pm11).2, ⟨_, rfl, iteF ?_⟩⟩⟩
      have w11 := w10.new s11
      -- history_of, last_holder
      refine ⟨_, rfl, _, rfl, _, rfl, m, ms, first, d, ad, GM.lof h, z, rfl, w11.m, M, hf, w11.d, O.lo, cf_ok M O.lo, fun _ => ⟨O.lst, fun H12 p12 s12 hp12 hh12 => ?_⟩, fun c' hc' => by rw [O.conf] at hc'; cases hc'⟩
      have w12 := w11.new s12
      rw [O.hist] at hh12
      refine ⟨_, rfl, p12, q, h, h, rfl, rfl, hh12, w12.h, soh, soh, ?_⟩
      rw [decide_eq_true (show h = h from rfl)]
      refine ⟨_, rfl, iteF ?_⟩
      refine ⟨_, rfl, _, rfl, _, rfl, m, ms, first, d, ad, GM.lof h, z, rfl, w12.m, M, hf, w12.d, O.lo, O.conf, O.lst, fun H13 z13 s13 hz13 => ?_⟩
      have w13 := w12.new s13
      rw [O.hist] at hz13
      refine ⟨_, rfl, _, rfl, q, _, _, .str z13, rfl, rfl, SqL.of w13.h, at_end hz13, rfl, ?_⟩
      rw [decide_eq_true (show V.str z13 = V.str z13 from rfl)]
      refine ⟨_, rfl, iteF ?_⟩
      -- reordered
      refine ⟨_, rfl, _, rfl, _, rfl, _, rfl, b, m, d, first, 100, ms, ad, GM.lof h, rfl, w13.bk.bag.less (by omega), w13.m, M, w13.d, O.lo, fun H14 e14 ad14 L14 k14 he14 D14 R14 => ?_⟩
      have w14 := w13.step k14
      obtain ⟨cf14, lok14, len14⟩ := reo_ok hf O.lo O.conf R14
      have Lo14 : LsOk ms L14 := ⟨lok14, fun x hx => by rw [len14 x hx]; exact O.lo.len x hx⟩
      refine ⟨_, rfl, _, rfl, _, rfl, m, ms, first, e14, ad14, L14, rfl, w14.m, M, hf, D14, Lo14, fun H15 s15 => ⟨_, rfl, iteF ?_⟩⟩
      have w15 := w14.new s15
      refine ⟨_, rfl, _, rfl, _, rfl, m, ms, first, e14, ad14, L14, rfl, w15.m, M, hf, D14.on s15, Lo14, fun H16 r16 s16 cv16 => ⟨rfl, ?_⟩⟩
      rw [cf14] at cv16
      rw [decide_eq_true (show r16 = .non from cv16)]
      refine ⟨_, rfl, iteF ?_⟩
      have w16 := w15.new s16
      -- three changes
      refine ⟨3, rfl, by decide, by decide, for_it (walk_range) (fun i σ H' => (∃ u v e x, σ = [some (.ref b), some (.ref m), some (.str first), some (.int (style : Nat)), some (.ref q), some (.ref d), some (.ref c), u, v, some (.ref e), x] ∧ ∃ (ade : Str → Addr) (Le : Str → List Str), DL H' e ms ade Le ∧ GM.Lok ms Le ∧ ∀ x ∈ ms, (Le x).length ≤ 100 + i) ∧ Rst b m q d ms h ad (GM.lof h) H (30 + 7 * (3 - i)) H')
        ⟨⟨_, _, e14, _, rfl, ad14, L14, (D14.on s15).on s16, lok14, fun x hx => by rw [len14 x hx]; exact O.len x hx⟩, w16.less (by decide)⟩ (fun _ _ _ _ _ => trivial) ?_ ?_⟩
      · rintro i x σ H' H'' hi ⟨⟨u, v, e, y, rfl, ade, Le, De, Loke, lene⟩, w17⟩ ⟨rfl, rfl⟩
        have hi3 : i < 3 := hi
        have e7 : 30 + 7 * (3 - i) = 30 + 7 * (3 - (i + 1)) + 7 := by omega
        rw [e7] at w17
        refine ⟨_, rfl, _, rfl, _, rfl, b, m, e, 30 + 7 * (3 - (i + 1)), 100 + i, ms, ade, Le, rfl, w17.bk.bag, w17.m, M, De, Loke, lene, by omega, fun H18 e18 ad18 L18 k18 he18 D18 Lok18 len18 => ?_⟩
        have w18 := w17.step k18
        refine ⟨_, rfl, _, rfl, _, rfl, m, ms, first, e18, ad18, L18, rfl, w18.m, M, hf, D18, ⟨Lok18, fun x hx => Nat.le_trans (len18 x hx) (by omega)⟩, fun H19 s19 => ⟨_, rfl, iteF ?_⟩⟩
        exact ⟨⟨_, _, e18, _, rfl, ad18, L18, D18.on s19, Lok18, fun x hx => by have := len18 x hx; omega⟩, w18.new s19⟩
      · rintro σ H17 ⟨⟨u, v, e, y, rfl, ade, Le, De, Loke, lene⟩, w17⟩
        refine ⟨_, rfl, _, rfl, _, rfl, b, m, 29, ms, rfl, w17.bk.bag.less (by omega), w17.m, mne, by omega, fun H20 f20 k20 hf20 => ?_⟩
        have w20 := w17.step k20
        exact ⟨_, rfl, m, ms, f20, d, ad, GM.lof h, rfl, w20.m, M, hf20, w20.d, O.lo, fun H21 s21 => k H21 _ (w20.bk.more s21)⟩
end G

set_option maxHeartbeats 4000000
namespace G
open PySem L2
variable {P : Program} {w : World} {K : PySem.W.Frag} {mg : Str → Option Value} {base : Heap}
abbrev sLaw : Stmt := top 56
theorem scLaw : FnScope ["_law_script", "_law_k"] ["_law_script"] (defScope sLaw) := ⟨rfl, rfl, rfl, by decide +kernel, rfl, by decide +kernel, by decide +kernel⟩
def spLaw (K : PySem.W.Frag) : Sp := fun vs H Q _ => ∃ (a : Addr) (ns : List Int), vs = [.ref a] ∧ SqL K H a (ns.map V.int) ∧ ∀ H', Q (.bl true) H'
theorem ok_law {f : Addr} {fd : FuncData} (F : Fun K "law" "law" sLaw f fd) (T : Txt K mg) (D_law_bag : Dn P w K mg base CX0 1 "_law_bag" ["_law_script", "_law_k"] (spBag K)) (D_law_right : Dn P w K mg base CX0 8 "_law_right" ["_law_bag_here"] spLR) : FnOk P w K mg base CX0 9 f fd ["_law_script"] (spLaw K) := by
  refine F.ok scLaw (fun vs H Q E h => ?_) (fun cdv A outer s H vs Q E hr h => ?_)
  · obtain ⟨a, ns, rfl, _⟩ := h
    rfl
  · obtain ⟨a, ns, rfl, ha, k⟩ := h
    refine ⟨_, (pss_cons (ps_for PassesOwn.never rfl (pi_range1 (by rfl) T.range (pa_cons (g_max T pe_int (g_min T pe_int (g_lenL T (pv 0)))) pa_nil)) (pg_name (i := 1) scLaw.nd rfl (by first | exact Or.inl rfl | exact Or.inr rfl)) (pss_one (ps_if (pt_not (pt_val (call_dn D_law_right hr (pa_cons (call_dn D_law_bag hr (pa_cons (pv 0) (pa_cons (pv 1) pa_nil))) pa_nil)))) (pss_one (ps_ret pe_bl)) pss_nil)))
        (pss_one (ps_ret pe_bl))), ?_⟩
    have b1 : ∀ n : Int, (if (if n < 12 then n else 12) > 6 then (if n < 12 then n else 12) else 6) ≤ 12 ∧ 0 ≤ (if (if n < 12 then n else 12) > 6 then (if n < 12 then n else 12) else 6) := fun n => by
      split <;> split <;> omega
    refine ⟨_, rfl, _, _, rfl, Or.inl ha, _, _, rfl, _, _, rfl, _, rfl, ?_, ?_, for_it (walk_range) (fun i σ H' => (∃ u, σ = [some (.ref a), u]) ∧ Same H H') ⟨⟨_, rfl⟩, Same.refl _⟩ (fun _ _ _ _ _ => trivial) ?_ ?_⟩
    · have := b1 ((ns.map V.int).length : Nat); omega
    · have := b1 ((ns.map V.int).length : Nat); omega
    · rintro i x σ H' H'' hi ⟨⟨u, rfl⟩, s1⟩ ⟨rfl, rfl⟩
      have hi12 : i ≤ 12 := by have := b1 ((ns.map V.int).length : Nat); omega
      refine ⟨_, rfl, _, rfl, a, ns, i, ?_, Same.seq s1 ha, by omega, fun H1 p s2 hp0 hb => ?_⟩
      · show [V.ref a, V.int (0 + (i : Nat))] = _
        rw [Int.zero_add]
      · refine ⟨p, rfl, hb.less (by decide), fun H2 r k2 => ⟨_, rfl, iteF ⟨⟨_, rfl⟩, fun c o e => ?_⟩⟩⟩
        have e1 := s1 c o e
        exact k2.keep c o (ne_of_none e1 hp0) (s2 c o e1)
    · rintro σ H' ⟨⟨u, rfl⟩, s1⟩
      exact k H'
end G

set_option maxHeartbeats 8000000
namespace G
open PySem L2
/-- the def x as the top has written it -/
structure DefF (K : PySem.W.Frag) (mg : Str → Option Value) (x : Str) (st : Stmt) : Prop where
  ex : ∃ f fd, Fun K x x st f fd ∧ mg x = some (.ref f)
theorem def_mk {K : PySem.W.Frag} {h : Heap} {mg : Str → Option Value} {x : Str} {st : Stmt} {f : Addr} {oc kV dc pm cd ct : Value} {od an : Option Addr} {sl : Array (Option Value)} (X : K.In h) (G : h.Ns mainGlobals mg)
    (a : PySem.W.nsIn K mainGlobals x = some (some (.ref f))) (l : K.lookup f = some ⟨oc, od, .func (PySem.W.fnOf x x (defArgs st) (defBody st) (defScope st) .none kV dc pm an cd ct), sl⟩) (c : PySem.W.codeIn K cd x = true) (k : PySem.W.keepIn K (.ref f) = true) : DefF K mg x st :=
  ⟨f, _, fun_mk (st := st) l c k, PySem.W.mg_of X G a⟩
theorem dn_of {P : Program} {w : World} {K : PySem.W.Frag} {mg : Str → Option Value} {base : Heap} {k : Nat} {x : Str} {st : Stmt} {ps : List Str} {sp : Sp} (d : DefF K mg x st) (ok : ∀ {f fd}, Fun K x x st f fd → FnOk P w K mg base CX0 k f fd ps sp)
    (b : ∀ {f fd}, Fun K x x st f fd → Binds K fd ps []) : Dn P w K mg base CX0 k x ps sp := by
  obtain ⟨f, fd, F, m⟩ := d.ex
  exact ⟨f, fd, ok F, m, F.kp, b F⟩
theorem dnX_of {P : Program} {w : World} {K : PySem.W.Frag} {mg : Str → Option Value} {base : Heap} {k : Nat} {x : Str} {st : Stmt} {ps : List Str} {sp : Sp} (d : DefF K mg x st) (ok : ∀ {f fd}, Fun K x x st f fd → FnOk P w K mg base (L2.CX P w) k f fd ps sp)
    (b : ∀ {f fd}, Fun K x x st f fd → Binds K fd ps []) : DnX P w K mg base k x ps sp := by
  obtain ⟨f, fd, F, m⟩ := d.ex
  exact ⟨f, fd, ok F, m, F.kp, b F⟩
/-- Inconsistent and its __init__ as the top has written them -/
structure IncD (K : PySem.W.Frag) (mg : Str → Option Value) : Prop where
  ex : ∃ C fI fd, IncT K mg C fI ∧ Fun K "__init__" "Inconsistent.__init__" sInit fI fd
theorem exm_own {K : PySem.W.Frag} {S : Addr} (h1 : PySem.W.subIn K (.ref S) (.type "BaseException") = some true) (h2 : PySem.W.isClsIn K S = true) (h3 : PySem.W.typeIn K (.ref S) = some (.type "type")) (h4 : PySem.W.subIn K (.ref S) (.ref S) = some true) :
    PySem.W.exmOne K (.ref S) (.ref S) = some true := by
  unfold PySem.W.exmOne PySem.W.kitCls
  have e2 : (PySem.W.clsIn K S).isSome = true := h2
  simp only [h1, h3, h4, e2, beq_self_eq_true, Bool.and_self, if_true]
theorem inc_mk {K : PySem.W.Frag} {h : Heap} {mg : Str → Option Value} {C B fI : Addr} {nm q : Str} {N : Addr} {bs bm : List Value} {sn : List Str} {sub : List Value} {ab : Bool} {col : Option Bool} {dd : Option Addr} {m0 m1 m2 m3 m5 : Option Value}
    {oc kV dc pm cd ct : Value} {od an : Option Addr} {sl : Array (Option Value)} (X : K.In h) (G : h.Ns mainGlobals mg)
    (aC : PySem.W.nsIn K mainGlobals "Inconsistent" = some (some (.ref C))) (aB : PySem.W.nsIn K mainGlobals "GroupError" = some (some (.ref B)))
    (xL : K.lookup C = some (excClassObj nm q C N bs bm true sn sub ab col dd m0 m1 m2 m3 m5 "ValueError.__new__")) (hbm : PySem.HandSPX.refsVE bm = true)
    (sa : PySem.W.findIn K (.ref C) "__setattr__" = some (some (.builtin "object.__setattr__"))) (ga : PySem.W.findIn K (.ref C) "__getattribute__" = some (some (.builtin "BaseException.__getattribute__"))) (gg : PySem.W.findIn K (.ref C) "__getattr__" = some none)
    (nb : PySem.W.findIn K (.ref C) "conflict" = some none) (a1 : PySem.W.findIn K (.ref C) "__init__" = some (some (.ref fI))) (t1 : PySem.W.typeIn K (.ref fI) = some (.type "function"))
    (l1 : K.lookup fI = some ⟨oc, od, .func (PySem.W.fnOf "__init__" "Inconsistent.__init__" (defArgs sInit) (defBody sInit) (defScope sInit) .none kV dc pm an cd ct), sl⟩) (c1 : PySem.W.codeIn K cd "Inconsistent.__init__" = true) (k1 : PySem.W.keepIn K (.ref fI) = true)
    (kC : PySem.W.keepIn K (.ref C) = true) (eC : PySem.W.subIn K (.ref C) (.type "BaseException") = some true) (tC : PySem.W.typeIn K (.ref C) = some (.type "type")) (hC : PySem.W.hasDictIn K C = true) (iC : PySem.W.isClsIn K C = true) (sC : PySem.W.subIn K (.ref C) (.ref C) = some true)
    (rB : PySem.W.readsIn K B (.type "type") = true) (gB : PySem.W.specialIn K (.ref B) "__getattribute__" = some (some (.builtin "type.__getattribute__"))) (vB : PySem.W.findCls K (.ref B) (.type "type") "__init__" = some (.val (.builtin "ValueError.__init__"))) : IncD K mg :=
  ⟨C, fI, _, { ox := ⟨⟨nm, q, N, bs, bm, sn, sub, ab, col, dd, m0, m1, m2, m3, m5, xL, hbm⟩, sa, eC, tC, kC⟩, gC := PySem.W.mg_of X G aC, iC := a1, tI := t1, noC := nb, xf := ⟨ga, gg, eC, hC⟩, te := exm_own eC iC tC sC, grp := ⟨B, .type "type", PySem.W.mg_of X G aB, ⟨rB, gB⟩, vB⟩ }, fun_mk (st := sInit) l1 c1 k1⟩
theorem all_mk {P : Program} {w : World} {K : PySem.W.Frag} {mg : Str → Option Value} {fa : Addr} (hfa : mg "law" = some (.ref fa)) (T : Txt K mg) (I : IncD K mg)
    (dis_name : DefF K mg "is_name" sIsName)
    (dis_members : DefF K mg "is_members" sIsMembers)
    (dneed_members : DefF K mg "need_members" sNeedMembers)
    (dis_member : DefF K mg "is_member" sIsMember)
    (dneed_member : DefF K mg "need_member" sNeedMember)
    (dis_history : DefF K mg "is_history" sIsHistory)
    (dneed_history : DefF K mg "need_history" sNeedHistory)
    (dlists_of : DefF K mg "lists_of" sListsOf)
    (dhandovers_of : DefF K mg "handovers_of" sHandoversOf)
    (dare_lists_of : DefF K mg "are_lists_of" sAreListsOf)
    (dneed_lists : DefF K mg "need_lists" sNeedLists)
    (duses_of : DefF K mg "uses_of" sUsesOf)
    (dsurpluses_of : DefF K mg "surpluses_of" sSurplusesOf)
    (dstarts_of : DefF K mg "starts_of" sStartsOf)
    (dring_at : DefF K mg "ring_at" sRingAt)
    (dleast_ring : DefF K mg "least_ring" sLeastRing)
    (dconflict_in : DefF K mg "conflict_in" sConflictIn)
    (dwalked : DefF K mg "walked" sWalked)
    (dneed_consistent : DefF K mg "need_consistent" sNeedConsistent)
    (dconflict_of : DefF K mg "conflict_of" sConflictOf)
    (dis_count : DefF K mg "is_count" sIsCount)
    (dis_ring : DefF K mg "is_ring" sIsRing)
    (dis_conflict : DefF K mg "is_conflict" sIsConflict)
    (dhistory_of : DefF K mg "history_of" sHistoryOf)
    (dlast_holder : DefF K mg "last_holder" sLastHolder)
    (d_law_bag : DefF K mg "_law_bag" sLawBag)
    (d_law_take : DefF K mg "_law_take" sLawTake)
    (d_law_pick : DefF K mg "_law_pick" sLawPick)
    (d_law_members : DefF K mg "_law_members" sLawMembers)
    (d_law_walk : DefF K mg "_law_walk" sLawWalk)
    (d_law_lists : DefF K mg "_law_lists" sLawLists)
    (d_law_surplus : DefF K mg "_law_surplus" sLawSurplus)
    (d_law_shuffled : DefF K mg "_law_shuffled" sLawShuffled)
    (d_law_reordered : DefF K mg "_law_reordered" sLawReordered)
    (d_law_ring_at : DefF K mg "_law_ring_at" sLawRingAt)
    (d_law_conflict : DefF K mg "_law_conflict" sLawConflict)
    (d_law_lists_right : DefF K mg "_law_lists_right" sLawListsRight)
    (d_law_changed : DefF K mg "_law_changed" sLawChanged)
    (d_law_right : DefF K mg "_law_right" sLawRight)
    (dlaw : DefF K mg "law" sLaw) :
    ∃ fd : FuncData, (∀ (s : Shared) (u : Value), BindsTo s fd ⟨[u], []⟩ [("_law_script", u)]) ∧ ∀ base : Heap, FnOk P w K mg base CX0 9 fa fd ["_law_script"] (spLaw K) := by
  obtain ⟨C, fI, fdI, TI, FI⟩ := I.ex
  obtain ⟨fl, fdl, FL, ml⟩ := dlaw.ex
  have e := hfa.symm.trans ml
  cases e
  refine ⟨fdl, fun s u => ?_, fun base => ?_⟩
  · obtain ⟨oc, od, kV, doc, pm, an, cdv, ct, osl, rfl, lk, hcd⟩ := FL.ex
    exact .of_eq rfl
  have bI : Binds K fdI ["self", "conflict"] [] := FI.binds (ps := ["self", "conflict"]) fun _ _ _ _ _ _ us hl => match us, hl with | [_, _], _ => rfl
  have GI : FnOk P w K mg base CX0 1 fI fdI ["self", "conflict"] (spInc C) := ok_init FI TI
  have Dis_name : Dn P w K mg base CX0 1 "is_name" ["value"] spIsName := dn_of dis_name (fun F => ok_is_name F T ) (fun F => F.binds (ps := ["value"]) fun _ _ _ _ _ _ us hl => match us, hl with | [_], _ => rfl)
  have Dis_members : Dn P w K mg base CX0 2 "is_members" ["value"] spIsMembers := dn_of dis_members (fun F => ok_is_members F T Dis_name) (fun F => F.binds (ps := ["value"]) fun _ _ _ _ _ _ us hl => match us, hl with | [_], _ => rfl)
  have Dneed_members : Dn P w K mg base CX0 3 "need_members" ["members"] spNeedMembers := dn_of dneed_members (fun F => ok_need_members F T Dis_members) (fun F => F.binds (ps := ["members"]) fun _ _ _ _ _ _ us hl => match us, hl with | [_], _ => rfl)
  have Dis_member : Dn P w K mg base CX0 1 "is_member" ["members", "value"] spIsMember := dn_of dis_member (fun F => ok_is_member F T ) (fun F => F.binds (ps := ["members", "value"]) fun _ _ _ _ _ _ us hl => match us, hl with | [_, _], _ => rfl)
  have Dneed_member : Dn P w K mg base CX0 2 "need_member" ["members", "value"] spNeedMember := dn_of dneed_member (fun F => ok_need_member F T Dis_member) (fun F => F.binds (ps := ["members", "value"]) fun _ _ _ _ _ _ us hl => match us, hl with | [_, _], _ => rfl)
  have Dis_history : Dn P w K mg base CX0 4 "is_history" ["members", "value"] spIsHistory := dn_of dis_history (fun F => ok_is_history F T Dneed_members Dis_member) (fun F => F.binds (ps := ["members", "value"]) fun _ _ _ _ _ _ us hl => match us, hl with | [_, _], _ => rfl)
  have Dneed_history : Dn P w K mg base CX0 5 "need_history" ["members", "history"] spNeedHistory := dn_of dneed_history (fun F => ok_need_history F T Dis_history) (fun F => F.binds (ps := ["members", "history"]) fun _ _ _ _ _ _ us hl => match us, hl with | [_, _], _ => rfl)
  have Dlists_of : Dn P w K mg base CX0 6 "lists_of" ["members", "history"] spListsOf := dn_of dlists_of (fun F => ok_lists_of F T Dneed_history) (fun F => F.binds (ps := ["members", "history"]) fun _ _ _ _ _ _ us hl => match us, hl with | [_, _], _ => rfl)
  have Dhandovers_of : Dn P w K mg base CX0 6 "handovers_of" ["members", "history"] spHandovers := dn_of dhandovers_of (fun F => ok_handovers_of F T Dneed_history) (fun F => F.binds (ps := ["members", "history"]) fun _ _ _ _ _ _ us hl => match us, hl with | [_, _], _ => rfl)
  have Dare_lists_of : Dn P w K mg base CX0 2 "are_lists_of" ["members", "value"] spAreLists := dn_of dare_lists_of (fun F => ok_are_lists_of F T Dis_member) (fun F => F.binds (ps := ["members", "value"]) fun _ _ _ _ _ _ us hl => match us, hl with | [_, _], _ => rfl)
  have Dneed_lists : Dn P w K mg base CX0 4 "need_lists" ["members", "first", "lists"] spNeedLists := dn_of dneed_lists (fun F => ok_need_lists F T Dneed_members Dneed_member Dare_lists_of) (fun F => F.binds (ps := ["members", "first", "lists"]) fun _ _ _ _ _ _ us hl => match us, hl with | [_, _, _], _ => rfl)
  have Duses_of : Dn P w K mg base CX0 1 "uses_of" ["members", "first", "lists"] spUses := dn_of duses_of (fun F => ok_uses_of F T ) (fun F => F.binds (ps := ["members", "first", "lists"]) fun _ _ _ _ _ _ us hl => match us, hl with | [_, _, _], _ => rfl)
  have Dsurpluses_of : Dn P w K mg base CX0 2 "surpluses_of" ["members", "first", "lists"] spSurpl := dn_of dsurpluses_of (fun F => ok_surpluses_of F T Duses_of) (fun F => F.binds (ps := ["members", "first", "lists"]) fun _ _ _ _ _ _ us hl => match us, hl with | [_, _, _], _ => rfl)
  have Dstarts_of : Dn P w K mg base CX0 1 "starts_of" ["members", "first", "lists"] spStarts := dn_of dstarts_of (fun F => ok_starts_of F T ) (fun F => F.binds (ps := ["members", "first", "lists"]) fun _ _ _ _ _ _ us hl => match us, hl with | [_, _, _], _ => rfl)
  have Dring_at : Dn P w K mg base CX0 1 "ring_at" ["starts", "member"] spRingAt := dn_of dring_at (fun F => ok_ring_at F T ) (fun F => F.binds (ps := ["starts", "member"]) fun _ _ _ _ _ _ us hl => match us, hl with | [_, _], _ => rfl)
  have Dleast_ring : Dn P w K mg base CX0 2 "least_ring" ["starts"] spLeast := dn_of dleast_ring (fun F => ok_least_ring F T Dring_at) (fun F => F.binds (ps := ["starts"]) fun _ _ _ _ _ _ us hl => match us, hl with | [_], _ => rfl)
  have Dconflict_in : Dn P w K mg base CX0 3 "conflict_in" ["members", "first", "lists"] spConflict := dn_of dconflict_in (fun F => ok_conflict_in F T Duses_of Dstarts_of Dleast_ring) (fun F => F.binds (ps := ["members", "first", "lists"]) fun _ _ _ _ _ _ us hl => match us, hl with | [_, _, _], _ => rfl)
  have Dwalked : Dn P w K mg base CX0 3 "walked" ["members", "first", "lists"] spWalked := dn_of dwalked (fun F => ok_walked F T Dsurpluses_of) (fun F => F.binds (ps := ["members", "first", "lists"]) fun _ _ _ _ _ _ us hl => match us, hl with | [_, _, _], _ => rfl)
  have Dneed_consistent : DnX P w K mg base 5 "need_consistent" ["members", "first", "lists"] (spNeedC C) := dnX_of dneed_consistent (fun F => ok_need_consistent F TI GI bI Dneed_lists Dconflict_in) (fun F => F.binds (ps := ["members", "first", "lists"]) fun _ _ _ _ _ _ us hl => match us, hl with | [_, _, _], _ => rfl)
  have Dconflict_of : Dn P w K mg base CX0 5 "conflict_of" ["members", "first", "lists"] spConflict := dn_of dconflict_of (fun F => ok_conflict_of F T Dneed_lists Dconflict_in) (fun F => F.binds (ps := ["members", "first", "lists"]) fun _ _ _ _ _ _ us hl => match us, hl with | [_, _, _], _ => rfl)
  have Dis_count : Dn P w K mg base CX0 1 "is_count" ["value", "number"] spIsCount := dn_of dis_count (fun F => ok_is_count F T ) (fun F => F.binds (ps := ["value", "number"]) fun _ _ _ _ _ _ us hl => match us, hl with | [_, _], _ => rfl)
  have Dis_ring : Dn P w K mg base CX0 2 "is_ring" ["starts", "value"] spIsRing := dn_of dis_ring (fun F => ok_is_ring F T Dring_at) (fun F => F.binds (ps := ["starts", "value"]) fun _ _ _ _ _ _ us hl => match us, hl with | [_, _], _ => rfl)
  have Dis_conflict : Dn P w K mg base CX0 5 "is_conflict" ["members", "first", "lists", "value"] spIsConflict := dn_of dis_conflict (fun F => ok_is_conflict F T Dneed_lists Dis_ring Dstarts_of Dis_member Duses_of Dis_count) (fun F => F.binds (ps := ["members", "first", "lists", "value"]) fun _ _ _ _ _ _ us hl => match us, hl with | [_, _, _, _], _ => rfl)
  have Dhistory_of : DnX P w K mg base 6 "history_of" ["members", "first", "lists"] (spHistoryOf C) := dnX_of dhistory_of (fun F => ok_history_of F  Dneed_consistent Dwalked) (fun F => F.binds (ps := ["members", "first", "lists"]) fun _ _ _ _ _ _ us hl => match us, hl with | [_, _, _], _ => rfl)
  have Dlast_holder : Dn P w K mg base CX0 6 "last_holder" ["members", "first", "lists"] spLastHolder := dn_of dlast_holder (fun F => ok_last_holder F T Dneed_consistent Dwalked) (fun F => F.binds (ps := ["members", "first", "lists"]) fun _ _ _ _ _ _ us hl => match us, hl with | [_, _, _], _ => rfl)
  have D_law_bag : Dn P w K mg base CX0 1 "_law_bag" ["_law_script", "_law_k"] (spBag K) := dn_of d_law_bag (fun F => ok_law_bag F T ) (fun F => F.binds (ps := ["_law_script", "_law_k"]) fun _ _ _ _ _ _ us hl => match us, hl with | [_, _], _ => rfl)
  have D_law_take : Dn P w K mg base CX0 1 "_law_take" ["_law_bag_here", "_law_many"] spTake := dn_of d_law_take (fun F => ok_law_take F T ) (fun F => F.binds (ps := ["_law_bag_here", "_law_many"]) fun _ _ _ _ _ _ us hl => match us, hl with | [_, _], _ => rfl)
  have D_law_pick : Dn P w K mg base CX0 2 "_law_pick" ["_law_bag_here", "_law_values"] spPick := dn_of d_law_pick (fun F => ok_law_pick F T D_law_take) (fun F => F.binds (ps := ["_law_bag_here", "_law_values"]) fun _ _ _ _ _ _ us hl => match us, hl with | [_, _], _ => rfl)
  have D_law_members : Dn P w K mg base CX0 2 "_law_members" ["_law_bag_here", "_law_least", "_law_most"] spMembers := dn_of d_law_members (fun F => ok_law_members F T D_law_take) (fun F => F.binds (ps := ["_law_bag_here", "_law_least", "_law_most"]) fun _ _ _ _ _ _ us hl => match us, hl with | [_, _, _], _ => rfl)
  have D_law_walk : Dn P w K mg base CX0 3 "_law_walk" ["_law_bag_here", "_law_members_here", "_law_history", "_law_many", "_law_style"] spWalk := dn_of d_law_walk (fun F => ok_law_walk F T D_law_take D_law_pick) (fun F => F.binds (ps := ["_law_bag_here", "_law_members_here", "_law_history", "_law_many", "_law_style"]) fun _ _ _ _ _ _ us hl => match us, hl with | [_, _, _, _, _], _ => rfl)
  have D_law_lists : Dn P w K mg base CX0 1 "_law_lists" ["_law_members_here", "_law_history"] spLawLists := dn_of d_law_lists (fun F => ok_law_lists F T ) (fun F => F.binds (ps := ["_law_members_here", "_law_history"]) fun _ _ _ _ _ _ us hl => match us, hl with | [_, _], _ => rfl)
  have D_law_surplus : Dn P w K mg base CX0 1 "_law_surplus" ["_law_members_here", "_law_first", "_law_lists_here"] spSurpl := dn_of d_law_surplus (fun F => ok_law_surplus F T ) (fun F => F.binds (ps := ["_law_members_here", "_law_first", "_law_lists_here"]) fun _ _ _ _ _ _ us hl => match us, hl with | [_, _, _], _ => rfl)
  have D_law_shuffled : Dn P w K mg base CX0 2 "_law_shuffled" ["_law_bag_here", "_law_values"] spShuf := dn_of d_law_shuffled (fun F => ok_law_shuffled F T D_law_take) (fun F => F.binds (ps := ["_law_bag_here", "_law_values"]) fun _ _ _ _ _ _ us hl => match us, hl with | [_, _], _ => rfl)
  have D_law_reordered : Dn P w K mg base CX0 3 "_law_reordered" ["_law_bag_here", "_law_members_here", "_law_first", "_law_lists_here"] spReord := dn_of d_law_reordered (fun F => ok_law_reordered F T D_law_shuffled) (fun F => F.binds (ps := ["_law_bag_here", "_law_members_here", "_law_first", "_law_lists_here"]) fun _ _ _ _ _ _ us hl => match us, hl with | [_, _, _, _], _ => rfl)
  have D_law_ring_at : Dn P w K mg base CX0 1 "_law_ring_at" ["_law_first", "_law_lists_here", "_law_member"] spLawRingAt := dn_of d_law_ring_at (fun F => ok_law_ring_at F T ) (fun F => F.binds (ps := ["_law_first", "_law_lists_here", "_law_member"]) fun _ _ _ _ _ _ us hl => match us, hl with | [_, _, _], _ => rfl)
  have D_law_conflict : Dn P w K mg base CX0 2 "_law_conflict" ["_law_members_here", "_law_first", "_law_lists_here"] spConflict := dn_of d_law_conflict (fun F => ok_law_conflict F T D_law_surplus D_law_ring_at) (fun F => F.binds (ps := ["_law_members_here", "_law_first", "_law_lists_here"]) fun _ _ _ _ _ _ us hl => match us, hl with | [_, _, _], _ => rfl)
  have D_law_lists_right : Dn P w K mg base CX0 7 "_law_lists_right" ["_law_members_here", "_law_first", "_law_lists_here"] spRight := dn_of d_law_lists_right (fun F => ok_law_lists_right F T TI D_law_conflict Dconflict_of Dhistory_of Dis_conflict D_law_lists Dlast_holder) (fun F => F.binds (ps := ["_law_members_here", "_law_first", "_law_lists_here"]) fun _ _ _ _ _ _ us hl => match us, hl with | [_, _, _], _ => rfl)
  have D_law_changed : Dn P w K mg base CX0 3 "_law_changed" ["_law_bag_here", "_law_members_here", "_law_lists_here"] spChanged := dn_of d_law_changed (fun F => ok_law_changed F T D_law_take D_law_pick) (fun F => F.binds (ps := ["_law_bag_here", "_law_members_here", "_law_lists_here"]) fun _ _ _ _ _ _ us hl => match us, hl with | [_, _, _], _ => rfl)
  have D_law_right : Dn P w K mg base CX0 8 "_law_right" ["_law_bag_here"] spLR := dn_of d_law_right (fun F => ok_law_right F T D_law_members D_law_pick D_law_take D_law_walk D_law_lists Dlists_of Dhandovers_of Dhistory_of Dlast_holder D_law_reordered D_law_lists_right Dconflict_of D_law_changed) (fun F => F.binds (ps := ["_law_bag_here"]) fun _ _ _ _ _ _ us hl => match us, hl with | [_], _ => rfl)
  exact ok_law FL T D_law_bag D_law_right
theorem txt_mk {K : PySem.W.Frag} {h : Heap} {mg : Str → Option Value} {t1 t2 t3 t4 t5 : Tok} (X : K.In h) (G : h.Ns mainGlobals mg)
    (zlen : PySem.W.nsIn K mainGlobals "len" = some none)
    (zisinstance : PySem.W.nsIn K mainGlobals "isinstance" = some none)
    (zstr : PySem.W.nsIn K mainGlobals "str" = some none)
    (zlist : PySem.W.nsIn K mainGlobals "list" = some none)
    (zdict : PySem.W.nsIn K mainGlobals "dict" = some none)
    (ztuple : PySem.W.nsIn K mainGlobals "tuple" = some none)
    (zint : PySem.W.nsIn K mainGlobals "int" = some none)
    (zbool : PySem.W.nsIn K mainGlobals "bool" = some none)
    (zall : PySem.W.nsIn K mainGlobals "all" = some none)
    (zzip : PySem.W.nsIn K mainGlobals "zip" = some none)
    (zsorted : PySem.W.nsIn K mainGlobals "sorted" = some none)
    (zrange : PySem.W.nsIn K mainGlobals "range" = some none)
    (zmax : PySem.W.nsIn K mainGlobals "max" = some none)
    (zmin : PySem.W.nsIn K mainGlobals "min" = some none)
    (v1 : PySem.W.nsIn K mainGlobals "LETTERS" = some (some (.str "abcdefghijklmnopqrstuvwxyz" t1))) (v2 : PySem.W.nsIn K mainGlobals "MAX_LETTERS" = some (some (.int 8 t2))) (v3 : PySem.W.nsIn K mainGlobals "MAX_MEMBERS" = some (some (.int 12 t3)))
    (v4 : PySem.W.nsIn K mainGlobals "UNBALANCED" = some (some (.str "unbalanced" t4))) (v5 : PySem.W.nsIn K mainGlobals "RING" = some (some (.str "ring" t5))) : Txt K mg where
  len := PySem.W.mg_none_of X G zlen
  isinstance := PySem.W.mg_none_of X G zisinstance
  str := PySem.W.mg_none_of X G zstr
  list := PySem.W.mg_none_of X G zlist
  dict := PySem.W.mg_none_of X G zdict
  tuple := PySem.W.mg_none_of X G ztuple
  int := PySem.W.mg_none_of X G zint
  bool := PySem.W.mg_none_of X G zbool
  all := PySem.W.mg_none_of X G zall
  zip := PySem.W.mg_none_of X G zzip
  sorted := PySem.W.mg_none_of X G zsorted
  range := PySem.W.mg_none_of X G zrange
  max := PySem.W.mg_none_of X G zmax
  min := PySem.W.mg_none_of X G zmin
  letters := ⟨t1, PySem.W.mg_of X G v1⟩
  maxl := ⟨t2, PySem.W.mg_of X G v2⟩
  maxm := ⟨t3, PySem.W.mg_of X G v3⟩
  unb := ⟨t4, PySem.W.mg_of X G v4⟩
  ring := ⟨t5, PySem.W.mg_of X G v5⟩
theorem walk {l : PySem.W.OpenLaw} {q : Program} {loose : List Str} {XP : (Str → Option Value) → Heap → Prop} {YP : World → Heap → Prop} {d : DefRec} {K : Params → PySem.W.Frag} (hn : l.most = some 63) (hdf : d.params.defaults = [])
    (hY : ∀ (w : World) (h : Heap), YP w h → (K w.params).In h)
    (F : ∀ (w : World) (mg : Str → Option Value) (fa : Addr) (h : Heap), (K w.params).In h → h.Ns mainGlobals mg → mg d.name = some (.ref fa) →
      ∃ fd : FuncData, (∀ (s : Shared) (u : Value), BindsTo s fd ⟨[u], []⟩ [("_law_script", u)]) ∧ ∀ base : Heap, FnOk l.prog w (K w.params) mg base CX0 9 fa fd ["_law_script"] (spLaw (K w.params))) :
    PySem.W.WalkO q loose XP YP l.row.toRowW d [] (fun f vs => PySem.call f vs) :=
  L2.walk_of (n := 63) (k := 9) (x := "_law_script") (CX := fun _ => CX0) (sp := fun w => spLaw (K w.params)) hn (by decide) hdf ⟨rfl, by decide, by decide⟩ hY (fun w mg fa h KX G hm => let ⟨fd, b, k⟩ := F w mg fa h KX G hm; ⟨fd, b, fun base _ _ => k base⟩) (fun _ _ a ns hl _ hS => ⟨a, ns, rfl, hS, fun _ => rfl⟩) fun _ _ _ _ _ z => z
end G

open PySem PySem.W PyProof.Rows
set_option maxHeartbeats 0 in
theorem PySem.Challenge.cw_gotfrom_k60_whole_histories_rebuilt_holds : PySem.Challenge.rw_gotfrom_k60_whole_histories_rebuilt.Holds := by
  w_on; o_law; k_head; (case hw => w_witness2)
  k_fill
  refine G.walk (l := PySem.Challenge.rw_gotfrom_k60_whole_histories_rebuilt) rfl rfl (fun w h Y => PySem.W.kIn_of Y) ?F
  case F =>
    intro w mg fa h KX NS hmg
    refine' G.all_mk hmg ?T ?I ?d0 ?d1 ?d2 ?d3 ?d4 ?d5 ?d6 ?d7 ?d8 ?d9 ?d10 ?d11 ?d12 ?d13 ?d14 ?d15 ?d16 ?d17 ?d18 ?d19 ?d20 ?d21 ?d22 ?d23 ?d24 ?d25 ?d26 ?d27 ?d28 ?d29 ?d30 ?d31 ?d32 ?d33 ?d34 ?d35 ?d36 ?d37 ?d38 ?dl
    (case T => refine' G.txt_mk KX NS ?zlen ?zisinstance ?zstr ?zlist ?zdict ?ztuple ?zint ?zbool ?zall ?zzip ?zsorted ?zrange ?zmax ?zmin ?v1 ?v2 ?v3 ?v4 ?v5; (case zlen => k_is); (case zisinstance => k_is); (case zstr => k_is); (case zlist => k_is); (case zdict => k_is); (case ztuple => k_is); (case zint => k_is); (case zbool => k_is); (case zall => k_is); (case zzip => k_is); (case zsorted => k_is); (case zrange => k_is); (case zmax => k_is); (case zmin => k_is); (case v1 => k_is); (case v2 => k_is); (case v3 => k_is); (case v4 => k_is); (case v5 => k_is))
    (case I => refine' G.inc_mk KX NS ?aC ?aB ?xL ?hbm ?sa ?ga ?gg ?nb ?a1 ?t1 ?l1 ?c1 ?k1 ?kC ?eC ?tC ?hC ?iC ?sC ?rB ?gB ?vB; (case aC => k_is); (case aB => k_is); (case xL => k_is); (case hbm => first | k_is | decide +kernel); (case sa => k_is); (case ga => k_is); (case gg => k_is); (case nb => k_is); (case a1 => k_is); (case t1 => k_is); (case l1 => k_is); (case c1 => k_is); (case k1 => k_is); (case kC => k_is); (case eC => k_is); (case tC => k_is); (case hC => k_is); (case iC => k_is); (case sC => first | rfl | k_is); (case rB => k_is); (case gB => k_is); (case vB => k_is))
    (case d0 => refine' G.def_mk KX NS ?a ?l ?c ?k; (case a => k_is); (case l => k_is); (case c => k_is); (case k => k_is))
    (case d1 => refine' G.def_mk KX NS ?a ?l ?c ?k; (case a => k_is); (case l => k_is); (case c => k_is); (case k => k_is))
    (case d2 => refine' G.def_mk KX NS ?a ?l ?c ?k; (case a => k_is); (case l => k_is); (case c => k_is); (case k => k_is))
    (case d3 => refine' G.def_mk KX NS ?a ?l ?c ?k; (case a => k_is); (case l => k_is); (case c => k_is); (case k => k_is))
    (case d4 => refine' G.def_mk KX NS ?a ?l ?c ?k; (case a => k_is); (case l => k_is); (case c => k_is); (case k => k_is))
    (case d5 => refine' G.def_mk KX NS ?a ?l ?c ?k; (case a => k_is); (case l => k_is); (case c => k_is); (case k => k_is))
    (case d6 => refine' G.def_mk KX NS ?a ?l ?c ?k; (case a => k_is); (case l => k_is); (case c => k_is); (case k => k_is))
    (case d7 => refine' G.def_mk KX NS ?a ?l ?c ?k; (case a => k_is); (case l => k_is); (case c => k_is); (case k => k_is))
    (case d8 => refine' G.def_mk KX NS ?a ?l ?c ?k; (case a => k_is); (case l => k_is); (case c => k_is); (case k => k_is))
    (case d9 => refine' G.def_mk KX NS ?a ?l ?c ?k; (case a => k_is); (case l => k_is); (case c => k_is); (case k => k_is))
    (case d10 => refine' G.def_mk KX NS ?a ?l ?c ?k; (case a => k_is); (case l => k_is); (case c => k_is); (case k => k_is))
    (case d11 => refine' G.def_mk KX NS ?a ?l ?c ?k; (case a => k_is); (case l => k_is); (case c => k_is); (case k => k_is))
    (case d12 => refine' G.def_mk KX NS ?a ?l ?c ?k; (case a => k_is); (case l => k_is); (case c => k_is); (case k => k_is))
    (case d13 => refine' G.def_mk KX NS ?a ?l ?c ?k; (case a => k_is); (case l => k_is); (case c => k_is); (case k => k_is))
    (case d14 => refine' G.def_mk KX NS ?a ?l ?c ?k; (case a => k_is); (case l => k_is); (case c => k_is); (case k => k_is))
    (case d15 => refine' G.def_mk KX NS ?a ?l ?c ?k; (case a => k_is); (case l => k_is); (case c => k_is); (case k => k_is))
    (case d16 => refine' G.def_mk KX NS ?a ?l ?c ?k; (case a => k_is); (case l => k_is); (case c => k_is); (case k => k_is))
    (case d17 => refine' G.def_mk KX NS ?a ?l ?c ?k; (case a => k_is); (case l => k_is); (case c => k_is); (case k => k_is))
    (case d18 => refine' G.def_mk KX NS ?a ?l ?c ?k; (case a => k_is); (case l => k_is); (case c => k_is); (case k => k_is))
    (case d19 => refine' G.def_mk KX NS ?a ?l ?c ?k; (case a => k_is); (case l => k_is); (case c => k_is); (case k => k_is))
    (case d20 => refine' G.def_mk KX NS ?a ?l ?c ?k; (case a => k_is); (case l => k_is); (case c => k_is); (case k => k_is))
    (case d21 => refine' G.def_mk KX NS ?a ?l ?c ?k; (case a => k_is); (case l => k_is); (case c => k_is); (case k => k_is))
    (case d22 => refine' G.def_mk KX NS ?a ?l ?c ?k; (case a => k_is); (case l => k_is); (case c => k_is); (case k => k_is))
    (case d23 => refine' G.def_mk KX NS ?a ?l ?c ?k; (case a => k_is); (case l => k_is); (case c => k_is); (case k => k_is))
    (case d24 => refine' G.def_mk KX NS ?a ?l ?c ?k; (case a => k_is); (case l => k_is); (case c => k_is); (case k => k_is))
    (case d25 => refine' G.def_mk KX NS ?a ?l ?c ?k; (case a => k_is); (case l => k_is); (case c => k_is); (case k => k_is))
    (case d26 => refine' G.def_mk KX NS ?a ?l ?c ?k; (case a => k_is); (case l => k_is); (case c => k_is); (case k => k_is))
    (case d27 => refine' G.def_mk KX NS ?a ?l ?c ?k; (case a => k_is); (case l => k_is); (case c => k_is); (case k => k_is))
    (case d28 => refine' G.def_mk KX NS ?a ?l ?c ?k; (case a => k_is); (case l => k_is); (case c => k_is); (case k => k_is))
    (case d29 => refine' G.def_mk KX NS ?a ?l ?c ?k; (case a => k_is); (case l => k_is); (case c => k_is); (case k => k_is))
    (case d30 => refine' G.def_mk KX NS ?a ?l ?c ?k; (case a => k_is); (case l => k_is); (case c => k_is); (case k => k_is))
    (case d31 => refine' G.def_mk KX NS ?a ?l ?c ?k; (case a => k_is); (case l => k_is); (case c => k_is); (case k => k_is))
    (case d32 => refine' G.def_mk KX NS ?a ?l ?c ?k; (case a => k_is); (case l => k_is); (case c => k_is); (case k => k_is))
    (case d33 => refine' G.def_mk KX NS ?a ?l ?c ?k; (case a => k_is); (case l => k_is); (case c => k_is); (case k => k_is))
    (case d34 => refine' G.def_mk KX NS ?a ?l ?c ?k; (case a => k_is); (case l => k_is); (case c => k_is); (case k => k_is))
    (case d35 => refine' G.def_mk KX NS ?a ?l ?c ?k; (case a => k_is); (case l => k_is); (case c => k_is); (case k => k_is))
    (case d36 => refine' G.def_mk KX NS ?a ?l ?c ?k; (case a => k_is); (case l => k_is); (case c => k_is); (case k => k_is))
    (case d37 => refine' G.def_mk KX NS ?a ?l ?c ?k; (case a => k_is); (case l => k_is); (case c => k_is); (case k => k_is))
    (case d38 => refine' G.def_mk KX NS ?a ?l ?c ?k; (case a => k_is); (case l => k_is); (case c => k_is); (case k => k_is))
    (case dl => refine' G.def_mk KX NS ?a ?l ?c ?k; (case a => k_is); (case l => k_is); (case c => k_is); (case k => k_is))

