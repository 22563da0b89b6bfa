import PyProof.Rows.All
import Wide.All
import OpenK.AllK
import Wide.FinOn
import HandS.ForMost
import HandS.Style
import HandS.Star
import HandS.NoneIn
import HandS.IsInst
import HandS.SortKw
import HandS.Set
import KE.SortData
import HandS.More
import KE.SortKeyHeap
import HandS.SetBool
import HandS.HeadEnd
import HandS.Defaults
import KE.KStateDown
import HandS.Head0
import HandS.Head1
import HandS.Head2
import HandS.HeadHook1
import HandS.HeadHook2
import HandS.Zip
import PyProof.ReprLen
import HandS.TupLe
import PySem.Challenge.RW_ownlog_k84_whole_texts_that_end
set_option linter.all false
/-! The plain mathematics of calls, parts and base stories; core Lean alone. -/
namespace OwM
abbrev Tx := List Nat
/-! ### calls -/
def call (r : Tx) (p : Nat) : Tx := r.take p ++ (r ++ r.drop (p + 1))
def follow (r : Tx) : List Nat → Tx
  | [] => r
  | p :: ps => follow (call r p) ps
def IsStory (last : Nat) : List Nat → Prop
  | [] => True
  | p :: ps => p ≤ last ∧ IsStory (2 * last) ps
def lastOf (last : Nat) (ps : List Nat) : Nat := last * 2 ^ ps.length
theorem call_len {r : Tx} {p : Nat} (h : p < r.length) : (call r p).length = 2 * (r.length - 1) + 1 := by
  unfold call
  simp only [List.length_append, List.length_take, List.length_drop]
  omega
theorem follow_app (r : Tx) : ∀ ps qs : List Nat, follow r (ps ++ qs) = follow (follow r ps) qs
  | [], _ => rfl
  | p :: ps, qs => by
    show follow (call r p) (ps ++ qs) = follow (follow (call r p) ps) qs
    exact follow_app (call r p) ps qs
theorem follow_len : ∀ {r : Tx} {ps : List Nat}, r ≠ [] → IsStory (r.length - 1) ps → (follow r ps).length = lastOf (r.length - 1) ps + 1
  | r, [], h, _ => by
    have := List.length_pos_iff.mpr h
    show r.length = (r.length - 1) * 2 ^ 0 + 1
    omega
  | r, p :: ps, h, hs => by
    obtain ⟨h1, h2⟩ := hs
    have hp := List.length_pos_iff.mpr h
    have hc := call_len (r := r) (p := p) (by omega)
    have hn : call r p ≠ [] := List.ne_nil_of_length_pos (by omega)
    have e : (call r p).length - 1 = 2 * (r.length - 1) := by omega
    show (follow (call r p) ps).length = _
    rw [follow_len hn (by rw [e]; exact h2), e]
    unfold lastOf
    rw [List.length_cons, Nat.pow_succ, Nat.mul_comm (2 ^ ps.length) 2, ← Nat.mul_assoc, Nat.mul_comm (r.length - 1) 2]
theorem follow_ne {r : Tx} {ps : List Nat} (h : r ≠ []) (hs : IsStory (r.length - 1) ps) : follow r ps ≠ [] := List.ne_nil_of_length_pos (by rw [follow_len h hs]; exact Nat.succ_pos _)
theorem lastOf_app (last : Nat) (ps qs : List Nat) : lastOf last (ps ++ qs) = lastOf (lastOf last ps) qs := by
  unfold lastOf
  rw [List.length_append, Nat.pow_add, Nat.mul_assoc]
theorem lastOf_cons (last p : Nat) (ps : List Nat) : lastOf last (p :: ps) = lastOf (2 * last) ps := by
  unfold lastOf
  rw [List.length_cons, Nat.pow_succ, Nat.mul_comm (2 ^ ps.length) 2, ← Nat.mul_assoc, Nat.mul_comm last 2]
theorem isStory_app : ∀ {last : Nat} {ps qs : List Nat}, IsStory last (ps ++ qs) ↔ IsStory last ps ∧ IsStory (lastOf last ps) qs
  | last, [], qs => by
    show IsStory last qs ↔ True ∧ IsStory (last * 2 ^ 0) qs
    rw [Nat.pow_zero, Nat.mul_one, true_and]
  | last, p :: ps, qs => by
    show p ≤ last ∧ IsStory (2 * last) (ps ++ qs) ↔ (p ≤ last ∧ IsStory (2 * last) ps) ∧ IsStory (lastOf last (p :: ps)) qs
    rw [isStory_app, lastOf_cons, and_assoc]
theorem lastOf_ge (last : Nat) (ps : List Nat) : last ≤ lastOf last ps := by
  unfold lastOf
  exact Nat.le_mul_of_pos_right last (Nat.two_pow_pos _)
/-! ### read backward -/
def mirror (last : Nat) : List Nat → List Nat
  | [] => []
  | p :: ps => (last - p) :: mirror (2 * last) ps
theorem mirror_len (last : Nat) : ∀ (ps : List Nat), (mirror last ps).length = ps.length := by
  intro ps
  induction ps generalizing last with
  | nil => rfl
  | cons p ps ih =>
    show (mirror (2 * last) ps).length + 1 = ps.length + 1
    rw [ih]
theorem mirror_app : ∀ (last : Nat) (ps qs : List Nat), mirror last (ps ++ qs) = mirror last ps ++ mirror (lastOf last ps) qs
  | last, [], qs => by
    show mirror last qs = mirror (last * 2 ^ 0) qs
    rw [Nat.pow_zero, Nat.mul_one]
  | last, p :: ps, qs => by
    show (last - p) :: mirror (2 * last) (ps ++ qs) = (last - p) :: (mirror (2 * last) ps ++ mirror (lastOf last (p :: ps)) qs)
    rw [mirror_app, lastOf_cons]
theorem mirror_story : ∀ {last : Nat} {ps : List Nat}, IsStory last (mirror last ps)
  | _, [] => trivial
  | last, p :: ps => ⟨Nat.sub_le _ _, mirror_story⟩
theorem call_rev {r : Tx} {p : Nat} (h : p ≤ r.length - 1) (h0 : r ≠ []) : call r (r.length - 1 - p) = (call r.reverse p).reverse := by
  have hp := List.length_pos_iff.mpr h0
  unfold call
  rw [List.reverse_append, List.reverse_append, List.reverse_reverse, List.take_reverse, List.reverse_reverse, List.drop_reverse, List.reverse_reverse, List.append_assoc]
  have e1 : r.length - (p + 1) = r.length - 1 - p := by omega
  have e2 : r.length - p = r.length - 1 - p + 1 := by omega
  rw [e1, e2]
theorem follow_rev : ∀ {r : Tx} {ps : List Nat}, r ≠ [] → IsStory (r.length - 1) ps → follow r (mirror (r.length - 1) ps) = (follow r.reverse ps).reverse
  | r, [], _, _ => by
    show r = r.reverse.reverse
    rw [List.reverse_reverse]
  | r, p :: ps, h, hs => by
    obtain ⟨h1, h2⟩ := hs
    have hp := List.length_pos_iff.mpr h
    have hc := call_len (r := r) (p := r.length - 1 - p) (by omega)
    have hn : call r (r.length - 1 - p) ≠ [] := List.ne_nil_of_length_pos (by omega)
    have e : (call r (r.length - 1 - p)).length - 1 = 2 * (r.length - 1) := by omega
    show follow (call r (r.length - 1 - p)) (mirror (2 * (r.length - 1)) ps) = (follow (call r.reverse p) ps).reverse
    rw [← e, follow_rev hn (by rw [e]; exact h2), call_rev h1 h, List.reverse_reverse]
theorem mirror_mirror : ∀ {last : Nat} {ps : List Nat}, IsStory last ps → mirror last (mirror last ps) = ps
  | _, [], _ => rfl
  | last, p :: ps, h => by
    show (last - (last - p)) :: mirror (2 * last) (mirror (2 * last) ps) = p :: ps
    rw [mirror_mirror h.2, Nat.sub_sub_self h.1]
/-! ### parts -/
def longer (p : Tx) (c : Nat) : Option Tx := if (p.drop c).isPrefixOf (p.take c) then some (p.take c) else if (p.take c).isPrefixOf (p.drop c) then some (p.drop c) else none
theorem longer_len {p l : Tx} {c : Nat} (h1 : 1 ≤ c) (h2 : c < p.length) (h : longer p c = some l) : 0 < l.length ∧ l.length < p.length := by
  unfold longer at h
  split at h
  · cases h
    rw [List.length_take]
    omega
  · split at h
    · cases h
      rw [List.length_drop]
      omega
    · cases h
theorem longer_infix {p l : Tx} {c : Nat} (h : longer p c = some l) : l <:+: p := by
  unfold longer at h
  split at h
  · cases h
    exact (List.take_prefix _ _).isInfix
  · split at h
    · cases h
      exact (List.drop_suffix _ _).isInfix
    · cases h
def canN (b : Tx) : Nat → Tx → Bool
  | 0, _ => false
  | n + 1, p => p.isPrefixOf b || (List.range (p.length - 1)).any fun i => match longer p (i + 1) with
    | some l => canN b n l
    | none => false
def can (b p : Tx) : Bool := canN b p.length p
theorem any_congr {α : Type} {f g : α → Bool} : ∀ {l : List α}, (∀ a ∈ l, f a = g a) → l.any f = l.any g
  | [], _ => rfl
  | a :: l, h => by
    rw [List.any_cons, List.any_cons, h a (List.mem_cons_self ..), any_congr fun b hb => h b (List.mem_cons_of_mem _ hb)]
theorem canN_more (b : Tx) : ∀ (n : Nat) (p : Tx), 0 < p.length → p.length ≤ n → canN b n p = can b p := by
  intro n
  induction n using Nat.strongRecOn with
  | _ n ih =>
    intro p h0 hn
    obtain ⟨m, rfl⟩ : ∃ m, n = m + 1 := ⟨n - 1, by omega⟩
    obtain ⟨k, hk⟩ : ∃ k, p.length = k + 1 := ⟨p.length - 1, by omega⟩
    unfold can
    rw [hk]
    show (p.isPrefixOf b || (List.range (p.length - 1)).any fun i => match longer p (i + 1) with
      | some l => canN b m l
      | none => false) = (p.isPrefixOf b || (List.range (p.length - 1)).any fun i => match longer p (i + 1) with
      | some l => canN b k l
      | none => false)
    refine congrArg _ (any_congr fun i hi => ?_)
    have hi' := List.mem_range.mp hi
    cases e : longer p (i + 1) with
    | none => rfl
    | some l =>
      have hl := longer_len (by omega) (by omega) e
      show canN b m l = canN b k l
      rw [ih m (by omega) l hl.1 (by omega)]
      by_cases hkm : k < m + 1
      · rw [ih k hkm l hl.1 (by omega)]
      · omega
/-- the two ways a part can begin -/
theorem can_iff {b p : Tx} (h : p ≠ []) : can b p = true ↔ p <+: b ∨ ∃ c l, 1 ≤ c ∧ c < p.length ∧ longer p c = some l ∧ can b l = true := by
  have h0 := List.length_pos_iff.mpr h
  obtain ⟨k, hk⟩ : ∃ k, p.length = k + 1 := ⟨p.length - 1, by omega⟩
  have e : can b p = (p.isPrefixOf b || (List.range (p.length - 1)).any fun i => match longer p (i + 1) with
      | some l => canN b k l
      | none => false) := by
    have e0 : can b p = canN b (k + 1) p := by
      unfold can
      rw [hk]
    rw [e0]
    rfl
  rw [e, Bool.or_eq_true, List.isPrefixOf_iff_prefix, List.any_eq_true]
  refine or_congr Iff.rfl ⟨fun ⟨i, hi, q⟩ => ?_, fun ⟨c, l, h1, h2, h3, h4⟩ => ?_⟩
  · have hi' := List.mem_range.mp hi
    cases el : longer p (i + 1) with
    | none =>
      rw [el] at q
      cases q
    | some l =>
      rw [el] at q
      have hl := longer_len (by omega) (by omega) el
      exact ⟨i + 1, l, by omega, by omega, el, by rw [← canN_more b k l hl.1 (by omega)]; exact q⟩
  · have hl := longer_len h1 h2 h3
    refine ⟨c - 1, List.mem_range.mpr (by omega), ?_⟩
    have ec : c - 1 + 1 = c := by omega
    rw [ec, h3]
    show canN b k l = true
    rw [canN_more b k l hl.1 (by omega)]
    exact h4
/-! ### what a call does to what begins a row -/
def Good (b : Tx) (cs : List Nat) (q : Tx) : Prop := IsStory (b.length - 1) cs ∧ q <+: follow b cs
theorem one_call {b p l : Tx} {c : Nat} {cs : List Nat} (hb : b ≠ []) (h1 : 1 ≤ c) (h2 : c < p.length) (h3 : p.length ≤ b.length - 1) (hl : longer p c = some l) (g : Good b cs l) : Good b (cs ++ [c]) p := by
  obtain ⟨gs, gp⟩ := g
  have hge := lastOf_ge (b.length - 1) cs
  refine ⟨isStory_app.mpr ⟨gs, by omega, trivial⟩, ?_⟩
  rw [follow_app]
  show p <+: call (follow b cs) c
  generalize hR : follow b cs = R at gp
  have hRl : R.length = lastOf (b.length - 1) cs + 1 := by rw [← hR]; exact follow_len hb gs
  obtain ⟨m, hm⟩ := gp
  unfold call
  unfold longer at hl
  have hsplit : p = p.take c ++ p.drop c := (List.take_append_drop c p).symm
  have hlt : (p.take c).length = c := by rw [List.length_take]; omega
  split at hl
  · rename_i hx
    cases hl
    obtain ⟨z, hz⟩ := List.isPrefixOf_iff_prefix.mp hx
    have e1 : R.take c = p.take c := by
      rw [← hm]
      conv => lhs; rw [← hlt]
      rw [hlt, List.take_append_of_le_length (by omega), List.take_take, Nat.min_self]
    rw [e1]
    conv => lhs; rw [hsplit]
    rw [List.prefix_append_right_inj]
    refine List.IsPrefix.trans ⟨z, hz⟩ ?_
    refine List.IsPrefix.trans ?_ (List.prefix_append _ _)
    exact ⟨m, hm⟩
  · split at hl
    · rename_i _ hx
      cases hl
      obtain ⟨z, hz⟩ := List.isPrefixOf_iff_prefix.mp hx
      have hdl : (p.drop c).length = p.length - c := List.length_drop
      have hcz : c ≤ (p.drop c).length := by
        rw [← hz, List.length_append]
        omega
      have e1 : R.take c = p.take c := by
        rw [← hm, List.take_append_of_le_length hcz, ← hz, List.take_append_of_le_length (by omega), List.take_take, Nat.min_self]
      rw [e1]
      conv => lhs; rw [hsplit]
      rw [List.prefix_append_right_inj]
      refine List.IsPrefix.trans ?_ (List.prefix_append _ _)
      exact ⟨m, hm⟩
    · cases hl
end OwM
set_option linter.all false
/-! Base stories, beginnings found, closed tables; core Lean alone. -/
namespace OwM
def stepS (last : Nat) (ss : List (List Nat)) : List (List Nat) := ss.flatMap fun s => (List.range (last + 1)).map fun p => s ++ [p]
def storiesN : Nat → Nat → Nat → List (List Nat) → List (List Nat)
  | 0, _, _, ss => ss
  | f + 1, last, n, ss => if last < n then storiesN f (2 * last) n (stepS last ss) else ss
/-- the stories by which a row with this last place grows past n letters -/
def stories (last n : Nat) : List (List Nat) := storiesN n last n [[]]
/-- strictly ascending -/
abbrev Asc (ks : List Tx) : Prop := ks.Pairwise (· < ·)
/-- the parts of t that can begin a row that began with b -/
def IsCans (b t : Tx) (ks : List Tx) : Prop := Asc ks ∧ ∀ k, k ∈ ks ↔ k ≠ [] ∧ k <:+: t ∧ can b k = true
/-- the parts of t that can end a row that ended with b -/
def IsCansE (b t : Tx) (ks : List Tx) : Prop := Asc ks ∧ ∀ k, k ∈ ks ↔ k ≠ [] ∧ k <:+: t ∧ can b.reverse k.reverse = true
def PartsOk (t : Tx) (ps : List Tx) : Prop := ps.Nodup ∧ (∀ p, p ∈ ps ↔ p ≠ [] ∧ p <:+: t) ∧ ps.Pairwise fun a b => a.length ≤ b.length
/-- one way in which a part comes from a longer piece that is known -/
def Follows (ks : List Tx) (p : Tx) : Prop := ∃ c l, 1 ≤ c ∧ c < p.length ∧ longer p c = some l ∧ l ∈ ks
def FoundOk (b t : Tx) (es : List (Tx × Option Nat)) : Prop :=
  (es.map (·.1)).Nodup ∧ (∀ k, k ∈ es.map (·.1) ↔ k ≠ [] ∧ k <:+: t ∧ can b k = true) ∧
    ∀ k o, (k, o) ∈ es → match o with
      | none => k <+: b
      | some c => 1 ≤ c ∧ c < k.length ∧ ∃ l, longer k c = some l ∧ l ∈ es.map (·.1)
def Closed (b t : Tx) (ps : List Tx) : Prop := ∀ q, q ≠ [] → q <:+: t → (q <+: b ∨ Follows ps q) → q ∈ ps
/-- a table's lines: the base stories in order, what can end each -/
def Lines (r t : Tx) (ls : List (List Nat × List Tx)) : Prop := ls.map (·.1) = stories (r.length - 1) t.length ∧ ∀ l ∈ ls, IsCansE (follow r l.1) t l.2
def ableE (r t : Tx) : Bool := (stories (r.length - 1) t.length).any fun s => can (follow r s).reverse t.reverse
def ableB (r t : Tx) : Bool := (stories (r.length - 1) t.length).any fun s => can (follow r s) t
def EndsOk (r t : Tx) (ns : List Nat) : Prop := IsStory (r.length - 1) ns ∧ ns.length ≤ 40 ∧ t <:+ follow r ns
/-- what the program's own judge asks of a line's parts -/
def PartsIn (t : Tx) (ps : List Tx) : Prop := Asc ps ∧ ∀ p ∈ ps, 0 < p.length ∧ p.length < t.length ∧ p <:+: t
theorem call_get {R : Tx} {p i : Nat} (hp : p < R.length) : (call R p)[i]? = if p + (R.length - 1) < i then R[i - (R.length - 1)]? else if p ≤ i then R[i - p]? else R[i]? := by
  have ht : (R.take p).length = p := by rw [List.length_take]; omega
  unfold call
  by_cases h1 : p ≤ i
  · rw [List.getElem?_append_right (by omega), ht]
    by_cases h2 : p + (R.length - 1) < i
    · rw [if_pos h2, List.getElem?_append_right (by omega), List.getElem?_drop]
      congr 1
      omega
    · rw [if_neg h2, if_pos h1, List.getElem?_append_left (by omega)]
  · rw [if_neg (by omega), if_neg h1, List.getElem?_append_left (by omega), List.getElem?_take_of_lt (by omega)]
theorem call_cut {r : Tx} {p x : Nat} (h : r[p]? = some x) : ((((r.take p ++ r.take p) ++ [x]) ++ r.drop (p + 1)) ++ r.drop (p + 1)) = call r p := by
  obtain ⟨hp, e⟩ := List.getElem?_eq_some_iff.mp h
  have e1 : r = r.take p ++ x :: r.drop (p + 1) := by rw [← e, List.getElem_cons_drop, List.take_append_drop]
  unfold call
  conv => rhs; rhs; lhs; rw [e1]
  simp only [List.append_assoc, List.cons_append, List.nil_append, List.singleton_append]
/-- signs that are signs -/
def Lo (t : Tx) : Prop := ∀ c ∈ t, c < 1114112
theorem Lo.app {a b : Tx} (ha : Lo a) (hb : Lo b) : Lo (a ++ b) := fun c hc => (List.mem_append.mp hc).elim (ha c) (hb c)
theorem Lo.sub {a b : Tx} (h : Lo b) (s : ∀ c ∈ a, c ∈ b) : Lo a := fun c hc => h c (s c hc)
theorem Lo.rev {a : Tx} (h : Lo a) : Lo a.reverse := h.sub fun _ hc => List.mem_reverse.mp hc
theorem Lo.infix {a b : Tx} (h : Lo b) (s : a <:+: b) : Lo a := h.sub fun _ hc => s.subset hc
end OwM
set_option linter.all false
namespace OwM
/-! ### the base stories -/
theorem storiesN_end {f last n : Nat} {ss : List (List Nat)} (h : ¬ last < n) : storiesN f last n ss = ss := by
  cases f with
  | zero => rfl
  | succ f =>
    show (if last < n then _ else ss) = ss
    rw [if_neg h]
theorem storiesN_step {f last n : Nat} {ss : List (List Nat)} (h : last < n) : storiesN (f + 1) last n ss = storiesN f (2 * last) n (stepS last ss) := by
  show (if last < n then _ else ss) = _
  rw [if_pos h]
theorem stepS_next {last : Nat} {ss : List (List Nat)} {i : Nat} {s : List Nat} (h : ss[i]? = some s) : stepS last (ss.take (i + 1)) = stepS last (ss.take i) ++ (List.range (last + 1)).map fun p => s ++ [p] := by
  unfold stepS
  rw [List.take_add_one, h, List.flatMap_append]
  show _ ++ List.flatMap _ [s] = _
  rw [List.flatMap_cons, List.flatMap_nil, List.append_nil]
theorem stepS_len (last : Nat) (ss : List (List Nat)) : (stepS last ss).length = ss.length * (last + 1) := by
  unfold stepS
  induction ss with
  | nil => rw [List.flatMap_nil, List.length_nil, Nat.zero_mul]
  | cons s ss ih => rw [List.flatMap_cons, List.length_append, ih, List.length_map, List.length_range, List.length_cons, Nat.add_mul, Nat.one_mul, Nat.add_comm]
theorem mem_stepS {last : Nat} {ss : List (List Nat)} {x : List Nat} : x ∈ stepS last ss ↔ ∃ s p, s ∈ ss ∧ p ≤ last ∧ x = s ++ [p] := by
  unfold stepS
  rw [List.mem_flatMap]
  constructor
  · rintro ⟨s, hs, h⟩
    obtain ⟨p, hp, rfl⟩ := List.mem_map.mp h
    exact ⟨s, p, hs, by have := List.mem_range.mp hp; omega, rfl⟩
  · rintro ⟨s, p, hs, hp, rfl⟩
    exact ⟨s, hs, List.mem_map.mpr ⟨p, List.mem_range.mpr (by omega), rfl⟩⟩
def steps : Nat → Nat → Nat → Nat
  | 0, _, _ => 0
  | f + 1, last, n => if last < n then 1 + steps f (2 * last) n else 0
theorem mem_storiesN {n : Nat} : ∀ (f last : Nat) (ss : List (List Nat)) (x : List Nat), x ∈ storiesN f last n ss ↔ ∃ a c, a ∈ ss ∧ x = a ++ c ∧ IsStory last c ∧ c.length = steps f last n
  | 0, last, ss, x => by
    constructor
    · exact fun h => ⟨x, [], h, (List.append_nil x).symm, trivial, rfl⟩
    · rintro ⟨a, c, ha, rfl, _, hl⟩
      have : c = [] := List.eq_nil_of_length_eq_zero hl
      subst this
      rw [List.append_nil]
      exact ha
  | f + 1, last, ss, x => by
    by_cases h : last < n
    · have es : steps (f + 1) last n = 1 + steps f (2 * last) n := by
        show (if last < n then _ else 0) = _
        rw [if_pos h]
      rw [storiesN_step h, mem_storiesN f, es]
      constructor
      · rintro ⟨a, c, ha, rfl, hc, hl⟩
        obtain ⟨s, p, hs, hp, rfl⟩ := mem_stepS.mp ha
        exact ⟨s, p :: c, hs, by rw [List.append_assoc]; rfl, ⟨hp, hc⟩, by rw [List.length_cons]; omega⟩
      · rintro ⟨a, c, ha, rfl, hc, hl⟩
        cases c with
        | nil =>
          rw [List.length_nil] at hl
          omega
        | cons p c =>
          rw [List.length_cons] at hl
          exact ⟨a ++ [p], c, mem_stepS.mpr ⟨a, p, ha, hc.1, rfl⟩, by rw [List.append_assoc]; rfl, hc.2, by omega⟩
    · have es : steps (f + 1) last n = 0 := by
        show (if last < n then _ else 0) = _
        rw [if_neg h]
      rw [storiesN_end h, es]
      constructor
      · exact fun h => ⟨x, [], h, (List.append_nil x).symm, trivial, rfl⟩
      · rintro ⟨a, c, ha, rfl, _, hl⟩
        have : c = [] := List.eq_nil_of_length_eq_zero hl
        subst this
        rw [List.append_nil]
        exact ha
theorem mem_stories {last n : Nat} {x : List Nat} : x ∈ stories last n ↔ IsStory last x ∧ x.length = steps n last n := by
  unfold stories
  rw [mem_storiesN]
  constructor
  · rintro ⟨a, c, ha, rfl, hc, hl⟩
    rw [List.mem_singleton] at ha
    subst ha
    exact ⟨hc, hl⟩
  · rintro ⟨h1, h2⟩
    exact ⟨[], x, List.mem_singleton.mpr rfl, rfl, h1, h2⟩
theorem steps_ge : ∀ (f last n : Nat), 1 ≤ last → n ≤ last + f → n ≤ last * 2 ^ steps f last n
  | 0, last, n, _, h => by
    show n ≤ last * 2 ^ 0
    omega
  | f + 1, last, n, h1, h => by
    by_cases hl : last < n
    · have es : steps (f + 1) last n = 1 + steps f (2 * last) n := by
        show (if last < n then _ else 0) = _
        rw [if_pos hl]
      have ih := steps_ge f (2 * last) n (by omega) (by omega)
      rw [es, Nat.pow_add]
      have e : last * (2 ^ 1 * 2 ^ steps f (2 * last) n) = 2 * last * 2 ^ steps f (2 * last) n := by
        rw [← Nat.mul_assoc, Nat.pow_one, Nat.mul_comm last 2]
      rw [e]
      exact ih
    · have es : steps (f + 1) last n = 0 := by
        show (if last < n then _ else 0) = _
        rw [if_neg hl]
      rw [es]
      omega
theorem steps_le : ∀ (f last n : Nat), last * 2 ^ steps f last n ≤ max last (2 * n)
  | 0, last, n => by
    show last * 2 ^ 0 ≤ _
    omega
  | f + 1, last, n => by
    by_cases hl : last < n
    · have es : steps (f + 1) last n = 1 + steps f (2 * last) n := by
        show (if last < n then _ else 0) = _
        rw [if_pos hl]
      have ih := steps_le f (2 * last) n
      rw [es, Nat.pow_add]
      have e : last * (2 ^ 1 * 2 ^ steps f (2 * last) n) = 2 * last * 2 ^ steps f (2 * last) n := by
        rw [← Nat.mul_assoc, Nat.pow_one, Nat.mul_comm last 2]
      rw [e]
      omega
    · have es : steps (f + 1) last n = 0 := by
        show (if last < n then _ else 0) = _
        rw [if_neg hl]
      rw [es]
      omega
theorem steps_small : ∀ (f last n : Nat), 1 ≤ last → steps f last n ≤ n
  | 0, _, _, _ => Nat.zero_le _
  | f + 1, last, n, h => by
    have hle := steps_le (f + 1) last n
    by_cases hl : last < n
    · have hp := Nat.lt_two_pow_self (n := steps (f + 1) last n)
      have h2 : 2 ^ steps (f + 1) last n ≤ last * 2 ^ steps (f + 1) last n := Nat.le_mul_of_pos_left _ h
      have es : steps (f + 1) last n = 1 + steps f (2 * last) n := by
        show (if last < n then _ else 0) = _
        rw [if_pos hl]
      have h3 := steps_le f (2 * last) n
      have h4 := Nat.lt_two_pow_self (n := steps f (2 * last) n)
      have h5 : 2 * 2 ^ steps f (2 * last) n ≤ 2 * last * 2 ^ steps f (2 * last) n := Nat.mul_le_mul_right _ (by omega)
      omega
    · have es : steps (f + 1) last n = 0 := by
        show (if last < n then _ else 0) = _
        rw [if_neg hl]
      omega
/-- what a base story does -/
theorem story_facts {last n : Nat} {s : List Nat} (h : s ∈ stories last n) (h1 : 1 ≤ last) : IsStory last s ∧ n ≤ lastOf last s ∧ lastOf last s ≤ max last (2 * n) ∧ s.length ≤ n := by
  obtain ⟨a, b⟩ := mem_stories.mp h
  refine ⟨a, ?_, ?_, ?_⟩
  · unfold lastOf
    rw [b]
    exact steps_ge n last n h1 (by omega)
  · unfold lastOf
    rw [b]
    exact steps_le n last n
  · rw [b]
    exact steps_small n last n h1
def countN : Nat → Nat → Nat → Nat
  | 0, _, _ => 1
  | f + 1, last, n => if last < n then (last + 1) * countN f (2 * last) n else 1
theorem storiesN_len {n : Nat} : ∀ (f last : Nat) (ss : List (List Nat)), (storiesN f last n ss).length = ss.length * countN f last n
  | 0, last, ss => (Nat.mul_one _).symm
  | f + 1, last, ss => by
    by_cases h : last < n
    · have es : countN (f + 1) last n = (last + 1) * countN f (2 * last) n := by
        show (if last < n then _ else 1) = _
        rw [if_pos h]
      rw [storiesN_step h, storiesN_len f, stepS_len, es, Nat.mul_assoc]
    · have es : countN (f + 1) last n = 1 := by
        show (if last < n then _ else 1) = _
        rw [if_neg h]
      rw [storiesN_end h, es, Nat.mul_one]
theorem count_small : ∀ last < 13, ∀ n < 13, 1 ≤ last → countN n last n ≤ 270 := by decide +kernel
theorem stories_len {last n : Nat} (h1 : 1 ≤ last) (hn : n ≤ 12) : (stories last n).length ≤ 270 := by
  unfold stories
  rw [storiesN_len, List.length_singleton, Nat.one_mul]
  by_cases h : last < 13
  · exact count_small last h n (by omega) h1
  · cases n with
    | zero => exact (by decide : 1 ≤ 270)
    | succ n =>
      show (if last < n + 1 then _ else 1) ≤ 270
      rw [if_neg (by omega)]
      decide
theorem stories_ne {last n : Nat} : stories last n ≠ [] := by
  intro h
  have : ∀ k last : Nat, ∃ s, IsStory last s ∧ s.length = k := by
    intro k
    induction k with
    | zero => exact fun last => ⟨[], trivial, rfl⟩
    | succ k ih =>
      intro last
      obtain ⟨s, a, b⟩ := ih (2 * last)
      exact ⟨0 :: s, ⟨Nat.zero_le _, a⟩, by rw [List.length_cons, b]⟩
  obtain ⟨s, a, b⟩ := this (steps n last n) last
  have := mem_stories.mpr ⟨a, b⟩
  rw [h] at this
  cases this
/-- the stories of the row read backward are these, mirrored -/
theorem mirror_stories {last n : Nat} {s : List Nat} (h : s ∈ stories last n) : mirror last s ∈ stories last n := by
  obtain ⟨a, b⟩ := mem_stories.mp h
  exact mem_stories.mpr ⟨mirror_story, by rw [mirror_len]; exact b⟩
theorem able_same {r t : Tx} (h : 2 ≤ r.length) : ableB r.reverse t.reverse = ableE r t := by
  have h0 : r ≠ [] := List.ne_nil_of_length_pos (by omega)
  unfold ableB ableE
  rw [List.length_reverse, List.length_reverse, Bool.eq_iff_iff, List.any_eq_true, List.any_eq_true]
  constructor
  · rintro ⟨s, hs, hc⟩
    have hi := (mem_stories.mp hs).1
    refine ⟨mirror (r.length - 1) s, mirror_stories hs, ?_⟩
    rw [follow_rev h0 hi, List.reverse_reverse]
    exact hc
  · rintro ⟨s, hs, hc⟩
    have hi := (mem_stories.mp hs).1
    refine ⟨mirror (r.length - 1) s, mirror_stories hs, ?_⟩
    have e := follow_rev (r := r) (ps := mirror (r.length - 1) s) h0 mirror_story
    rw [mirror_mirror hi] at e
    rw [e, List.reverse_reverse] at hc
    exact hc
end OwM
set_option linter.all false
namespace OwM
/-! ### parts of a text -/
def sub (t : Tx) (a b : Nat) : Tx := (t.drop a).take (b - a)
theorem sub_len {t : Tx} {a b : Nat} (h : b ≤ t.length) : (sub t a b).length = b - a := by
  unfold sub
  rw [List.length_take, List.length_drop]
  omega
theorem sub_infix (t : Tx) (a b : Nat) : sub t a b <:+: t := (List.take_prefix _ _).isInfix.trans (List.drop_suffix _ _).isInfix
theorem infix_iff {t p : Tx} : (p ≠ [] ∧ p <:+: t) ↔ ∃ a b, a < b ∧ b ≤ t.length ∧ p = sub t a b := by
  constructor
  · rintro ⟨hp, s, u, e⟩
    have h0 := List.length_pos_iff.mpr hp
    refine ⟨s.length, s.length + p.length, by omega, ?_, ?_⟩
    · rw [← e, List.length_append, List.length_append]
      omega
    · unfold sub
      rw [Nat.add_sub_cancel_left, ← e, List.append_assoc, List.drop_left, List.take_left]
  · rintro ⟨a, b, hab, hb, rfl⟩
    refine ⟨?_, sub_infix t a b⟩
    intro z
    have := sub_len (a := a) hb
    rw [z, List.length_nil] at this
    omega
theorem infix_self {p t : Tx} (h : p <:+: t) (hl : t.length ≤ p.length) : p = t := by
  obtain ⟨s, u, e⟩ := h
  have := congrArg List.length e
  rw [List.length_append, List.length_append] at this
  have hs : s = [] := List.eq_nil_of_length_eq_zero (by omega)
  have hu : u = [] := List.eq_nil_of_length_eq_zero (by omega)
  subst hs hu
  rw [List.nil_append, List.append_nil] at e
  exact e
theorem infix_le {p t : Tx} (h : p <:+: t) : p.length ≤ t.length := by
  obtain ⟨s, u, e⟩ := h
  have := congrArg List.length e
  rw [List.length_append, List.length_append] at this
  omega
theorem infix_rev {p t : Tx} : p.reverse <:+: t.reverse ↔ p <:+: t := by
  constructor
  · rintro ⟨s, u, e⟩
    refine ⟨u.reverse, s.reverse, ?_⟩
    have := congrArg List.reverse e
    rw [List.reverse_append, List.reverse_append, List.reverse_reverse, List.reverse_reverse, ← List.append_assoc] at this
    exact this
  · rintro ⟨s, u, e⟩
    refine ⟨u.reverse, s.reverse, ?_⟩
    rw [← e, List.reverse_append, List.reverse_append, ← List.append_assoc]
/-- there are few parts -/
theorem nodup_sub : ∀ {l m : List Tx}, l.Nodup → (∀ x ∈ l, x ∈ m) → l.length ≤ m.length
  | [], _, _, _ => Nat.zero_le _
  | a :: l, m, h, hs => by
    obtain ⟨h1, h2⟩ := List.nodup_cons.mp h
    have ha := hs a (List.mem_cons_self ..)
    have hl := List.length_erase_of_mem ha
    have hp := List.length_pos_of_mem ha
    have := nodup_sub h2 (m := m.erase a) fun x hx => by
      have hne : x ≠ a := fun z => h1 (z ▸ hx)
      exact (List.mem_erase_of_ne hne).mpr (hs x (List.mem_cons_of_mem _ hx))
    rw [List.length_cons]
    omega
def subs (t : Tx) : List Tx := (List.range t.length).flatMap fun a => (List.range t.length).map fun b => sub t a (b + 1)
theorem subs_len (t : Tx) : (subs t).length = t.length * t.length := by
  unfold subs
  rw [List.length_flatMap]
  have : ((List.range t.length).map fun a => ((List.range t.length).map fun b => sub t a (b + 1)).length) = (List.range t.length).map fun _ => t.length := by
    refine List.map_congr_left fun a _ => ?_
    rw [List.length_map, List.length_range]
  rw [this, List.map_const', List.length_range, List.sum_replicate_nat]
theorem nodup_parts {l : List Tx} {t : Tx} (h : l.Nodup) (hs : ∀ k ∈ l, k ≠ [] ∧ k <:+: t) : l.length ≤ t.length * t.length := by
  rw [← subs_len]
  refine nodup_sub h fun k hk => ?_
  obtain ⟨a, b, h1, h2, rfl⟩ := infix_iff.mp (hs k hk)
  unfold subs
  rw [List.mem_flatMap]
  exact ⟨a, List.mem_range.mpr (by omega), List.mem_map.mpr ⟨b - 1, List.mem_range.mpr (by omega), by rw [Nat.sub_add_cancel (by omega)]⟩⟩
theorem nodup_len {l : List Tx} {t : Tx} (h : l.Nodup) (hs : ∀ k ∈ l, k ≠ [] ∧ k <:+: t) (ht : t.length ≤ 40) : l.length ≤ 1600 := by
  have h1 := nodup_parts h hs
  have h2 : t.length * t.length ≤ 40 * 40 := Nat.mul_le_mul ht ht
  omega
/-! ### lists that ascend -/
theorem asc_nodup {l : List Tx} (h : Asc l) : l.Nodup := h.imp fun {a b} hab z => by
  subst z
  exact List.lt_irrefl a hab
theorem asc_eq : ∀ {l m : List Tx}, Asc l → Asc m → (∀ k, k ∈ l ↔ k ∈ m) → l = m
  | [], [], _, _, _ => rfl
  | [], b :: m, _, _, h => absurd ((h b).mpr (List.mem_cons_self ..)) List.not_mem_nil
  | a :: l, [], _, _, h => absurd ((h a).mp (List.mem_cons_self ..)) List.not_mem_nil
  | a :: l, b :: m, h1, h2, h => by
    obtain ⟨a1, a2⟩ := List.pairwise_cons.mp h1
    obtain ⟨b1, b2⟩ := List.pairwise_cons.mp h2
    have e : a = b := by
      rcases List.mem_cons.mp ((h a).mp (List.mem_cons_self ..)) with e | e
      · exact e
      · rcases List.mem_cons.mp ((h b).mpr (List.mem_cons_self ..)) with e' | e'
        · exact e'.symm
        · exact absurd (List.lt_trans (a1 b e') (b1 a e)) (List.lt_irrefl a)
    subst e
    have : l = m := asc_eq a2 b2 fun k => by
      constructor
      · intro hk
        rcases List.mem_cons.mp ((h k).mp (List.mem_cons_of_mem _ hk)) with e | e
        · subst e
          exact absurd (a1 k hk) (List.lt_irrefl k)
        · exact e
      · intro hk
        rcases List.mem_cons.mp ((h k).mpr (List.mem_cons_of_mem _ hk)) with e | e
        · subst e
          exact absurd (b1 k hk) (List.lt_irrefl k)
        · exact e
    rw [this]
/-! ### the two ways to a longer piece -/
theorem longer_by {p : Tx} {c : Nat} {l : Tx} : longer p c = some l ↔ if (p.take c).length < (p.drop c).length then p.take c <+: p.drop c ∧ l = p.drop c else p.drop c <+: p.take c ∧ l = p.take c := by
  unfold longer
  have le_of : ∀ {x y : Tx}, x <+: y → x.length ≤ y.length := fun {x y} h => by
    obtain ⟨z, e⟩ := h
    have := congrArg List.length e
    rw [List.length_append] at this
    omega
  have eq_of : ∀ {x y : Tx}, x <+: y → y.length ≤ x.length → x = y := fun {x y} h hl => by
    obtain ⟨z, e⟩ := h
    have := congrArg List.length e
    rw [List.length_append] at this
    have hz : z = [] := List.eq_nil_of_length_eq_zero (by omega)
    subst hz
    rw [List.append_nil] at e
    exact e
  by_cases h1 : (p.drop c).isPrefixOf (p.take c) = true
  · rw [if_pos h1]
    have hp := List.isPrefixOf_iff_prefix.mp h1
    have := le_of hp
    rw [if_neg (by omega)]
    constructor
    · intro e
      cases e
      exact ⟨hp, rfl⟩
    · rintro ⟨_, rfl⟩
      rfl
  · rw [if_neg h1]
    have hn : ¬ p.drop c <+: p.take c := fun z => h1 (List.isPrefixOf_iff_prefix.mpr z)
    by_cases h2 : (p.take c).isPrefixOf (p.drop c) = true
    · rw [if_pos h2]
      have hp := List.isPrefixOf_iff_prefix.mp h2
      by_cases h3 : (p.take c).length < (p.drop c).length
      · rw [if_pos h3]
        constructor
        · intro e
          cases e
          exact ⟨hp, rfl⟩
        · rintro ⟨_, rfl⟩
          rfl
      · have e := eq_of hp (by omega)
        exact absurd (by rw [e]; exact List.prefix_rfl) hn
    · rw [if_neg h2]
      have hn2 : ¬ p.take c <+: p.drop c := fun z => h2 (List.isPrefixOf_iff_prefix.mpr z)
      constructor
      · intro e
        cases e
      · intro h
        split at h
        · exact absurd h.1 hn2
        · exact absurd h.1 hn
/-- a longer piece is a part itself, and shorter -/
theorem longer_part {t p l : Tx} {c : Nat} (ht : p <:+: t) (h1 : 1 ≤ c) (h2 : c < p.length) (h : longer p c = some l) : l ≠ [] ∧ l <:+: t ∧ l.length < p.length := by
  obtain ⟨a, b⟩ := longer_len h1 h2 h
  exact ⟨List.length_pos_iff.mp a, (longer_infix h).trans ht, b⟩
/-- with all shorter parts that can begin at hand, one looks there alone -/
theorem can_follows {b t p : Tx} {ks : List Tx} (hp : p ≠ []) (ht : p <:+: t) (hk : ∀ k, k ≠ [] → k <:+: t → k.length < p.length → (k ∈ ks ↔ can b k = true)) : can b p = true ↔ p <+: b ∨ Follows ks p := by
  rw [can_iff hp]
  refine or_congr Iff.rfl ?_
  constructor
  · rintro ⟨c, l, h1, h2, h3, h4⟩
    obtain ⟨a, b', d⟩ := longer_part ht h1 h2 h3
    exact ⟨c, l, h1, h2, h3, (hk l a b' d).mpr h4⟩
  · rintro ⟨c, l, h1, h2, h3, h4⟩
    obtain ⟨a, b', d⟩ := longer_part ht h1 h2 h3
    exact ⟨c, l, h1, h2, h3, (hk l a b' d).mp h4⟩
/-! ### the beginnings, part by part -/
def hasL (keys : List Tx) (p : Tx) (c : Nat) : Bool := match longer p c with
  | some l => decide (l ∈ keys)
  | none => false
def cutsOf (keys : List Tx) (p : Tx) (n : Nat) : List Nat := ((List.range n).map (· + 1)).filter (hasL keys p)
theorem cuts_next (keys : List Tx) (p : Tx) (n : Nat) : cutsOf keys p (n + 1) = cutsOf keys p n ++ if hasL keys p (n + 1) = true then [n + 1] else [] := by
  unfold cutsOf
  rw [List.range_succ, List.map_append, List.filter_append]
  show _ ++ List.filter (hasL keys p) [n + 1] = _
  rw [List.filter_cons, List.filter_nil]
theorem hasL_iff {keys : List Tx} {p : Tx} {c : Nat} : hasL keys p c = true ↔ ∃ l, longer p c = some l ∧ l ∈ keys := by
  unfold hasL
  cases longer p c with
  | none =>
    constructor
    · intro z
      cases z
    · rintro ⟨_, z, _⟩
      cases z
  | some l =>
    constructor
    · intro z
      exact ⟨l, rfl, of_decide_eq_true z⟩
    · rintro ⟨l', e, z⟩
      cases e
      exact decide_eq_true z
theorem mem_cuts {keys : List Tx} {p : Tx} {n c : Nat} : c ∈ cutsOf keys p n ↔ (1 ≤ c ∧ c ≤ n) ∧ ∃ l, longer p c = some l ∧ l ∈ keys := by
  unfold cutsOf
  rw [List.mem_filter, hasL_iff, List.mem_map]
  refine and_congr ?_ Iff.rfl
  constructor
  · rintro ⟨i, hi, rfl⟩
    have := List.mem_range.mp hi
    omega
  · rintro ⟨h1, h2⟩
    exact ⟨c - 1, List.mem_range.mpr (by omega), by omega⟩
theorem cuts_follows {keys : List Tx} {p : Tx} (hp : p ≠ []) : Follows keys p ↔ cutsOf keys p (p.length - 1) ≠ [] := by
  have h0 := List.length_pos_iff.mpr hp
  constructor
  · rintro ⟨c, l, h1, h2, h3, h4⟩ z
    have : c ∈ cutsOf keys p (p.length - 1) := mem_cuts.mpr ⟨⟨h1, by omega⟩, l, h3, h4⟩
    rw [z] at this
    cases this
  · intro h
    obtain ⟨c, r, e⟩ := List.exists_cons_of_ne_nil h
    obtain ⟨⟨h1, h2⟩, l, h3, h4⟩ := mem_cuts.mp (show c ∈ cutsOf keys p (p.length - 1) by rw [e]; exact List.mem_cons_self ..)
    exact ⟨c, l, h1, by omega, h3, h4⟩
def EntryOk (b : Tx) (keys : List Tx) (k : Tx) : Option Nat → Prop
  | none => k <+: b
  | some c => 1 ≤ c ∧ c < k.length ∧ ∃ l, longer k c = some l ∧ l ∈ keys
theorem EntryOk.more {b : Tx} {ks ms : List Tx} {k : Tx} {o : Option Nat} (h : EntryOk b ks k o) (hm : ∀ x ∈ ks, x ∈ ms) : EntryOk b ms k o := by
  cases o with
  | none => exact h
  | some c =>
    obtain ⟨h1, h2, l, h3, h4⟩ := h
    exact ⟨h1, h2, l, h3, hm l h4⟩
def FoundOn (b : Tx) (ps : List Tx) (es : List (Tx × Option Nat)) : Prop :=
  (es.map (·.1)).Nodup ∧ (∀ k, k ∈ es.map (·.1) ↔ k ∈ ps ∧ can b k = true) ∧ ∀ k o, (k, o) ∈ es → EntryOk b (es.map (·.1)) k o
theorem FoundOn.ok {b t : Tx} {ps : List Tx} {es : List (Tx × Option Nat)} (h : FoundOn b ps es) (hp : PartsOk t ps) : FoundOk b t es := by
  obtain ⟨h1, h2, h3⟩ := h
  refine ⟨h1, fun k => ?_, fun k o e => ?_⟩
  · rw [h2, hp.2.1, and_assoc]
  · have := h3 k o e
    cases o with
    | none => exact this
    | some c => exact this
theorem FoundOk.entry {b t : Tx} {es : List (Tx × Option Nat)} (h : FoundOk b t es) {k : Tx} {o : Option Nat} (e : (k, o) ∈ es) : EntryOk b (es.map (·.1)) k o := by
  have := h.2.2 k o e
  cases o with
  | none => exact this
  | some c => exact this
section
variable {b t p : Tx} {ps : List Tx} {es : List (Tx × Option Nat)} {i : Nat}
theorem mem_take_next {α : Type} {l : List α} {j : Nat} {x k : α} (h : l[j]? = some x) : k ∈ l.take (j + 1) ↔ k ∈ l.take j ∨ k = x := by
  rw [List.take_add_one, h]
  show k ∈ l.take j ++ [x] ↔ _
  rw [List.mem_append, List.mem_singleton]
theorem new_part (hp : PartsOk t ps) (e : ps[i]? = some p) : p ∉ ps.take i := by
  intro hm
  obtain ⟨hi, e2⟩ := List.getElem?_eq_some_iff.mp e
  have h := hp.1
  rw [← List.take_append_drop i ps, List.nodup_append] at h
  have hd : p ∈ ps.drop i := by
    rw [← e2, ← List.getElem_cons_drop hi]
    exact List.mem_cons_self ..
  exact h.2.2 p hm p hd rfl
theorem before_part (hp : PartsOk t ps) (e : ps[i]? = some p) {k : Tx} (hk : k ∈ ps) (hl : k.length < p.length) : k ∈ ps.take i := by
  obtain ⟨hi, e2⟩ := List.getElem?_eq_some_iff.mp e
  have hs : ps = ps.take i ++ ps.drop i := (List.take_append_drop i ps).symm
  rw [hs] at hk
  rcases List.mem_append.mp hk with hk | hk
  · exact hk
  · have h := hp.2.2
    rw [hs, List.pairwise_append] at h
    have hd : ps.drop i = p :: ps.drop (i + 1) := by
      rw [← e2]
      exact (List.getElem_cons_drop hi).symm
    rw [hd] at h hk
    rcases List.mem_cons.mp hk with e3 | hk
    · subst e3
      omega
    · have := (List.pairwise_cons.mp h.2.1).1 k hk
      omega
theorem found_follows (hp : PartsOk t ps) (hf : FoundOn b (ps.take i) es) (e : ps[i]? = some p) : can b p = true ↔ p <+: b ∨ Follows (es.map (·.1)) p := by
  obtain ⟨h1, h2⟩ := (hp.2.1 p).mp (List.mem_of_getElem? e)
  refine can_follows h1 h2 fun k k1 k2 k3 => ?_
  rw [hf.2.1]
  constructor
  · exact fun h => h.2
  · exact fun h => ⟨before_part hp e ((hp.2.1 k).mpr ⟨k1, k2⟩) k3, h⟩
theorem found_new (hp : PartsOk t ps) (hf : FoundOn b (ps.take i) es) (e : ps[i]? = some p) : p ∉ es.map (·.1) := fun hm => new_part hp e ((hf.2.1 p).mp hm).1
theorem found_add (hp : PartsOk t ps) (hf : FoundOn b (ps.take i) es) (e : ps[i]? = some p) {o : Option Nat} (ho : EntryOk b (es.map (·.1)) p o) : FoundOn b (ps.take (i + 1)) (es ++ [(p, o)]) := by
  have hn := found_new hp hf e
  have hc : can b p = true := by
    rw [found_follows hp hf e]
    cases o with
    | none => exact .inl ho
    | some c =>
      obtain ⟨h1, h2, l, h3, h4⟩ := ho
      exact .inr ⟨c, l, h1, h2, h3, h4⟩
  have em : (es ++ [(p, o)]).map (·.1) = es.map (·.1) ++ [p] := by
    rw [List.map_append]
    rfl
  have sub' : ∀ x ∈ es.map (·.1), x ∈ es.map (·.1) ++ [p] := fun x hx => List.mem_append_left _ hx
  refine ⟨?_, fun k => ?_, fun k o' hk => ?_⟩
  · rw [em, List.nodup_append]
    refine ⟨hf.1, by simp, fun a ha c hc => ?_⟩
    rw [List.mem_singleton] at hc
    subst hc
    exact fun z => hn (z ▸ ha)
  · rw [em, List.mem_append, hf.2.1, mem_take_next e, List.mem_singleton]
    constructor
    · rintro (⟨h1, h2⟩ | rfl)
      · exact ⟨.inl h1, h2⟩
      · exact ⟨.inr rfl, hc⟩
    · rintro ⟨h1 | rfl, h2⟩
      · exact .inl ⟨h1, h2⟩
      · exact .inr rfl
  · rw [em]
    rcases List.mem_append.mp hk with hk | hk
    · exact (hf.2.2 k o' hk).more sub'
    · rw [List.mem_singleton] at hk
      cases hk
      exact ho.more sub'
theorem found_skip (hp : PartsOk t ps) (hf : FoundOn b (ps.take i) es) (e : ps[i]? = some p) (h1 : ¬ p <+: b) (h2 : ¬ Follows (es.map (·.1)) p) : FoundOn b (ps.take (i + 1)) es := by
  refine ⟨hf.1, fun k => ?_, hf.2.2⟩
  rw [hf.2.1, mem_take_next e]
  constructor
  · rintro ⟨a, c⟩
    exact ⟨.inl a, c⟩
  · rintro ⟨a | rfl, c⟩
    · exact ⟨a, c⟩
    · rcases (found_follows hp hf e).mp c with z | z
      · exact absurd z h1
      · exact absurd z h2
end
/-! ### tables that are closed -/
section
variable {b t : Tx}
theorem closed_all {ks : List Tx} (hk : ∀ k, k ∈ ks ↔ k ≠ [] ∧ k <:+: t ∧ can b k = true) : Closed b t ks := by
  intro q h1 h2 h3
  refine (hk q).mpr ⟨h1, h2, ?_⟩
  rw [can_iff h1]
  rcases h3 with h3 | ⟨c, l, a1, a2, a3, a4⟩
  · exact .inl h3
  · exact .inr ⟨c, l, a1, a2, a3, ((hk l).mp a4).2.2⟩
/-- without the whole text: closed just where the text can't begin -/
theorem closed_less {ks : List Tx} (h0 : t ≠ []) (hk : ∀ k, k ∈ ks ↔ (k ≠ [] ∧ k <:+: t ∧ can b k = true) ∧ k ≠ t) : Closed b t ks ↔ ¬ can b t = true := by
  have look : ∀ p, p ≠ [] → p <:+: t → (can b p = true ↔ p <+: b ∨ Follows ks p) := fun p hp ht => can_follows hp ht fun k k1 k2 k3 => by
    rw [hk]
    constructor
    · exact fun h => h.1.2.2
    · refine fun h => ⟨⟨k1, k2, h⟩, fun z => ?_⟩
      subst z
      have := infix_le ht
      omega
  constructor
  · intro h z
    have := h t h0 List.infix_rfl ((look t h0 List.infix_rfl).mp z)
    exact ((hk t).mp this).2 rfl
  · intro hn q h1 h2 h3
    have hc := (look q h1 h2).mpr h3
    refine (hk q).mpr ⟨⟨h1, h2, hc⟩, fun z => ?_⟩
    subst z
    exact hn hc
/-- with one more part left out: not closed -/
theorem closed_not {ks : List Tx} {q : Tx} (hq : q ≠ [] ∧ q <:+: t ∧ can b q = true) (hqt : q ≠ t) (hk : ∀ k, k ∈ ks ↔ ((k ≠ [] ∧ k <:+: t ∧ can b k = true) ∧ k ≠ t) ∧ k ≠ q) : ¬ Closed b t ks := by
  intro h
  have hl : q.length < t.length := by
    have := infix_le hq.2.1
    rcases Nat.lt_or_ge q.length t.length with z | z
    · exact z
    · exact absurd (infix_self hq.2.1 z) hqt
  have hc := (can_follows (ks := ks) hq.1 hq.2.1 fun k k1 k2 k3 => by
    rw [hk]
    constructor
    · exact fun h => h.1.1.2.2
    · refine fun h => ⟨⟨⟨k1, k2, h⟩, fun z => ?_⟩, fun z => ?_⟩
      · subst z
        omega
      · subst z
        omega).mp hq.2.2
  have := h q hq.1 hq.2.1 hc
  exact ((hk q).mp this).2 rfl
end
end OwM
set_option linter.all false
namespace OwM
/-! ### tables without the text, and with a part less -/
def lessP (t : Tx) (ps : List Tx) : List Tx := ps.filter fun p => decide (p ≠ t)
def lessT (t : Tx) (ls : List (List Nat × List Tx)) : List (List Nat × List Tx) := ls.map fun l => (l.1, lessP t l.2)
theorem mem_lessP {t k : Tx} {ps : List Tx} : k ∈ lessP t ps ↔ k ∈ ps ∧ k ≠ t := by
  unfold lessP
  rw [List.mem_filter, decide_eq_true_iff]
theorem lessP_next {t p : Tx} {ps : List Tx} {i : Nat} (h : ps[i]? = some p) : lessP t (ps.take (i + 1)) = lessP t (ps.take i) ++ if p = t then [] else [p] := by
  unfold lessP
  rw [List.take_add_one, h, List.filter_append]
  by_cases e : p = t
  · rw [if_pos e]
    subst e
    simp
  · rw [if_neg e]
    simp [e]
theorem asc_lessP {t : Tx} {ps : List Tx} (h : Asc ps) : Asc (lessP t ps) := List.Pairwise.filter _ h
theorem short_of {t k : Tx} (h : k <:+: t) (hn : k ≠ t) : k.length < t.length := by
  have h1 := infix_le h
  rcases Nat.lt_or_ge k.length t.length with z | z
  · exact z
  · exact absurd (infix_self h z) hn
theorem partsIn_less {b t : Tx} {ps : List Tx} (h : IsCansE b t ps) : PartsIn t (lessP t ps) := by
  refine ⟨asc_lessP h.1, fun p hp => ?_⟩
  obtain ⟨h1, h2⟩ := mem_lessP.mp hp
  obtain ⟨a, c, _⟩ := (h.2 p).mp h1
  exact ⟨List.length_pos_iff.mpr a, short_of c h2, c⟩
theorem partsIn_out {t : Tx} {ps : List Tx} (j : Nat) (h : PartsIn t ps) : PartsIn t (ps.take j ++ ps.drop (j + 1)) := by
  have e : ps.take j ++ ps.drop (j + 1) = ps.eraseIdx j := (List.eraseIdx_eq_take_drop_succ ps j).symm
  have sl : (ps.take j ++ ps.drop (j + 1)).Sublist ps := by
    rw [e]
    exact List.eraseIdx_sublist ps j
  exact ⟨h.1.sublist sl, fun p hp => h.2 p (sl.subset hp)⟩
theorem mem_out {ps : List Tx} {j : Nat} {q k : Tx} (hn : ps.Nodup) (e : ps[j]? = some q) : k ∈ ps.take j ++ ps.drop (j + 1) ↔ k ∈ ps ∧ k ≠ q := by
  obtain ⟨hj, e2⟩ := List.getElem?_eq_some_iff.mp e
  have hs : ps = ps.take j ++ q :: ps.drop (j + 1) := by
    rw [← e2, List.getElem_cons_drop, List.take_append_drop]
  have hn' : (ps.take j ++ q :: ps.drop (j + 1)).Nodup := by
    rw [← hs]
    exact hn
  rw [List.nodup_append] at hn'
  obtain ⟨n1, n2, n3⟩ := hn'
  obtain ⟨n4, n5⟩ := List.nodup_cons.mp n2
  have hm : k ∈ ps ↔ k ∈ ps.take j ∨ k = q ∨ k ∈ ps.drop (j + 1) := by
    conv => lhs; rw [hs]
    rw [List.mem_append, List.mem_cons]
  rw [hm, List.mem_append]
  constructor
  · rintro (h | h)
    · exact ⟨.inl h, fun z => n3 k h q (List.mem_cons_self ..) z⟩
    · exact ⟨.inr (.inr h), fun z => n4 (z ▸ h)⟩
  · rintro ⟨h | h | h, hq⟩
    · exact .inl h
    · exact absurd h hq
    · exact .inr h
theorem mem_mapRev {ps : List Tx} {k : Tx} : k ∈ ps.map List.reverse ↔ k.reverse ∈ ps := by
  rw [List.mem_map]
  constructor
  · rintro ⟨x, hx, rfl⟩
    rw [List.reverse_reverse]
    exact hx
  · exact fun h => ⟨k.reverse, h, List.reverse_reverse k⟩
theorem rev_ne {k : Tx} : k.reverse ≠ [] ↔ k ≠ [] := by
  rw [ne_eq, List.reverse_eq_nil_iff]
theorem rev_eq {k t : Tx} : k.reverse = t ↔ k = t.reverse := by
  constructor
  · intro h
    rw [← h, List.reverse_reverse]
  · intro h
    rw [h, List.reverse_reverse]
theorem infix_rev' {k t : Tx} : k.reverse <:+: t ↔ k <:+: t.reverse := by
  rw [← infix_rev, List.reverse_reverse]
/-- the parts read backward -/
theorem cansE_rev {b t : Tx} {ps : List Tx} (h : IsCansE b t ps) (k : Tx) : k ∈ ps.map List.reverse ↔ k ≠ [] ∧ k <:+: t.reverse ∧ can b.reverse k = true := by
  rw [mem_mapRev, h.2, rev_ne, infix_rev', List.reverse_reverse]
theorem closed_lessP {b t : Tx} {ps : List Tx} (h0 : t ≠ []) (h : IsCansE b t ps) : Closed b.reverse t.reverse ((lessP t ps).map List.reverse) ↔ ¬ can b.reverse t.reverse = true := by
  refine closed_less (rev_ne.mpr h0) fun k => ?_
  rw [mem_mapRev, mem_lessP, ← mem_mapRev, cansE_rev h, ne_eq, ne_eq, rev_eq]
theorem closed_out {b t q : Tx} {ps : List Tx} {j : Nat} (h : IsCansE b t ps) (e : (lessP t ps)[j]? = some q) : ¬ Closed b.reverse t.reverse (((lessP t ps).take j ++ (lessP t ps).drop (j + 1)).map List.reverse) := by
  have hq := mem_lessP.mp (List.mem_of_getElem? e)
  have hq2 := (h.2 q).mp hq.1
  refine closed_not (q := q.reverse) ⟨rev_ne.mpr hq2.1, infix_rev.mpr hq2.2.1, hq2.2.2⟩ (fun z => hq.2 ?_) fun k => ?_
  · have := congrArg List.reverse z
    rw [List.reverse_reverse, List.reverse_reverse] at this
    exact this
  · rw [mem_mapRev, mem_out (asc_nodup (asc_lessP h.1)) e, mem_lessP, ← mem_mapRev, cansE_rev h, ne_eq, ne_eq, ne_eq, ne_eq, rev_eq, rev_eq]
section
variable {r t : Tx} {ls : List (List Nat × List Tx)}
theorem less_fst : (lessT t ls).map (·.1) = ls.map (·.1) := by
  unfold lessT
  rw [List.map_map]
  rfl
theorem less_mem {l : List Nat × List Tx} (h : l ∈ lessT t ls) : ∃ ps, (l.1, ps) ∈ ls ∧ l.2 = lessP t ps := by
  obtain ⟨x, hx, rfl⟩ := List.mem_map.mp h
  exact ⟨x.2, hx, rfl⟩
theorem less_parts (h : Lines r t ls) : ∀ l ∈ lessT t ls, PartsIn t l.2 := fun l hl => by
  obtain ⟨ps, h1, h2⟩ := less_mem hl
  rw [h2]
  exact partsIn_less (h.2 _ h1)
theorem ableE_iff : ableE r t = true ↔ ∃ s ∈ stories (r.length - 1) t.length, can (follow r s).reverse t.reverse = true := by
  unfold ableE
  rw [List.any_eq_true]
theorem less_closed (h0 : t ≠ []) (h : Lines r t ls) : (∀ l ∈ lessT t ls, Closed (follow r l.1).reverse t.reverse (l.2.map List.reverse)) ↔ ableE r t = false := by
  constructor
  · intro hc
    rw [Bool.eq_false_iff]
    intro z
    obtain ⟨s, hs, hcan⟩ := ableE_iff.mp z
    rw [← h.1] at hs
    obtain ⟨l, hl, rfl⟩ := List.mem_map.mp hs
    have := hc (l.1, lessP t l.2) (List.mem_map.mpr ⟨l, hl, rfl⟩)
    exact (closed_lessP h0 (h.2 l hl)).mp this hcan
  · intro ha l hl
    obtain ⟨ps, h1, h2⟩ := less_mem hl
    rw [h2, closed_lessP h0 (h.2 _ h1)]
    intro z
    rw [Bool.eq_false_iff] at ha
    refine ha (ableE_iff.mpr ⟨l.1, ?_, z⟩)
    rw [← h.1]
    exact List.mem_map.mpr ⟨_, h1, rfl⟩
theorem whole_mem (h : Lines r t ls) (h0 : t ≠ []) {l : List Nat × List Tx} (hl : l ∈ ls) : t ∈ l.2 ↔ can (follow r l.1).reverse t.reverse = true := by
  rw [(h.2 l hl).2]
  exact ⟨fun z => z.2.2, fun z => ⟨h0, List.infix_rfl, z⟩⟩
/-- the text is in a line just where it can end -/
theorem able_mem (h : Lines r t ls) (h0 : t ≠ []) : ableE r t = true ↔ ∃ l ∈ ls, t ∈ l.2 := by
  rw [ableE_iff, ← h.1]
  constructor
  · rintro ⟨s, hs, hc⟩
    obtain ⟨l, hl, rfl⟩ := List.mem_map.mp hs
    exact ⟨l, hl, (whole_mem h h0 hl).mpr hc⟩
  · rintro ⟨l, hl, hc⟩
    exact ⟨l.1, List.mem_map.mpr ⟨l, hl, rfl⟩, (whole_mem h h0 hl).mp hc⟩
theorem lessP_same {ps : List Tx} (h : t ∉ ps) : lessP t ps = ps := by
  unfold lessP
  rw [List.filter_eq_self]
  intro a ha
  rw [decide_eq_true_iff]
  exact fun z => h (z ▸ ha)
theorem less_same (h0 : t ≠ []) (h : Lines r t ls) (ha : ableE r t = false) : lessT t ls = ls := by
  unfold lessT
  conv => rhs; rw [← List.map_id ls]
  refine List.map_congr_left fun l hl => ?_
  rw [Bool.eq_false_iff] at ha
  rw [lessP_same fun z => ha ((able_mem h h0).mpr ⟨l, hl, z⟩)]
  rfl
theorem out_not (h : Lines r t ls) {i j : Nat} {s : List Nat} {ps : List Tx} (e : (lessT t ls)[i]? = some (s, ps)) (hj : j < ps.length) :
    ¬ ∀ l ∈ (lessT t ls).set i (s, ps.take j ++ ps.drop (j + 1)), Closed (follow r l.1).reverse t.reverse (l.2.map List.reverse) := by
  intro hc
  obtain ⟨hi, e2⟩ := List.getElem?_eq_some_iff.mp e
  obtain ⟨ps0, h1, h2⟩ := less_mem (List.mem_of_getElem? e)
  have h2 : ps = lessP t ps0 := h2
  have hm : (s, ps.take j ++ ps.drop (j + 1)) ∈ (lessT t ls).set i (s, ps.take j ++ ps.drop (j + 1)) := by
    refine List.mem_of_getElem? (i := i) ?_
    rw [List.getElem?_set_self (by exact hi)]
  have := hc _ hm
  subst h2
  exact closed_out (h.2 _ h1) (List.getElem?_eq_getElem hj) this
theorem out_parts (h : Lines r t ls) {i j : Nat} {s : List Nat} {ps : List Tx} (e : (lessT t ls)[i]? = some (s, ps)) : ∀ l ∈ (lessT t ls).set i (s, ps.take j ++ ps.drop (j + 1)), PartsIn t l.2 := fun l hl => by
  rcases List.mem_or_eq_of_mem_set hl with hl | rfl
  · exact less_parts h l hl
  · exact partsIn_out j (less_parts h _ (List.mem_of_getElem? e))
theorem out_fst {i : Nat} {s : List Nat} {ps qs : List Tx} (e : (lessT t ls)[i]? = some (s, ps)) : ((lessT t ls).set i (s, qs)).map (·.1) = ls.map (·.1) := by
  rw [← less_fst (t := t) (ls := ls), List.map_set]
  have e1 : ((lessT t ls).map (·.1))[i]? = some s := by
    rw [List.getElem?_map, e]
    rfl
  obtain ⟨hi, e2⟩ := List.getElem?_eq_some_iff.mp e1
  apply List.ext_getElem?
  intro k
  by_cases hk : i = k
  · subst hk
    rw [List.getElem?_set_self (by exact hi), e1]
  · rw [List.getElem?_set_ne hk]
/-- two tables for one row and text are the same -/
theorem cansE_eq {b : Tx} {ps qs : List Tx} (h1 : IsCansE b t ps) (h2 : IsCansE b t qs) : ps = qs := asc_eq h1.1 h2.1 fun k => by rw [h1.2, h2.2]
theorem lines_eq : ∀ {ls ms : List (List Nat × List Tx)}, ls.map (·.1) = ms.map (·.1) → (∀ l ∈ ls, IsCansE (follow r l.1) t l.2) → (∀ l ∈ ms, IsCansE (follow r l.1) t l.2) → ls = ms
  | [], [], _, _, _ => rfl
  | [], _ :: _, h, _, _ => by cases h
  | _ :: _, [], h, _, _ => by cases h
  | (s, ps) :: ls, (s', qs) :: ms, h, h1, h2 => by
    rw [List.map_cons, List.map_cons, List.cons.injEq] at h
    obtain ⟨e1, e2⟩ := h
    have e1 : s = s' := e1
    subst e1
    have a := h1 _ (List.mem_cons_self ..)
    have b := h2 _ (List.mem_cons_self ..)
    have e3 : ps = qs := cansE_eq a b
    subst e3
    rw [lines_eq e2 (fun l hl => h1 l (List.mem_cons_of_mem _ hl)) fun l hl => h2 l (List.mem_cons_of_mem _ hl)]
theorem Lines.eq {ms : List (List Nat × List Tx)} (h1 : Lines r t ls) (h2 : Lines r t ms) : ls = ms := lines_eq (h1.1.trans h2.1.symm) h1.2 h2.2
end
end OwM
set_option Elab.async false
set_option linter.all false
set_option maxRecDepth 100000
set_option maxHeartbeats 2000000
namespace OwR
open PySem PySem.Spec PyProof.Rows L2
/-! ### texts as lists of signs -/
abbrev Tx := List Nat
def tS (l : Tx) : Str := ⟨l.toArray⟩
theorem tS_len (l : Tx) : (tS l).length = l.length := by
  show l.toArray.size = l.length
  exact List.size_toArray ..
theorem tS_list (l : Tx) : (tS l).cps.toList = l := by
  show l.toArray.toList = l
  exact List.toList_toArray ..
theorem tS_of (z : Str) : tS z.cps.toList = z := by
  obtain ⟨a⟩ := z
  show (⟨a.toList.toArray⟩ : Str) = ⟨a⟩
  rw [Array.toArray_toList]
theorem tS_inj {l m : Tx} (h : tS l = tS m) : l = m := by
  have := congrArg (fun z : Str => z.cps.toList) h
  simpa only [tS_list] using this
theorem tS_app (l m : Tx) : tS l ++ tS m = tS (l ++ m) := by
  show (⟨l.toArray ++ m.toArray⟩ : Str) = ⟨(l ++ m).toArray⟩
  rw [List.append_toArray]
/-! ### a text with a step of one, either way -/
theorem stepped_one (z : Str) (u : Tok) : Txt.sliceBy z none none (1, u) = z := by
  unfold Txt.sliceBy slicePicked
  have e : (Builtin.Str.strSliceIndices none none 1 z.length).length = z.length := by
    rw [sidx]
    rw [List.length_map, List.length_range]
    show HT.sIx z.length z.length none - HT.sIx z.length 0 none = z.length
    rw [HT.sIx_none, HT.sIx_none]
    omega
  rw [if_pos]
  show ((1 : Int) == 1 && (Builtin.Str.strSliceIndices none none 1 z.length).length == z.length) = true
  rw [e]
  simp
theorem stepped_back (l : Tx) (u : Tok) : Txt.sliceBy (tS l) none none (-1, u) = tS l.reverse := by
  have h := step_rev_list (tS l) u
  have e : (List.range (tS l).length).map (fun k => (tS l).cps.getD ((tS l).length - 1 - k) 0) = l.reverse := by
    rw [tS_len]
    apply List.ext_getElem
    · simp
    · intro i h1 h2
      have hi : i < l.length := by simpa using h1
      rw [List.getElem_map, List.getElem_range, List.getElem_reverse]
      show l.toArray.getD (l.length - 1 - i) 0 = _
      rw [Array.getD_eq_getD_getElem?]
      have : l.length - 1 - i < l.length := by omega
      simp [this]
  rw [e] at h
  rw [← tS_of (Txt.sliceBy (tS l) none none (-1, u)), h]
def tStep (te ts : TE) : TE := fun σ H Q => te σ H fun x H1 => ts σ H1 fun y H2 => ∃ (l : Tx) (k : Int), x = .str (tS l) ∧ y = .int k ∧ l.length ≤ sizeLine ∧ (k = 1 ∨ k = -1) ∧ Q (.str (tS (if k = 1 then l else l.reverse))) H2
theorem pe_step {X : Cx} {e st : Expr} {te ts : TE} {p3 pos : Pos} (he : PE X e te) (hst : PE X st ts) : PE X (.Subscript e (.Slice none none (some st) p3) pos) (tStep te ts) := by
  refine ⟨fun pins s σ H Q I h => ?_⟩
  refine Subscript_ (thn (he.run pins s σ H _ I h) fun v s1 ⟨x, H1, I1, r1, q1⟩ => ?_)
  refine wpAny_Slice (thn (po_none.run pins s1 σ H1 (fun o H2 => o = none ∧ H2 = H1) I1 ⟨rfl, rfl⟩) fun vl s2 ⟨lo, H2, I2, pl, el, e2⟩ => ?_)
  subst el e2
  refine thn (po_none.run pins s2 σ H2 (fun o H3 => o = none ∧ H3 = H2) I2 ⟨rfl, rfl⟩) fun vu s3 ⟨hi, H3, I3, pu, eu, e3⟩ => ?_
  subst eu e3
  rw [evalPart_some]
  refine thn (hst.run pins s3 σ H3 _ I3 q1) fun vs s4 ⟨y, H4, I4, r4, l, k, ex, ey, hz, hk, q⟩ => ?_
  subst ex ey
  obtain ⟨t, rfl⟩ := r1
  obtain ⟨u, rfl⟩ := r4
  cases pl
  cases pu
  have I5 : Inv X pins σ H4 { s4 with heap := s4.heap.push { cls := .type "slice", data := .fields #[.none, .none, .int k u] } } := I4.kept (t' := s4.toks) fun b ob q => Heap.get?_push_of_some _ q
  show wpAny (model X.prog X.w) X.A (subscriptTail e (.Slice none none (some st) p3) (.str (tS l) t) (.ref s4.heap.objs.size)) (EP X pins σ Q) X.xe { s4 with heap := s4.heap.push { cls := .type "slice", data := .fields #[.none, .none, .int k u] } }
  have k0 : (k == 0) = false := by rcases hk with rfl | rfl <;> decide
  refine tail_any (ops := [.ref s4.heap.objs.size, .str (tS l) t]) (typeIs_str _ _ _) F.slot_str_getitem.lookup ?_ (by with_unfolding_all rfl)
  refine wpAny_getItem_str_slice (l := none) (u := none) (st := some (k, u)) ⟨_, Heap.get?_push_size _ rfl, rfl, rfl⟩ k0 ?_
  have ez : Txt.sliceBy (tS l) none none (k, u) = tS (if k = 1 then l else l.reverse) := by
    rcases hk with rfl | rfl
    · rw [if_pos rfl, stepped_one]
    · rw [if_neg (by decide), stepped_back]
  have hl := Txt.sliceBy_le (tS l) none none (k, u) (by simpa using k0)
  rw [← ez] at q
  unfold Txt.sliceBy at q hl
  show Made.post (if ((((some (k, u)).map (·.1)).getD 1 == 1 && (slicePicked (tS l) none none (some (k, u))).length == (tS l).length) = true) then Made.val (.str (tS l) t)
    else Made.str ⟨((slicePicked (tS l) none none (some (k, u))).filterMap ((tS l).cps[·]?)).toArray⟩) (EP X pins σ Q) _
  by_cases c : ((((some (k, u)).map (·.1)).getD 1 == 1 && (slicePicked (tS l) none none (some (k, u))).length == (tS l).length) = true)
  · rw [if_pos c] at q ⊢
    exact ⟨.str (tS l), H4, I5, ⟨t, rfl⟩, q⟩
  · rw [if_neg c] at q hl ⊢
    rw [tS_len] at hl
    exact ⟨Nat.le_trans hl hz, .str _, H4, I5.tok _, ⟨_, rfl⟩, q⟩
end OwR
set_option Elab.async false
set_option linter.all false
set_option maxRecDepth 100000
set_option maxHeartbeats 2000000
namespace OwR
open PySem PySem.Spec PyProof.Rows L2
/-! ### sorting texts, however many -/
abbrev sV (l : Tx) : V := .str (tS l)
def leT (a b : Tx) : Bool := decide (a ≤ b)
def leN (a b : Tx) : Bool := decide (a.length ≤ b.length)
/-- u is the text l -/
def IsTx (u : Value) (l : Tx) : Prop := ∃ t, u = .str (tS l) t
theorem each_of_vals : ∀ {xs : List Tx} {us : List Value}, Vals (xs.map sV) us → PySem.W.EachIs IsTx us xs
  | [], _, r => by
    cases r
    exact .nil
  | x :: xs, _, r => by
    cases r with
    | cons r1 r2 => exact .cons r1 (each_of_vals r2)
theorem vals_of_each : ∀ {xs : List Tx} {us : List Value}, PySem.W.EachIs IsTx us xs → Vals (xs.map sV) us
  | _, _, .nil => .nil
  | _, _, .cons r1 r2 => .cons r1 (vals_of_each r2)
theorem each_reads {h : Heap} {xs : List Tx} {us : List Value} (e : PySem.W.EachIs IsTx us xs) : PySem.W.EachIs (fun v b => ∃ as, Reads h v (PyData.str (tS b)) as) us xs :=
  e.mono fun v b ⟨t, q⟩ => ⟨[], by rw [q]; exact .str _ _⟩
theorem order_leT : PySem.W.dataLe false (fun b : Tx => PyData.str (tS b)) = leT := by
  rw [PySem.W.dataLe_str]
  funext a b
  simp only [tS_list]
  rfl
theorem order_leN : PySem.W.dataLe false (fun b : Tx => PyData.int (b.length : Int)) = leN := by
  rw [PySem.W.dataLe_int]
  funext a b
  unfold leN
  simp
theorem alike_tx (xs : List Tx) : PySem.W.AllAlike (xs.map fun b => PyData.str (tS b)) := PySem.W.AllAlike.of fun _ _ => rfl
theorem sortable_tx (xs : List Tx) : PySem.W.Sortable (xs.map fun b => PyData.str (tS b)) := PySem.W.Sortable.others fun _ => ⟨nofun, nofun⟩
section
variable {X : Cx}
def rSortT (K : PySem.W.Frag) : List V → Hp → VK → Prop := fun vs H Q => ∃ (a : Addr) (xs : List Tx), vs = [V.ref a] ∧ SqL K H a (xs.map sV) ∧ ∀ p, H p = none → Q (.ref p) (upd H p (.lst ((xs.mergeSort leT).map sV)))
theorem cr_sortT {k : Nat} (hr : Room k X.A) : CallR X (.builtin "sorted") (rSortT X.K) := by
  intro pins s σ H vs us Q I r h
  obtain ⟨a, xs, rfl, hs, q⟩ := h
  obtain ⟨u, rfl, rx⟩ := vals1 r
  cases rx
  obtain ⟨its, rv, hl, hz⟩ := I.list hs
  have e := each_of_vals rv
  have hz' : xs.length ≤ sizeLine := by rw [List.length_map] at hz; exact hz
  refine PySem.W.sorted_data (enc := fun b : Tx => PyData.str (tS b)) (R := IsTx) hl.isList e (each_reads e) (alike_tx xs) (sortable_tx xs) hz' (fun b _ => ?_) fun out ho eo => ?_
  · have := hr.units
    show X.A.units + 2 + 0 < cLine
    omega
  · rw [order_leT] at eo
    obtain ⟨ep, he'⟩ := sortedAll_at s.heap its out.toArray
    refine ⟨.ref _, upd H (s.heap.objs.size + 1) (.lst ((xs.mergeSort leT).map sV)), I.laid (t' := s.toks) (fun _ _ => sortedAll_old) (Nat.le_succ _) ⟨?_, out, ep, vals_of_each eo, he'⟩, rfl, q _ (I.hok.fresh (Nat.le_succ _))⟩
    rw [List.length_map, List.length_mergeSort]
    exact hz'
theorem len_turn {prog : Program} {w : World} {A : Around} {E : Value → Shared → Prop} {s : Shared} {x : Tx} {t : Tok} (hz : x.length ≤ sizeLine) :
    wpAny (model prog w) A (call (.builtin "len") [.str (tS x) t]) (PySem.W.KeyPure (.int (x.length : Int)) s) E s := by
  have hl : (tS x).length = x.length := tS_len x
  refine PySem.P.len_str ?_ ?_
  · have e63 := line63
    rw [hl]
    omega
  · rw [hl]
    exact ⟨s.heap, _, rfl, fun _ _ e => e, .int _ _⟩
theorem run_sortN {k : Nat} (hr : Room k X.A) {pins : List (Addr × Obj)} {s : Shared} {σ : L2.St} {H : Hp} {a : Addr} {xs : List Tx} {Q : VK} (I : Inv X pins σ H s) (hs : SqL X.K H a (xs.map sV)) (hx : ∀ x ∈ xs, x.length ≤ sizeLine)
    (q : ∀ p, H p = none → Q (.ref p) (upd H p (.lst ((xs.mergeSort leN).map sV)))) : wpAny (model X.prog X.w) X.A (call (.builtin "sorted") [.ref a] [(Str.ofString "key", .builtin "len")]) (EP X pins σ Q) X.xe s := by
  obtain ⟨its, rv, hl, hz⟩ := I.list hs
  have e := each_of_vals rv
  have hz' : xs.length ≤ sizeLine := by rw [List.length_map] at hz; exact hz
  refine PySem.W.sorted_key_data (b := false) (k := fun b : Tx => PyData.int (b.length : Int)) (R := IsTx) hl.isList e (PySem.W.AllAlike.of fun _ _ => rfl) (PySem.W.Sortable.others fun _ => ⟨nofun, nofun⟩) hz' (fun b _ => ?_)
    (ksk_s1 _ _) (fun _ => ksk_l1 _ _) (fun x => ksk_t4 _ x) (fun v x ⟨t, ev⟩ hm h tk kp => ?_) fun out c h' tk kp hn hp ho eo => ?_
  · have := hr.units
    show X.A.units + 2 + 0 < cLine
    omega
  · subst ev
    exact len_turn (hx x hm)
  · rw [order_leN] at eo
    refine ⟨.ref _, upd H (s.heap.objs.size + 1) (.lst ((xs.mergeSort leN).map sV)), I.laid (t' := tk) kp (Nat.le_succ _) ⟨?_, out, c, vals_of_each eo, hp⟩, rfl, q _ (I.hok.fresh (Nat.le_succ _))⟩
    rw [List.length_map, List.length_mergeSort]
    exact hz'
/-- sorted(xs, key=len) -/
def tSortN (K : PySem.W.Frag) (te : TE) : TE := fun σ H Q => te σ H fun x H1 => ∃ (a : Addr) (xs : List Tx), x = V.ref a ∧ SqL K H1 a (xs.map sV) ∧ (∀ x ∈ xs, x.length ≤ sizeLine) ∧ ∀ p, H1 p = none → Q (.ref p) (upd H1 p (.lst ((xs.mergeSort leN).map sV)))
theorem pe_sortN {k : Nat} {e : Expr} {te : TE} {p p2 p3 pos : Pos} (hr : Room k X.A) (hg : Gl X "sorted") (hm : X.mg "sorted" = none) (hg2 : Gl X "len") (hm2 : X.mg "len" = none) (he : PE X e te) (hs : starEach [e] X.env = [(false, eval e X.env)] := by rfl) :
    PE X (.Call (.Name "sorted" p) [e] [{ arg := some "key", value := .Name "len" p2, pos := p3 }] pos) (tSortN X.K te) := by
  refine ⟨fun pins s σ H Q I h => ?_⟩
  refine wpAny_Call_Name_kw (ld_blt (u := .builtin "sorted") I hg hm (by decide +kernel) ?_)
  refine callWith_kw (thn ((pa_cons he pa_nil hs).run pos pins s σ H (fun vs H1 => match vs with
    | [x] => ∃ (a : Addr) (xs : List Tx), x = V.ref a ∧ SqL X.K H1 a (xs.map sV) ∧ (∀ x ∈ xs, x.length ≤ sizeLine) ∧ ∀ p, H1 p = none → Q (.ref p) (upd H1 p (.lst ((xs.mergeSort leN).map sV)))
    | _ => False) I h) fun us s1 ⟨vs, H1, I1, r1, q1⟩ => ?_) (by rw [hs]; rfl) (by rw [hs]; rfl) (by rfl) (by rfl)
  match vs, r1, q1 with
  | [x], r1, ⟨a, xs, ea, hs1, hx, q⟩ =>
    subst ea
    obtain ⟨u, rfl, ru⟩ := vals1 r1
    cases ru
    show wpAny _ _ (evalAll [do let v ← eval (.Name "len" p2) X.env; standAt pos; pure v]) _ _ _
    refine wpAny_evalAll_cons (wpAny_bind (ld_blt (u := .builtin "len") I1 hg2 hm2 (by decide +kernel) (wpAny_bind (wpAny_standAt (wpAny_pure ?_)))))
    refine wpAny_evalAll_nil ?_
    exact run_sortN hr I1 hs1 hx q
/-- what is left of sorted once the items are gathered -/
theorem sort_rest {A : Around} {E : Value → Shared → Prop} {pins : List (Addr × Obj)} {s : Shared} {σ : L2.St} {H : Hp} {xs : List Tx} {us : List Value} {Q : VK} (I : Inv X pins σ H s) (e : PySem.W.EachIs IsTx us xs) (hz : xs.length ≤ sizeLine) (hu : A.units + 1 < cLine)
    (q : ∀ p, H p = none → Q (.ref p) (upd H p (.lst ((xs.mergeSort leT).map sV)))) :
    wpAny (model X.prog X.w) A (newList us >>= fun l => holding [l] (call (.builtin "list.sort") [l] []) >>= fun _ => ret l) (fun f s' => ∃ v, f = .done (.ret v) ∧ EP X pins σ Q v s') E s := by
  refine wpAny_bind (wpAny_newList ?_ (by rw [e.length]; exact hz))
  have hoL : (s.heap.push (seqObj "list" us.toArray 0)).get? s.heap.objs.size = some (seqObj "list" us.toArray 0) := Heap.get?_push_size _ rfl
  have er : PySem.W.EachIs (fun v b => ∃ as, Reads (s.heap.push (seqObj "list" us.toArray 0)) v (PyData.str (tS b)) as ∧ s.heap.objs.size ∉ as) us xs := e.mono fun v b ⟨t, q⟩ => ⟨[], by rw [q]; exact .str _ _, by simp⟩
  refine wpAny_bind (wpAny_holding ?_)
  refine PySem.W.list_sort_data (s := { s with heap := s.heap.push (seqObj "list" us.toArray 0) }) (enc := fun b : Tx => PyData.str (tS b)) (R := IsTx) hoL e er (alike_tx xs) (sortable_tx xs) hz (fun b _ => hu) fun out ho eo => ?_
  rw [order_leT] at eo
  obtain ⟨ep, he'⟩ := sortedHeap_at (vs := us) (out := out.toArray) hoL
  refine wpAny_pure ⟨_, rfl, .ref _, upd H s.heap.objs.size (.lst ((xs.mergeSort leT).map sV)), I.laid (t' := s.toks) (fun b o hb => ?_) (Nat.le_refl _) ⟨?_, out, ep, vals_of_each eo, he'⟩, rfl, q _ (I.hok.fresh (Nat.le_refl _))⟩
  · have hlt := Heap.lt_size hb
    rw [sortedHeap_old (Nat.ne_of_lt hlt) (by rw [size_push']; exact Nat.lt_succ_of_lt hlt)]
    exact Heap.get?_push_of_some _ hb
  · rw [List.length_map, List.length_mergeSort]
    exact hz
theorem each_at : ∀ {us : List Value} {ks : List Tx}, us.length = ks.length → (∀ (j : Nat) (v : Value), us[j]? = some v → ∃ k, ks[j]? = some k ∧ IsTx v k) → PySem.W.EachIs IsTx us ks
  | [], [], _, _ => .nil
  | u :: us, k :: ks, hl, h => by
    obtain ⟨k', e1, e2⟩ := h 0 u rfl
    obtain rfl : k = k' := Option.some.inj e1
    exact .cons e2 (each_at (Nat.succ.inj hl) fun j v e => h (j + 1) v e)
  | [], _ :: _, hl, _ => by cases hl
  | _ :: _, [], hl, _ => by cases hl
/-- sorted(d), all keys texts -/
def rSortD : List V → Hp → VK → Prop := fun vs H Q => ∃ (a : Addr) (kvs : List (Key × V)) (ks : List Tx), vs = [V.ref a] ∧ Rd H a (.dK kvs) ∧ kvs.map (·.1) = ks.map (fun k => Sum.inr (tS k)) ∧ ∀ p, H p = none → Q (.ref p) (upd H p (.lst ((ks.mergeSort leT).map sV)))
theorem cr_sortD {k : Nat} (hr : Room k X.A) (hcalm : X.calm = true) : CallR X (.builtin "sorted") rSortD := by
  intro pins s σ H vs us Q I r h
  obtain ⟨a, kvs, ks, rfl, hd, hks, q⟩ := h
  obtain ⟨u, rfl, rx⟩ := vals1 r
  cases rx
  obtain ⟨z, lo, vs, rel, dd⟩ := dk_rd I.hok hd
  obtain ⟨ep, hat⟩ := dd.dictAt
  have hkeys : vs.map (·.1) = ks.map (fun k => Sum.inr (tS k)) := rel.keys.symm.trans hks
  have hl : vs.length = ks.length := by simpa using congrArg List.length hkeys
  have hl2 : kvs.length = ks.length := by simpa using congrArg List.length hks
  have h16 : ks.length ≤ sizeLine := by rw [← hl2]; exact z
  refine Calls.call_function_entry kind_sorted plain_sorted entry_sorted (args_sorted1 _) ?_
  unfold Builtin.«sorted»
  refine wpAny_bind (m := checkCount "sorted" 1 1 _) (wpAny_pure ?_)
  refine wpAny_bind (PySem.W.kdu_collect (A := X.A.in1) (PySem.W.kdl_dict (knd := mixKind X.prog X.w) (kvs := vs) (ep := ep) lo) (I.ok.hd hcalm) hat (by rw [hl]; exact h16) fun h' tk acc hk hacc => ?_)
  have hal : acc.toList.length = ks.length := by rw [Array.length_toList, hacc.1, hl]
  have e : PySem.W.EachIs IsTx acc.toList ks := each_at hal fun j v ev => by
    obtain ⟨key, x, e1, e2⟩ := hacc.2 j v (by rw [← Array.getElem?_toList]; exact ev)
    have e3 : (vs.map (·.1))[j]? = some key := by
      rw [List.getElem?_map, e1]
      rfl
    rw [hkeys, List.getElem?_map] at e3
    cases e4 : ks[j]? with
    | none =>
      rw [e4] at e3
      cases e3
    | some y =>
      rw [e4] at e3
      obtain rfl : Sum.inr (tS y) = key := Option.some.inj e3
      exact ⟨y, rfl, Value.isStrOf_shape (x := tS y) (v := v) e2⟩
  have I1 : Inv X pins σ H { s with heap := h', toks := tk } := I.kept hk
  have hu : X.A.in1.units + 1 < cLine := by
    have h1 := hr.units
    show X.A.units + 1 + 1 < cLine
    omega
  exact sort_rest (A := X.A.in1) I1 e h16 hu q
end
end OwR
set_option Elab.async false
set_option linter.all false
set_option maxRecDepth 100000
set_option maxHeartbeats 2000000
namespace OwR
open PySem PySem.Spec PyProof.Rows L2
/-! ### sets of texts: filled, then sorted -/
abbrev tK (P : Program) (w : World) : PySem.KeyKind P w Str := PySem.strKind P w
def txOf (v : Value) : Tx := match v with
  | .str x _ => x.cps.toList
  | _ => []
/-- an entry that holds a text -/
def EnT (w : World) (e : Int × Value) : Prop := ∃ k tk, e = (hashStr w (tS k), Value.str (tS k) tk)
abbrev keysT (es : Array (Int × Value)) : List Tx := es.toList.map fun e => txOf e.2
/-- the set at a has just the texts of l -/
def SetT (w : World) (h : Heap) (a : Addr) (l : List Tx) : Prop :=
  ∃ o es ep t, h.get? a = some o ∧ (o.ExactSet ∧ o.data = .set es ep t) ∧ (∀ e ∈ es.toList, EnT w e) ∧ ((keysT es).Nodup ∧ ∀ k, k ∈ keysT es ↔ k ∈ l) ∧
    (es.size < scanBound ∧ t.fits es.size = true) ∧ Ris t.place.toList ∧ (w.params.followText "set-order" = true ∨ t.led = true)
section
variable {P : Program} {w : World} {A : Around} {E : Value → Shared → Prop} {s : Shared} {h h' : Heap} {a : Addr} {l : List Tx}
theorem SetT.moved (R : SetT w h a l) (k : ∀ o, h.get? a = some o → h'.get? a = some o) : SetT w h' a l := by
  obtain ⟨o, es, ep, t, ho, r⟩ := R
  exact ⟨o, es, ep, t, k o ho, r⟩
theorem enT_of {es : List (Int × Value)} (g : ∀ e ∈ es, EnT w e) : ElemsOf (tK P w) es := fun e he => by
  obtain ⟨k, tk, rfl⟩ := g e he
  exact ⟨⟨tS k, PySem.strKind_is P w (tS k) tk, rfl⟩, rfl⟩
theorem enT_is {e : Int × Value} (g : EnT w e) (k : Tx) : (tK P w).is (tS k) e.2 = true ↔ txOf e.2 = k := by
  obtain ⟨j, tk, rfl⟩ := g
  show Value.isStrOf (tS k) (.str (tS j) tk) = true ↔ (tS j).cps.toList = k
  rw [tS_list]
  constructor
  · intro z
    obtain ⟨t', q⟩ := Value.isStrOf_shape z
    injection q with q1
    exact tS_inj q1
  · rintro rfl
    exact PySem.strKind_is P w _ tk
theorem len_le_of_sub : ∀ {ks l : List Tx}, ks.Nodup → (∀ k, k ∈ ks → k ∈ l) → ks.length ≤ l.length
  | [], l, _, _ => Nat.zero_le _
  | k :: ks, l, hn, hs => by
    obtain ⟨n1, n2⟩ := List.nodup_cons.mp hn
    have hk := hs k (List.mem_cons_self ..)
    have := len_le_of_sub (ks := ks) (l := l.erase k) n2 fun j hj => by
      have hne : j ≠ k := fun e => n1 (e ▸ hj)
      exact (List.mem_erase_of_ne hne).mpr (hs j (List.mem_cons_of_mem _ hj))
    rw [List.length_erase_of_mem hk] at this
    have hp : 0 < l.length := List.length_pos_of_mem hk
    rw [List.length_cons]
    omega
theorem stored {o : Obj} {es es' : Array (Int × Value)} {ep : Nat} {t t' : SetTable} (ho : h.get? a = some o) (hd : o.data = .set es ep t) : (h.update a (Obj.putSet es' t')).get? a = some { o with data := .set es' (ep + 1) t' } :=
  store_at ho hd
/-- the entries laid, the table grown where it is full -/
theorem put_in {b : Bool} {g : Bool → Sem Unit} (hg : ∀ (b : Bool) (s : Shared) (Q : Unit → Shared → Prop), Q () s → wpAny (model P w) A (g b) Q E s) {o : Obj} {es es1 : Array (Int × Value)} {ep : Nat} {t t1 : SetTable} {R : Option Bool → Shared → Prop}
    (ho : s.heap.get? a = some o) (hx : o.ExactSet) (hd : o.data = .set es ep t) (he : ∀ e ∈ es1.toList, EnT w e) (hk : (keysT es1).Nodup ∧ ∀ k, k ∈ keysT es1 ↔ k ∈ l) (hb : es1.size < scanBound) (hf : t1.fits es1.size = true) (hr : Ris t1.place.toList)
    (hl : w.params.followText "set-order" = true ∨ t1.led = true) (done : ∀ h', Heap.SameBut a s.heap h' → SetT w h' a l → R (some true) { s with heap := h' }) :
    wpAny (model P w) A (do
      storeSet a es1 t1
      if (!b && t1.tooFull) = true then do
          g (relayAll t1 es1 (SetTable.grown es1.size)).2.2
          storeSet a (relayAll t1 es1 (SetTable.grown es1.size)).1 (relayAll t1 es1 (SetTable.grown es1.size)).2.1
          pure (some true)
        else pure (some true)) R E s := by
  have at1 := stored (es' := es1) (t' := t1) ho hd
  have but1 := Heap.SameBut.update s.heap a (Obj.putSet es1 t1)
  refine wpAny_bind (wpAny_storeSet_of ho hd ?_ (fits_of_scanBound hb))
  by_cases full : (!b && t1.tooFull) = true
  · rw [if_pos full]
    have p1 := relayAll_perm t1 es1 (SetTable.grown es1.size)
    have p2 := relayAll_fits t1 es1 (SetTable.grown es1.size)
    have p3 := relayAll_ris t1 es1 (SetTable.grown es1.size)
    have p4 := relayAll_led t1 es1 (SetTable.grown es1.size)
    generalize relayAll t1 es1 (SetTable.grown es1.size) = out at p1 p2 p3 p4 ⊢
    obtain ⟨es2, t2, gw⟩ := out
    simp only at p1 p2 p3 p4 ⊢
    have same : es2.size = es1.size := by
      have := p1.length_eq
      simpa using this
    have pk : (keysT es2).Perm (keysT es1) := p1.map _
    refine wpAny_bind (hg _ _ _ (wpAny_bind (wpAny_storeSet_of at1 rfl (wpAny_pure ?_) (fits_of_scanBound (by rw [same]; exact hb)))))
    refine done _ (but1.trans (Heap.SameBut.update _ a _)) ⟨_, es2, _, t2, stored (es' := es2) (t' := t2) at1 rfl, ⟨hx, rfl⟩, fun e m => he e (p1.mem_iff.mp m), ⟨pk.nodup_iff.mpr hk.1, fun k => pk.mem_iff.trans (hk.2 k)⟩, ⟨by rw [same]; exact hb, p2⟩, p3, ?_⟩
    rcases hl with z | z
    · exact .inl z
    · exact .inr (p4.trans z)
  · rw [if_neg full]
    exact wpAny_pure (done _ but1 ⟨_, es1, _, t1, at1, ⟨hx, rfl⟩, he, hk, ⟨hb, hf⟩, hr, hl⟩)
theorem gave_ok (b : Bool) (s : Shared) (Q : Unit → Shared → Prop) (q : Q () s) : wpAny (model P w) A (match b with | true => rule "set.scan.the-table-gave-way" | false => pure ()) Q E s := by
  cases b
  · exact wpAny_pure q
  · exact wpAny_rule q
theorem add_text {k : Tx} {tk : Tok} {Q : Bool → Shared → Prop} (R : SetT w s.heap a l) (room : l.length + 1 < scanBound) (hQ : ∀ b h', Heap.SameBut a s.heap h' → SetT w h' a (l ++ [k]) → Q b { s with heap := h' }) :
    wpAny (model P w) A (setAddHashed a (.str (tS k) tk) ((tK P w).hash (tS k))) Q E s := by
  obtain ⟨o, es, ep, t, ho, ⟨hx, hd⟩, he, ⟨hn, hm⟩, ⟨hb, hf⟩, hr, hl⟩ := R
  have isk : (tK P w).is (tS k) (.str (tS k) tk) = true := PySem.strKind_is P w (tS k) tk
  have scn : (Value.str (tS k) tk).scannable = true := rfl
  have els : ElemsOf (tK P w) es.toList := enT_of he
  unfold setAddHashed setAddHashedIn
  refine wpAny_holding (wpAny_bind (wpAny_setState_of ho hd hf ?_))
  dsimp only
  rw [byScan_of scn hb els]
  simp only [↓reduceIte]
  unfold setAddByScan
  refine wpAny_bind ?_
  refine wpAny_bind (wpAny_rule (wpAny_bind (wpAny_setScan_of isk ho hd hf els ?_)))
  cases fi : List.findIdx? (fun e => (tK P w).is (tS k) e.2) es.toList with
  | some j =>
    dsimp only
    obtain ⟨hj, pj, _⟩ := List.findIdx?_eq_some_iff_getElem.mp fi
    have hkm : k ∈ keysT es := List.mem_map.mpr ⟨_, List.getElem_mem hj, (enT_is (P := P) (he _ (List.getElem_mem hj)) k).mp pj⟩
    refine wpAny_pure (wpAny_pure (hQ _ s.heap (Heap.SameBut.refl a s.heap) ⟨o, es, ep, t, ho, ⟨hx, hd⟩, he, ⟨hn, fun i => ?_⟩, ⟨hb, hf⟩, hr, hl⟩))
    rw [hm i, List.mem_append, List.mem_singleton]
    exact ⟨.inl, fun z => z.elim id fun e => e ▸ (hm k).mp hkm⟩
  | none =>
    dsimp only
    have hnk : k ∉ keysT es := fun z => by
      obtain ⟨e, em, q⟩ := List.mem_map.mp z
      have c := List.findIdx?_eq_none_iff.mp fi e em
      rw [(enT_is (P := P) (he e em) k).mpr q] at c
      cases c
    have q1 := layNew_perm t es ((tK P w).hash (tS k)) (.str (tS k) tk)
    have q2 := layNew_fits t es ((tK P w).hash (tS k)) (.str (tS k) tk)
    have q3 := layNew_ris t es ((tK P w).hash (tS k)) (.str (tS k) tk) hr
    have q4 := layNew_led t es ((tK P w).hash (tS k)) (.str (tS k) tk)
    generalize layNew t es ((tK P w).hash (tS k)) (.str (tS k) tk) = out at q1 q2 q3 q4 ⊢
    obtain ⟨es1, t1, dum, gw⟩ := out
    simp only at q1 q2 q3 q4 ⊢
    rw [Array.toList_push] at q1
    have pe : es1.toList.Perm (((tK P w).hash (tS k), Value.str (tS k) tk) :: es.toList) := q1.trans (List.perm_append_singleton _ _)
    have pk : (keysT es1).Perm (k :: keysT es) := by
      have z := pe.map fun e => txOf e.2
      have e1 : txOf (Value.str (tS k) tk) = k := tS_list k
      rw [List.map_cons, e1] at z
      exact z
    have he1 : ∀ e ∈ es1.toList, EnT w e := fun e em => by
      rcases List.mem_cons.mp (pe.mem_iff.mp em) with z | z
      · exact ⟨k, tk, z⟩
      · exact he e z
    have hk1 : (keysT es1).Nodup ∧ ∀ i, i ∈ keysT es1 ↔ i ∈ l ++ [k] := ⟨pk.nodup_iff.mpr (List.nodup_cons.mpr ⟨hnk, hn⟩), fun i => by
      rw [pk.mem_iff, List.mem_cons, hm i, List.mem_append, List.mem_singleton]
      exact Or.comm⟩
    have hb1 : es1.size < scanBound := by
      have n1 : (keysT es1).length ≤ (l ++ [k]).length := len_le_of_sub hk1.1 fun i hi => (hk1.2 i).mp hi
      rw [List.length_map, Array.length_toList, List.length_append, List.length_singleton] at n1
      omega
    have hl1 : w.params.followText "set-order" = true ∨ t1.led = true := hl.elim .inl fun z => .inr (q4.trans z)
    refine wpAny_bind (gave_ok _ _ _ ?_)
    split
    · refine wpAny_bind ?_
      rw [hashByValue_scannable 8 scn]
      refine wpAny_pure ?_
      refine put_in gave_ok ho hx hd he1 hk1 hb1 ?_ ?_ ?_ fun h' sb r => ?_
      · first
          | (split <;> first | exact q2 | exact SetTable.fits_plain_off q2)
          | exact q2
      · first
          | (split <;> exact q3)
          | exact q3
      · first
          | (split <;> exact hl1)
          | exact hl1
      · dsimp only
        exact wpAny_pure (hQ _ h' sb r)
    · refine wpAny_bind (wpAny_pure ?_)
      simp only [↓reduceIte]
      refine put_in gave_ok ho hx hd he1 hk1 hb1 q2 q3 hl1 fun h' sb r => ?_
      dsimp only
      exact wpAny_pure (hQ _ h' sb r)
end
end OwR
set_option Elab.async false
set_option linter.all false
set_option maxRecDepth 100000
set_option maxHeartbeats 4000000
namespace OwR
open PySem PySem.Spec PyProof.Rows L2
section
variable {P : Program} {w : World} {A : Around} {E : Value → Shared → Prop} {s : Shared} {h h' : Heap} {a : Addr} {l : List Tx}
/-- D.add(k) -/
theorem set_add {k : Tx} {tk : Tok} {Q : Value → Shared → Prop} (R : SetT w s.heap a l) (room : l.length + 1 < scanBound) (hQ : ∀ h', Heap.SameBut a s.heap h' → SetT w h' a (l ++ [k]) → Q .none { s with heap := h', toks := s.toks + 1 }) :
    wpAny (model P w) A (call (.builtin "set.add") [.ref a, .str (tS k) tk]) Q E s := by
  obtain ⟨o, es, ep, t, ho, ⟨hx, hd⟩, r⟩ := id R
  refine wpAny_call_entry F.slot_set_add ⟨o, ho, hx.1⟩ F.entry_set_add ?_ (F.args_set_add_2 _ _)
  unfold Builtin.«set.add» Builtin.Frozenset.oneOther
  simp only [List.isEmpty_nil, bind_assoc]
  unfold Builtin.Frozenset.addrOf setAdd
  refine wpAny_bind (wpAny_pure ?_)
  try dsimp only
  refine wpAny_bind (wpAny_pure ?_)
  try dsimp only
  refine wpAny_bind (wpAny_holding (wpAny_bind ((tK P w).pyHash (PySem.strKind_is P w (tS k) tk) ?_)))
  refine add_text (s := { s with toks := s.toks + 1 }) R room fun b h' sb r => ?_
  show wpAny _ _ (ret Value.none) _ _ _
  exact wpAny_pure ⟨_, rfl, hQ h' sb r⟩
theorem set_new {h : Heap} (w : World) : SetT w (h.push { cls := .type "set", dict := none, data := .set #[] 0 (.fresh 0 0 (!w.params.followText "set-order")) }) h.objs.size [] := by
  refine ⟨_, #[], 0, _, Heap.get?_push_size _ rfl, ⟨⟨rfl, rfl, rfl⟩, rfl⟩, (fun e he => by simp at he), ⟨List.nodup_nil, fun k => Iff.rfl⟩, ⟨by decide, by rfl⟩, List.Pairwise.nil, ?_⟩
  show _ ∨ (!w.params.followText "set-order") = true
  cases w.params.followText "set-order"
  · exact .inr rfl
  · exact .inl rfl
end
/-! ### the set as a tracked object -/
def SetTO (w : World) (a : Addr) (l : List Tx) : HO := .ext fun h => SetT w h a l
section
variable {X : Cx}
theorem setTO_ok {P : Program} {w : World} {H : Hp} {h : Heap} {a : Addr} {l : List Tx} (R : SetT w h a l) : ObjOk P w H h a (SetTO w a l) := by
  obtain ⟨o, _, _, _, ho, _⟩ := id R
  exact ⟨R, ⟨o, ho⟩, fun _ _ p k => SetT.moved p k⟩
theorem setTO_at {pins : List (Addr × Obj)} {σ : L2.St} {H : Hp} {s : Shared} {a : Addr} {l : List Tx} (I : Inv X pins σ H s) (ha : H a = some (SetTO X.w a l)) : SetT X.w s.heap a l := (I.hok a _ ha).1
theorem grow_ok {pins : List (Addr × Obj)} {σ : L2.St} {H : Hp} {s : Shared} {E : Value → Shared → Prop} {D : Addr} {l : List Tx} {k : Tx} {tk : Tok} {Q : Value → Shared → Prop} (I : Inv X pins σ H s) (hD : H D = some (SetTO X.w D l)) (room : l.length + 1 < scanBound)
    (q : ∀ s', Inv X pins σ (upd H D (SetTO X.w D (l ++ [k]))) s' → Q .none s') : wpAny (model X.prog X.w) X.A (call (.builtin "set.add") [.ref D, .str (tS k) tk]) Q E s :=
  set_add (setTO_at I hD) room fun h' sb new => by
    have he : ∃ u, h'.get? D = some u := by
      obtain ⟨o, _, _, _, ho, _⟩ := new
      exact ⟨o, ho⟩
    exact q _ (I.write (e := D) (t' := s.toks + 1) (by rw [hD]; trivial) (.inl rfl) (fun b u hb hu => (sb.2 b hb).trans hu) he (setTO_ok new))
/-- sorted(a set of texts) -/
def rSortSet (w : World) : List V → Hp → VK → Prop := fun vs H Q => ∃ (a : Addr) (l : List Tx), vs = [V.ref a] ∧ H a = some (SetTO w a l) ∧ ∀ (ks : List Tx) (p : Addr), ks.Nodup → (∀ k, k ∈ ks ↔ k ∈ l) → H p = none → Q (.ref p) (upd H p (.lst ((ks.mergeSort leT).map sV)))
theorem cr_sortSet {k : Nat} (hr : Room k X.A) (hcalm : X.calm = true) : CallR X (.builtin "sorted") (rSortSet X.w) := by
  intro pins s σ H vs us Q I r h
  obtain ⟨a, l, rfl, hS, q⟩ := h
  obtain ⟨u, rfl, rx⟩ := vals1 r
  cases rx
  obtain ⟨o, es, ep, t, ho, ⟨hx, hd⟩, he, ⟨hn, hm⟩, ⟨hb, hf⟩, hri, hl⟩ := setTO_at I hS
  refine Calls.call_function_entry kind_sorted plain_sorted entry_sorted (args_sorted1 _) ?_
  unfold Builtin.«sorted»
  refine wpAny_bind (m := checkCount "sorted" 1 1 _) (wpAny_pure ?_)
  refine wpAny_bind (collect_set (A := X.A.in1) (I.ok.hd hcalm) ⟨o, ho, hx.1, hd⟩ hf hb hri hl fun s1 us kk sz g1 o1 pm => ?_)
  have e : PySem.W.EachIs IsTx us (us.map txOf) := by
    have : ∀ us : List Value, (∀ v ∈ us, ∃ k, IsTx v k) → PySem.W.EachIs IsTx us (us.map txOf) := by
      intro us
      induction us with
      | nil => intro _; exact .nil
      | cons v vs ih =>
        intro hv
        obtain ⟨k, tk, ek⟩ := hv v (List.mem_cons_self ..)
        refine .cons ⟨tk, ?_⟩ (ih fun v hv' => hv v (List.mem_cons_of_mem _ hv'))
        rw [ek]
        show _ = Value.str (tS (tS k).cps.toList) tk
        rw [tS_list]
    refine this us fun v hv => ?_
    obtain ⟨en, em, q1⟩ := List.mem_map.mp (pm.mem_iff.mp hv)
    obtain ⟨k, tk, rfl⟩ := he en em
    exact ⟨k, tk, q1.symm⟩
  have pk : (us.map txOf).Perm (keysT es) := by
    have z := pm.map txOf
    rw [List.map_map] at z
    exact z
  have I1 : Inv X pins σ H s1 := I.call' (ch := []) o1 (Un.kept kk) (I.hok.kept kk) (by rw [g1]; exact I.bare) fun _ z => nomatch z
  have hz : (us.map txOf).length ≤ sizeLine := by
    rw [pk.length_eq, List.length_map, Array.length_toList]
    exact fits_of_scanBound hb
  have hu : X.A.in1.units + 1 < cLine := by
    have h1 := hr.units
    show X.A.units + 1 + 1 < cLine
    omega
  exact sort_rest (A := X.A.in1) I1 e hz hu fun p hp => q (us.map txOf) p (pk.nodup_iff.mpr hn) (fun k => pk.mem_iff.trans (hm k)) hp
end
/-! ### {elt for a in .. for b in ..}, elt a text -/
section
variable {elt t0 i0 t1 i1 : Expr} {scope : Scope} {pos : Pos}
abbrev sc2 (elt t0 i0 t1 i1 : Expr) (scope : Scope) (pos : Pos) : Expr := .SetComp elt [⟨t0, i0, [], 0⟩, ⟨t1, i1, [], 0⟩] scope pos
theorem sc2_turn0 (it acc : Value) (env : Env) : compTurn (sc2 elt t0 i0 t1 i1 scope pos) 0 it acc env = (do
    standAt i0.pos
    match ← pyNext it with
    | none => pure (.done .next)
    | some v =>
      letOwnedTupleGo t0 it v
      assign t0 env v
      let x ← eval i1 env
      standAt i1.pos
      let x ← foldedSetIterable i1 env x
      let _ ← runOwn (.compStart (sc2 elt t0 i0 t1 i1 scope pos) 1 (← holding [x] (pyIter x)) acc env) env
      again (.compLoop (sc2 elt t0 i0 t1 i1 scope pos) 0 it acc env)) := by rfl
theorem sc2_turn1 (it acc : Value) (env : Env) : compTurn (sc2 elt t0 i0 t1 i1 scope pos) 1 it acc env = (do
    standAt i1.pos
    match ← pyNext it with
    | none => pure (.done .next)
    | some v =>
      letOwnedTupleGo t1 it v
      assign t1 env v
      (do let v ← eval elt env; standAt elt.pos; let _ ← call (.builtin "set.add") [acc, v])
      again (.compLoop (sc2 elt t0 i0 t1 i1 scope pos) 1 it acc env)) := by rfl
variable {prog : Program} {w : World} {A : Around} {R : Result → Shared → Prop} {s : Shared} {it acc : Value} {env : Env}
abbrev nb (prog : Program) (w : World) (A : Around) (env : Env) (R : Result → Shared → Prop) : Value → Shared → Prop := notedBy (model prog w) A env fun e s' => R (.error e) s'
theorem sc2_loop0 (hs : ∀ x, foldedSetIterable i1 env x = pure x) (I : Nat → Shared → Prop)
    (turn : ∀ n s, I n s → wpAny (model prog w) A (pyNext it) (fun r s1 => match r with
      | none => R (.ok .next) s1
      | some v => wpAny (model prog w) A (letOwnedTupleGo t0 it v) (fun _ s2 => wpAny (model prog w) A (assign t0 env v) (fun _ s3 => wpAny (model prog w) A (eval i1 env) (fun x s4 => wpAny (model prog w) A (pyIter x) (fun it1 s5 =>
          codeAny (model prog w) A (.compStart (sc2 elt t0 i0 t1 i1 scope pos) 1 it1 acc env) (fun r s' => match r with
            | .ok _ => ∃ m, m < n ∧ I m s'
            | .error _ => False) s5) (nb prog w A env R) s4) (nb prog w A env R) s3) (nb prog w A env R) s2) (nb prog w A env R) s1) (nb prog w A env R) s)
    (n : Nat) (h : I n s) : codeAny (model prog w) A (.compLoop (sc2 elt t0 i0 t1 i1 scope pos) 0 it acc env) R s := by
  refine codeAny_loop rfl I (fun n s hI => ?_) n h
  show wpAny _ A ((compTurn (sc2 elt t0 i0 t1 i1 scope pos) 0 it acc env).onRaise (fun x => do noteFrame x env; theTreesLotGoes x)) _ _ s
  refine wpAny_noted ?_
  rw [sc2_turn0]
  refine wpAny_bind (wpAny_standAt (wpAny_bind (thn (turn n s hI) fun r s1 h1 => ?_)))
  cases r with
  | none => exact wpAny_pure h1
  | some v =>
    refine wpAny_bind (thn h1 fun _ s2 h2 => wpAny_bind (thn h2 fun _ s3 h3 => wpAny_bind (thn h3 fun x s4 h4 => ?_)))
    refine wpAny_bind (wpAny_standAt (wpAny_bind (wpAny_of_eq (hs x) (wpAny_bind (wpAny_holding (thn h4 fun it1 s5 h5 => ?_))))))
    refine wpAny_bind (wpAny_runOwn ?_)
    rw [Around.mark_none]
    refine codeAny_mono h5 fun r s' hr => ?_
    cases r with
    | ok f =>
      first
        | exact wpAny_pure ⟨rfl, hr⟩
        | exact wpAny_bind (wpAny_pure (wpAny_pure ⟨rfl, hr⟩))
    | error e => exact hr.elim
theorem sc2_loop1 (I : Nat → Shared → Prop)
    (turn : ∀ n s, I n s → wpAny (model prog w) A (pyNext it) (fun r s1 => match r with
      | none => R (.ok .next) s1
      | some v => wpAny (model prog w) A (letOwnedTupleGo t1 it v) (fun _ s2 => wpAny (model prog w) A (assign t1 env v) (fun _ s3 => wpAny (model prog w) A (eval elt env) (fun x s4 =>
          wpAny (model prog w) A (call (.builtin "set.add") [acc, x]) (fun _ s5 => ∃ m, m < n ∧ I m s5) (nb prog w A env R) s4) (nb prog w A env R) s3) (nb prog w A env R) s2) (nb prog w A env R) s1) (nb prog w A env R) s)
    (n : Nat) (h : I n s) : codeAny (model prog w) A (.compLoop (sc2 elt t0 i0 t1 i1 scope pos) 1 it acc env) R s := by
  refine codeAny_loop rfl I (fun n s hI => ?_) n h
  show wpAny _ A ((compTurn (sc2 elt t0 i0 t1 i1 scope pos) 1 it acc env).onRaise (fun x => do noteFrame x env; theTreesLotGoes x)) _ _ s
  refine wpAny_noted ?_
  rw [sc2_turn1]
  refine wpAny_bind (wpAny_standAt (wpAny_bind (thn (turn n s hI) fun r s1 h1 => ?_)))
  cases r with
  | none => exact wpAny_pure h1
  | some v =>
    refine wpAny_bind (thn h1 fun _ s2 h2 => wpAny_bind (thn h2 fun _ s3 h3 => ?_))
    exact wpAny_bind (wpAny_bind (thn h3 fun x s4 h4 => wpAny_bind (wpAny_standAt (wpAny_bind (thn h4 fun _ s5 h5 => wpAny_pure (wpAny_pure ⟨rfl, h5⟩))))))
theorem sc2_start (h0 : codeAny (model prog w) A (.compLoop (sc2 elt t0 i0 t1 i1 scope pos) 1 it acc env) R s)
    (h : wpAny (model prog w) A (pyIter it) (fun it' s' => codeAny (model prog w) A (.compLoop (sc2 elt t0 i0 t1 i1 scope pos) 1 it' acc env) R s') (nb prog w A env R) s) :
    codeAny (model prog w) A (.compStart (sc2 elt t0 i0 t1 i1 scope pos) 1 it acc env) R s := by
  refine codeAny_of_tree ?_
  show wpAny _ _ ((compStart (sc2 elt t0 i0 t1 i1 scope pos) 1 it acc env).onRaise (fun x => do noteFrame x env; standAt theWindowsPlace)) _ _ s
  refine wpAny_notedAt ?_
  unfold compStart
  show wpAny _ _ (ask >>= _) _ _ s
  refine wpAny_bind (wpAny_askSetting (wpAny_ite ?_))
  split
  · first
      | exact wpAny_bind (wpAny_pure (wpAny_pure (And.intro rfl h0)))
      | exact wpAny_pure (And.intro rfl h0)
  · first
      | exact wpAny_bind (wpAny_rule (wpAny_bind (wpAny_standAt (wpAny_bind (thn h fun it' s' h' => wpAny_pure (And.intro rfl h'))))))
      | (refine wpAny_bind (wpAny_rule ?_); show wpAny _ _ (standAt i1.pos >>= _) _ _ s; exact wpAny_bind (wpAny_standAt (wpAny_bind (thn h fun it' s' h' => wpAny_pure (And.intro rfl h')))))
end
end OwR
set_option Elab.async false
set_option linter.all false
set_option maxRecDepth 100000
set_option maxHeartbeats 4000000
namespace OwR
open PySem PySem.Spec PyProof.Rows L2
section
variable {X : Cx}
/-- {elt for t0 in i0 for t1 in i1}: as a list's with two clauses; the set at D holds the texts of a list -/
def tSc2 (w : World) (wi : TI) (g : TG) (wi1 : TI) (g1 : TG) (te : TE) (vs vs1 : List Nat) : TE := fun σ H Q => wi σ H fun J H1 => ∀ D, H1 D = none → ∃ W : Nat → Nat → Hp → Prop, (∃ m, W 0 m (upd H1 D (SetTO w D []))) ∧ ∀ i m H, W i m H →
  (J.stop i H ∧ Q (.ref D) H) ∨ (J.go i H ∧ ∃ N0 : Hp → Prop, (∀ H', N0 H' → ∃ m', m' < m ∧ W (i + 1) m' H') ∧ ∀ x H', J.yld i H x H' → g x (wipe σ vs) H' fun σ2 H2 => wipe σ2 vs = wipe σ vs ∧
    wi1 σ2 H2 fun J1 H3 => ∃ W1 : Nat → Nat → Hp → Prop, (∃ m, W1 0 m H3) ∧ ∀ j k H, W1 j k H →
      (J1.stop j H ∧ N0 H) ∨ (J1.go j H ∧ ∃ N1 : Hp → Prop, (∀ H', N1 H' → ∃ k', k' < k ∧ W1 (j + 1) k' H') ∧ ∀ x H', J1.yld j H x H' → g1 x (wipe σ2 vs1) H' fun σ3 H4 => wipe σ3 vs1 = wipe σ2 vs1 ∧
        te σ3 H4 fun y H5 => ∃ (l : List Tx) (z : Tx), y = sV z ∧ H5 D = some (SetTO w D l) ∧ l.length + 1 < scanBound ∧ N1 (upd H5 D (SetTO w D (l ++ [z])))))
theorem pe_sc2 {elt t0 i0 t1 i1 : Expr} {scope : Scope} {own : List (PySem.Str × Nat)} {vs1 : List Nat} {pos : Pos} {wi wi1 : TI} {g g1 : TG} {te : TE} (hc : X.calm = true) (hN : X.N.Nodup) (hi : PI X t0 i0 wi) (ok : BlkOk X.N X.env.scope scope own) (hv : ∀ i ∈ vs1, i ∈ own.map (·.2))
    (hg : ∀ (s : Shared) (H : Hp) (C : Addr) (cl : List (PySem.Str × Addr)) (fp : List Addr), PG (X.blk s H scope (compEnvC scope cl C X.env) fp) t0 g)
    (hi1 : ∀ (s : Shared) (H : Hp) (C : Addr) (cl : List (PySem.Str × Addr)) (fp : List Addr), PI (X.blk s H scope (compEnvC scope cl C X.env) fp) t1 i1 wi1)
    (hg1 : ∀ (s : Shared) (H : Hp) (C : Addr) (cl : List (PySem.Str × Addr)) (fp : List Addr), PG (X.blk s H scope (compEnvC scope cl C X.env) fp) t1 g1)
    (he : ∀ (s : Shared) (H : Hp) (C : Addr) (cl : List (PySem.Str × Addr)) (fp : List Addr), PE (X.blk s H scope (compEnvC scope cl C X.env) fp) elt te)
    (hs : ∀ x, foldedSetIterable i0 X.env x = pure x := by intro _; rfl) (hs1 : ∀ env x, foldedSetIterable i1 env x = pure x := by intro _ _; rfl) :
    PE X (sc2 elt t0 i0 t1 i1 scope pos) (tSc2 X.w wi g wi1 g1 te (own.map (·.2)) vs1) := by
  refine ⟨fun pins s σ H Q I h => ?_⟩
  rw [PpSet.eval_SetComp]
  have hfree : ∀ y ∈ scope.names, y.2 = .free → ∃ c, X.env.cells.lookup y.1 = some c := fun y hy e => (ok.free y hy e).elim (fun k => I.ok.has _ (.inl k)) fun k => I.ok.has _ (.inr k)
  refine wpAny_comprehension_free (use := none) rfl hs (closure_ok hfree) ok.kind (fun y hy e => by rw [ok.uniq y hy, e])
    (thn (hi.run pins s σ H _ I h) fun xv s1 hx => thn hx fun itv s2 h2 => ?_)
  obtain ⟨it, fp, tn, J, H2, e, I2, T, st2, f2, q⟩ := h2
  subst e
  refine PpSet.newSet_ok (newEnv_comp ?_)
  generalize hD : s2.heap.objs.size = D
  have hDn : H2 D = none := I2.hok.fresh (Nat.le_of_eq hD)
  obtain ⟨W, ⟨m0, w0⟩, turn⟩ := q D hDn
  generalize hs3 : ({ s2 with heap := s2.heap.push { cls := .type "set", dict := none, data := .set #[] 0 (.fresh 0 0 (!X.w.params.followText "set-order")) } } : Shared) = s3
  have h3 : s3.heap = s2.heap.push { cls := .type "set", dict := none, data := .set #[] 0 (.fresh 0 0 (!X.w.params.followText "set-order")) } := by rw [← hs3]
  generalize hH3 : upd H2 D (SetTO X.w D []) = H3 at w0
  have I3 : Inv X pins σ H3 s3 := by
    rw [← hs3, ← hH3]
    refine I2.laid (t' := s2.toks) (fun b o e => Heap.get?_push_of_some _ e) (Nat.le_of_eq hD) ?_
    rw [← hD]
    exact setTO_ok (set_new X.w)
  have lt2 : ∀ b ∈ fp, b < s2.heap.objs.size := fun b hb => by
    obtain ⟨o, e, _⟩ := T.obj _ _ st2 b hb
    exact Heap.lt_size e
  have f3 : ∀ b ∈ fp, FpOk X pins H3 b ∧ b < s3.heap.objs.size := fun b hb => by
    have hlt := lt2 b hb
    refine ⟨⟨?_, (f2 b hb).2⟩, by rw [h3, Heap.size_push]; exact Nat.lt_succ_of_lt hlt⟩
    rw [← hH3, upd_ne (by rw [← hD]; exact Nat.ne_of_lt hlt)]
    exact (f2 b hb).1
  have st3 : tn 0 s3.heap := T.keep _ _ _ st2 fun b _ o e => by rw [h3]; exact Heap.get?_push_of_some _ e
  have I4 := block_start I3 ok hN f3
  generalize hC : s3.heap.objs.size = C at I4 ⊢
  have pg := hg s3 H3 C (cellsFrom (C + 1) scope.names (cloFrom X.env.cells scope.names [])) fp
  have pe := he s3 H3 C (cellsFrom (C + 1) scope.names (cloFrom X.env.cells scope.names [])) fp
  have pi1 := hi1 s3 H3 C (cellsFrom (C + 1) scope.names (cloFrom X.env.cells scope.names [])) fp
  have pg1 := hg1 s3 H3 C (cellsFrom (C + 1) scope.names (cloFrom X.env.cells scope.names [])) fp
  show codeAny _ _ (.compStart (sc2 elt t0 i0 t1 i1 scope pos) 0 (.ref it) (.ref D) (compEnvC scope (cellsFrom (C + 1) scope.names (cloFrom X.env.cells scope.names [])) C X.env)) (compPost (model X.prog X.w) X.A X.xe none (EP X pins σ Q) (.ref D) C) { s3 with heap := pushCells (s3.heap.push { cls := .type "dict", data := .dict #[] }) scope.names }
  generalize hce : compEnvC scope (cellsFrom (C + 1) scope.names (cloFrom X.env.cells scope.names [])) C X.env = ce at I4 pg pe pi1 pg1 ⊢
  have cL : ce.locals = C := by subst hce; rfl
  generalize hs4 : ({ s3 with heap := pushCells (s3.heap.push { cls := .type "dict", data := .dict #[] }) scope.names } : Shared) = s4 at I4 ⊢
  have st4 : tn 0 s4.heap := T.keep _ _ _ st3 fun b _ o e => by rw [← hs4]; exact pushCells_keeps _ _ _ _ (Heap.get?_push_of_some _ e)
  have nfp : ∀ b ∈ fp, H3 b = none := fun b hb => (f3 b hb).1.1
  have stat : ∀ {σ' : L2.St} {H' : Hp} {s' : Shared}, Inv (X.blk s3 H3 scope ce fp) [] σ' H' s' → (∀ b ∈ fp, H' b = none) → ∀ b ∈ fp, FpOk (X.blk s3 H3 scope ce fp) [] H' b := fun {σ' H' s'} I' hn b hb =>
    ⟨hn b hb, (I'.ok.exf b hb).1, I'.ok.exfs b hb, .inl hb, fun x c e => (I'.ok.exf b hb).2 x c e, fun p hp => absurd (show p ∈ ([] : List (Addr × Obj)) ++ [] from hp) (by simp)⟩
  generalize hσ0 : wipe σ (own.map (·.2)) = σ0 at I4 turn
  have len0 : σ0.length = σ.length := by rw [← hσ0, wipe_length]
  have loop : codeAny (model X.prog X.w) X.A (.compLoop (sc2 elt t0 i0 t1 i1 scope pos) 0 (.ref it) (.ref D) ce) (compPost (model X.prog X.w) X.A X.xe none (EP X pins σ Q) (.ref D) C) s4 := by
    refine sc2_loop0 (hs1 ce) (fun n s' => ∃ i H', Inv (X.blk s3 H3 scope ce fp) [] σ0 H' s' ∧ tn i s'.heap ∧ (∀ b ∈ fp, H' b = none) ∧ W i n H') ?_ m0 ⟨0, H3, I4, st4, nfp, w0⟩
    rintro n s5 ⟨i, H5, I5, st5, n5, w5⟩
    rcases turn i n H5 w5 with ⟨stop, fin⟩ | ⟨go, N0, hN0, step⟩
    · refine thnF (T.done (X.blk s3 H3 scope ce fp) rfl rfl rfl hc i [] s5 _ H5 (fun _ _ => False) I5 (stat I5 n5) st5 stop) fun r s6 ⟨hr, I6⟩ => ?_
      subst hr
      have I7 : Inv X pins σ H5 s6 := I3.call' (ch := fp) I6.os I6.base I6.hok I6.bare fun b hb => ⟨(f3 b hb).1.2.2.2.1, (f3 b hb).1.2.1, (f3 b hb).1.2.2.2.2.1, (f3 b hb).1.2.2.2.2.2⟩
      have nC : H5 C = none := by
        have z : H5 ce.locals = none := I6.free
        rw [cL] at z
        exact z
      obtain ⟨m, hn, _⟩ := I6.loc
      have hn : s6.heap.Ns ce.locals m := hn
      rw [cL] at hn
      obtain ⟨f0, f1, _, f3', f4, f5⟩ := I3.fpOk (Nat.le_of_eq hC) nC
      exact ⟨m, hn, fun h'' sb => ⟨.ref D, H5, I7.turned (t' := s6.toks) (fun b o hb e => (sb.2 b hb).trans e) f0 f1 f3' f4 f5, rfl, fin⟩⟩
    · refine thnF (T.item (X.blk s3 H3 scope ce fp) rfl rfl rfl hc i [] s5 _ H5 (fun _ _ => False) I5 (stat I5 n5) st5 go) fun r s6 ⟨u, hr, h6⟩ => ?_
      subst hr
      refine thnF h6 fun _ s7 ⟨x, H7, I7, r7, y7, st7, n7⟩ => ?_
      have I7' := I7.pinned (stat I7 n7) (T.obj _ _ st7)
      refine thnF (pg.run _ s7 _ H7 x u _ I7' r7 (step x H7 y7)) fun _ s8 ⟨σ8, H8, I8, hw8, q8⟩ => ?_
      have len8 : σ8.length = σ0.length := by
        have z := congrArg List.length hw8
        rw [wipe_length] at z
        exact z
      have knows : ∀ (j : Nat) v, σ0[j]? = some (some v) → (wipe σ8 vs1)[j]? = some (some v) := fun j v e => by
        rw [← hw8] at e
        obtain ⟨e1, e2⟩ := wipe_some e
        rw [wipe_out fun z => e2 (hv j z)]
        exact e1
      have next : ∀ {s' : Shared} {H' : Hp}, Inv (X.blk s3 H3 scope ce fp) ([] ++ pinsAt fp s7.heap) (wipe σ8 vs1) H' s' → N0 H' → ∃ m, m < n ∧ ∃ i H', Inv (X.blk s3 H3 scope ce fp) [] σ0 H' s' ∧ tn i s'.heap ∧ (∀ b ∈ fp, H' b = none) ∧ W i m H' := fun {s' H'} I' nx => by
        obtain ⟨m', hm, w'⟩ := hN0 H' nx
        have stay : ∀ b ∈ fp, ∀ o, s7.heap.get? b = some o → s'.heap.get? b = some o ∧ H' b = none := fun b hb o e => by
          have z := I'.pin (b, o) (List.mem_append_right _ (List.mem_append_right _ (mem_pinsAt hb e)))
          exact ⟨z.1, z.2.1⟩
        refine ⟨m', hm, i + 1, H', (I'.unpinned (pins := [])).weak (by rw [wipe_length, len8]) knows, T.keep _ _ _ st7 fun b hb o e => (stay b hb o e).1, fun b hb => ?_, w'⟩
        obtain ⟨o, e, _⟩ := T.obj _ _ st7 b hb
        exact (stay b hb o e).2
      refine thnF (pi1.run _ s8 σ8 H8 _ I8 q8) fun xv s10 hx => thnF hx fun itv s11 h11 => ?_
      obtain ⟨it1, fp1, tn1, J1, H11, e1, I11, T1, st11, f11, W1, ⟨m1, w1⟩, turn1⟩ := h11
      subst e1
      have stat1 : ∀ {H' : Hp}, (∀ b ∈ fp1, H' b = none) → ∀ b ∈ fp1, FpOk (X.blk s3 H3 scope ce fp) ([] ++ pinsAt fp s7.heap) H' b := fun hn b hb => ⟨hn b hb, (f11 b hb).2⟩
      have loop1 : codeAny (model X.prog X.w) X.A (.compLoop (sc2 elt t0 i0 t1 i1 scope pos) 1 (.ref it1) (.ref D) ce)
          (fun r s' => match r with
            | .ok _ => ∃ m, m < n ∧ ∃ i H', Inv (X.blk s3 H3 scope ce fp) [] σ0 H' s' ∧ tn i s'.heap ∧ (∀ b ∈ fp, H' b = none) ∧ W i m H'
            | .error _ => False) s11 := by
        refine sc2_loop1 (fun k s' => ∃ j H', Inv (X.blk s3 H3 scope ce fp) ([] ++ pinsAt fp s7.heap) (wipe σ8 vs1) H' s' ∧ tn1 j s'.heap ∧ (∀ b ∈ fp1, H' b = none) ∧ W1 j k H') ?_ m1 ⟨0, H11, I11.weak (wipe_length _ _) (fun j v e => (wipe_some e).1), st11, fun b hb => (f11 b hb).1, w1⟩
        rintro k s12 ⟨j, H12, I12, st12, n12, w12⟩
        rcases turn1 j k H12 w12 with ⟨stop1, nx1⟩ | ⟨go1, N1, hN1, step1⟩
        · refine thnF (T1.done (X.blk s3 H3 scope ce fp) rfl rfl rfl hc j _ s12 (wipe σ8 vs1) H12 (fun _ _ => False) I12 (stat1 n12) st12 stop1) fun r s13 ⟨hr, I13⟩ => ?_
          subst hr
          exact next I13 nx1
        · refine thnF (T1.item (X.blk s3 H3 scope ce fp) rfl rfl rfl hc j _ s12 (wipe σ8 vs1) H12 (fun _ _ => False) I12 (stat1 n12) st12 go1) fun r s13 ⟨u1, hr, h13⟩ => ?_
          subst hr
          refine thnF h13 fun _ s14 ⟨x1, H14, I14, r14, y14, st14, n14⟩ => ?_
          have I14' := I14.pinned (stat1 n14) (T1.obj _ _ st14)
          refine thnF (pg1.run _ s14 (wipe σ8 vs1) H14 x1 u1 _ I14' r14 (step1 x1 H14 y14)) fun _ s15 ⟨σ15, H15, I15, hw15, q15⟩ => ?_
          refine thnF (pe.run _ s15 σ15 H15 _ I15 q15) fun z s17 ⟨yv, H17, I17, r17, l, tx, ey, hD17, room, nx⟩ => ?_
          subst ey
          obtain ⟨tk, rfl⟩ := r17
          refine grow_ok (X := X.blk s3 H3 scope ce fp) I17 hD17 room fun s18 I18 => ?_
          obtain ⟨m', hm, w'⟩ := hN1 _ nx
          have stay : ∀ b ∈ fp1, ∀ o, s14.heap.get? b = some o → s18.heap.get? b = some o ∧ (upd H17 D (SetTO X.w D (l ++ [tx]))) b = none := fun b hb o e => by
            have z := I18.pin (b, o) (List.mem_append_right _ (List.mem_append_right _ (mem_pinsAt hb e)))
            exact ⟨z.1, z.2.1⟩
          refine ⟨m', hm, j + 1, _, I18.unpinned.weak (by rw [← hw15, wipe_length]) (fun j v e => by rw [← hw15] at e; exact (wipe_some e).1), T1.keep _ _ _ st14 fun b hb o e => (stay b hb o e).1, fun b hb => ?_, w'⟩
          obtain ⟨o, e, _⟩ := T1.obj _ _ st14 b hb
          exact (stay b hb o e).2
      exact sc2_start loop1 (T1.self X.A 0 _ _ _ st11 loop1)
  exact PpSet.codeAny_compStart_set loop (T.self X.A 0 _ _ _ st4 loop)
end
end OwR
set_option Elab.async false
set_option linter.all false
set_option maxRecDepth 100000
set_option maxHeartbeats 4000000
namespace OwR
open PySem PySem.Spec PyProof.Rows L2
/-! ### defs that are only called where no repr is running -/
structure FnG (P : Program) (w : World) (K : PySem.W.Frag) (mg : PySem.Str → Option Value) (base : Heap) (k : Nat) (f : Addr) (fd : FuncData) (ps : List PySem.Str) (sp : Sp) : Prop where
  len : ∀ vs H Q E, sp vs H Q E → vs.length = ps.length
  run : ∀ (A : Around) (outer : List Env) (s : Shared) (H : Hp) (args : Args) (us : List Value) (vs : List V) (Q : VK), Room k A → A.guards = some [] → Env0 P w K mg base A outer s H → BindsTo s fd args (ps.zip us) → Vals vs us → sp vs H Q E0 →
    codeAny (model P w) A (.call (.ref f) args) (CR CX0 outer P w H s Q E0) s
section
variable {P : Program} {w : World} {K : PySem.W.Frag} {mg : PySem.Str → Option Value} {base : Heap}
theorem FnG.weak {k : Nat} {f : Addr} {fd : FuncData} {ps : List PySem.Str} {sp : Sp} (F : FnOk P w K mg base CX0 k f fd ps sp) : FnG P w K mg base k f fd ps sp := ⟨F.len, fun A outer s H args us vs Q hr _ e0 hb r h => F.run A outer s H args us vs Q E0 hr e0 hb r h⟩
theorem fnG_of {k : Nat} {x qual : PySem.Str} {params : Arguments} {body : List Stmt} {scope : Scope} {f : Addr} {fd : FuncData} {N ps : List PySem.Str} {sp : Sp} (F : FunD K x qual params body scope [] [] f fd) (S : FnScope N ps scope)
    (len : ∀ vs H Q E, sp vs H Q E → vs.length = ps.length)
    (hbody : ∀ (cdv : Value) (A : Around) (outer : List Env) (s : Shared) (H : Hp) (vs : List V) (Q : VK), Room k (A.deeper (envOfC qual scope s.heap.objs.size f cdv)) → A.guards = some [] → sp vs H Q E0 →
      ∃ t, PSs (cxOf CX0 P w K mg base N qual scope f cdv A outer s H E0).nox body t ∧ t { nx := fun _ H' => Q .non H', rt := Q } (start N vs) H) : FnG P w K mg base (k + 1) f fd ps sp := by
  obtain ⟨oc, od, dV, kV, doc, pm, an, cdv, ct, osl, rfl, lk, hcd, _, _⟩ := F.ex
  refine ⟨len, fun A outer s H args us vs Q hr hgd e0 hb r hsp => ?_⟩
  have hl := len _ _ _ _ hsp
  have up : ∀ b o, base.get? b = some o → s.heap.get? b = some o := fun b o e => (e0.bs b o e).1
  have kinds : ∀ y ∈ ps.zip us, scope.names.lookup y.1 = some .local ∨ (scope.names.lookup y.1 = some .cell ∧ ((cellsFrom (s.heap.objs.size + 1) scope.names []).lookup y.1).isSome = true) := fun ⟨n, v⟩ hy =>
    (S.par n (List.of_mem_zip hy).1).elim .inl fun q => .inr ⟨q, PySem.W.cellsFrom_some _ _ _ (.inl q)⟩
  refine codeAny_call_function hr.depth (e0.mod.kin.keeps up _ _ lk) rfl S.co S.gen rfl (PySem.W.codeRec_of (e0.mod.kin.keeps up) hcd) (hb _ _ _ _ ?_)
  refine wpAny_newFunctionEnv_cells S.kind kinds fun env he s1 x => ?_
  subst he
  refine ⟨(e0.mod.nolimit.keeps up).keeps x.toInCall.keep, codeAny_func ?_⟩
  obtain ⟨t, ht, hq⟩ := hbody cdv A outer s H vs Q (hr.deeper _) hgd hsp
  have I := inv_start (CX := CX0) (E := E0) S hr.hd e0 hl r x
  refine wpAny_mono (ht.nox.run [] s1 (start N vs) H _ I hq) (fun fl s' hs => ?_) fun e s' hs => hs
  cases fl with
  | ret u =>
    obtain ⟨v, σ', H', J, rv, q⟩ := hs
    exact ⟨v, H', J.os, J.bare, J.base, J.hok, rv, q⟩
  | next =>
    obtain ⟨σ', H', J, q⟩ := hs
    exact ⟨V.non, H', J.os, J.bare, J.base, J.hok, rfl, q⟩
  | brk =>
    obtain ⟨_, _, _, q⟩ := hs
    exact q.elim
  | cont =>
    obtain ⟨_, _, _, q⟩ := hs
    exact q.elim
end
section
variable {X : Cx} {k : Nat} {f : Addr} {fd : FuncData} {ps : List PySem.Str} {sp : Sp} {x : PySem.Str} {p pos : Pos} {e : Expr} {es : List Expr} {t : TA}
theorem pe_callG (F : FnG X.prog X.w X.K X.mg X.base k f fd ps sp) (hr : Room k X.A) (hgd : X.A.guards = some []) (hg : Gl X x) (hm : X.mg x = some (.ref f)) (hk : PySem.W.keepIn X.K (.ref f) = true) (hb : Binds X.K fd ps []) (ha : PA X (e :: es) t)
    (hdb : (x == ("__debug__" : PySem.Str)) = false := by decide) (he : starEach (e :: es) X.env = (false, eval e X.env) :: starEach es X.env := by rfl) (hpl : (backTo pos (starEach es X.env)).any (·.1) = false := by rfl) :
    PE X (.Call (.Name x p) (e :: es) [] pos) (tCall sp [] E0 t) := by
  refine ⟨fun pins s σ H Q I h => ?_⟩
  refine wpAny_Call_Name_kw (ld_glob I hg hm ?_ hdb)
  refine PySem.W.callWith_K (h₀ := X.base) I.ok.mod.kin hk (thn (ha.run pos pins s σ H _ I h) fun us s1 ⟨vs, H1, I1, r, q⟩ => ⟨I1.kIn, ?_⟩) he hpl
  have q' : sp vs H1 Q E0 := by
    have z : sp (vs ++ []) H1 Q E0 := q
    rw [List.append_nil] at z
    exact z
  have hl : (us ++ []).length = ps.length := by
    rw [List.append_nil, ← r.length]
    exact F.len _ _ _ _ q'
  have bnd := hb s1 us I1.kIn hl
  rw [List.append_nil] at bnd
  refine wpAny_call (codeAny_mono (F.run X.A X.stack s1 H1 ⟨us, []⟩ us vs Q hr hgd I1.env0 bnd r q') fun r s' hq => ?_)
  cases r with
  | error e => exact False.elim hq
  | ok fl =>
    cases fl with
    | ret u => exact I1.after hq
    | next => exact False.elim hq
    | brk => exact False.elim hq
    | cont => exact False.elim hq
/-- repr of a truth value, of lists and tuples of plain things -/
theorem call_reprD (hr : Room k X.A) (hgd : X.A.guards = some []) : CallR X (.builtin "repr") (fun xs H Q => ∃ (y : V) (d : PyData), xs = [y] ∧ Dp X.K H y d ∧ ((∃ b, y = .bl b) ∨ ∃ a, y = .ref a) ∧ d.showable = true ∧ d.hasDict = false ∧ d.depth ≤ 32 ∧ d.shown.length ≤ sizeLine ∧ Q (.str d.shown) H) := by
  intro pins s σ H xs us Q I r h
  obtain ⟨y, d, rfl, hd, ht, hs, hn, hz, hl, q⟩ := h
  obtain ⟨u, rfl, ry⟩ := vals1 r
  rcases ht with ⟨b, rfl⟩ | ⟨a, rfl⟩
  · cases hd
    cases ry
    exact PySem.P.repr_of_bool ⟨.str _, H, I.tok _, ⟨_, rfl⟩, q⟩
  · obtain ⟨as, rd⟩ := Dp.reads I d (.ref a) u hd ry
    cases ry
    have hu := hr.units
    refine repr_of_reads' rd hs (fun z => ?_) hgd (by omega) (fun _ _ e => e) (fun h' u tk kk => ⟨.str _, H, I.kept kk, ⟨_, rfl⟩, q⟩) hl
    rw [hn] at z
    cases z
end
section
variable {P : Program} {w : World} {K : PySem.W.Frag} {mg mb : PySem.Str → Option Value}
/-- the law's call from the heap behind the top -/
theorem law_goG {k : Nat} {fa a : Addr} {fd : FuncData} {x : PySem.Str} {sp : Sp} {s : Shared} {vs : List Value} {ns : List Int} (KX : K.In s.heap) (hns : s.heap.Ns mainGlobals mg) (hb : s.heap.Ns builtinsNs mb) (hbb : ∀ x : PySem.Str, x ≠ "__name__" → mb x = bootBuiltins x) (hlim : s.heap.NoLimit)
    (hg : s.gens = #[]) (ha : s.heap.get? a = some { cls := .type "list", data := .seq vs.toArray }) (hi : IntsAre vs ns) (hl : ns.length ≤ sizeLine) (hr : Room k callerA) (F : ∀ base : Heap, K.In base → base.Ns mainGlobals mg → FnG P w K mg base k fa fd [x] sp)
    (hbind : ∀ (s : Shared) (u : Value), BindsTo s fd ⟨[u], []⟩ [(x, u)]) (hsp : ∀ H : Hp, Only H → SqL K H a (ns.map V.int) → sp [.ref a] H (fun v _ => v = .bl true) E0) :
    codeAny (model P w) callerA (.call (.ref fa) ⟨[.ref a], []⟩) (fun r s' => r = .ok (.ret (.bool true)) ∧ OldK s.heap s'.heap ∧ s'.os = s.os ∧ AllBare s'.gens) s := by
  have rv := vals_ints hi
  have zs : vs.length ≤ sizeLine := by
    rw [hi.length]
    exact hl
  have inner : ∀ H : Hp, Only H → SqL K H a (ns.map V.int) → HOk P w H s.heap → (∀ b o, H b = some o → b = a ∧ K.lookup a = none) →
      codeAny (model P w) callerA (.call (.ref fa) ⟨[.ref a], []⟩) (fun r s' => r = .ok (.ret (.bool true)) ∧ OldK s.heap s'.heap ∧ s'.os = s.os ∧ AllBare s'.gens) s := by
    intro H hO hS hok hA
    have dictFree : ∀ {b : Addr} {o : Obj} {es : Array DictEntry} {ep : Nat}, s.heap.get? b = some o → o.data = .dict es ep → H b = none := fun {b o es ep} e d => by
      cases q : H b with
      | none => rfl
      | some u =>
        obtain ⟨rfl, _⟩ := hA b u q
        rw [ha] at e
        cases e
        cases d
    have up : ∀ {b : Addr} {m : PySem.Str → Option Value}, s.heap.Ns b m → (hidT s.heap H).Ns b m := fun {b m} ⟨o, es, ep, e, d, r⟩ => ⟨o, es, ep, hidT_get e (dictFree e d), d, r⟩
    have inK : K.In (hidT s.heap H) := fun b o e => hidT_get (KX b o e) (by
      cases q : H b with
      | none => rfl
      | some u =>
        obtain ⟨rfl, z⟩ := hA b u q
        rw [z] at e
        cases e)
    have e0 : Env0 P w K mg (hidT s.heap H) callerA [] s H := by
      obtain ⟨mc, h1, h2⟩ := hlim
      exact ⟨rfl, ⟨inK, up hns, ⟨mb, up hb, hbb⟩, ⟨mc, up h1, h2⟩⟩, fun b o e => of_hidT e, Nat.le_of_eq (hidT_size _ _), trivial, fun b hb => absurd (show b ∈ ([] : List Addr) from hb) (by simp), hok, .of_eq hg⟩
    refine codeAny_mono ((F _ inK (up hns)).run callerA [] s H ⟨[.ref a], []⟩ [.ref a] [.ref a] _ hr rfl e0 (hbind s (.ref a)) (.cons rfl .nil) (hsp H hO hS)) fun r s' h => ?_
    cases r with
    | error e => exact False.elim h
    | ok fl =>
      cases fl with
      | next => exact False.elim h
      | brk => exact False.elim h
      | cont => exact False.elim h
      | ret u =>
        obtain ⟨v, H', os, bare, un, hok', r', q⟩ := h
        have q' : v = .bl true := q
        subst q'
        cases (show u = Value.bool true from r')
        refine ⟨rfl, OldK.of_keep fun b o e => ?_, os, bare⟩
        cases q : H b with
        | none => exact un.keep b o e q (by intro z; exact absurd (show b ∈ ([] : List Addr) from z) (by simp)) (by simp)
        | some u =>
          rcases hO b with z | ⟨ob, xs, z⟩
          · rw [q] at z
            cases z
          · obtain ⟨e1, _⟩ := hok b _ z
            obtain ⟨e2, _⟩ := hok' b _ (un.frzs b ob _ z)
            rw [e] at e1
            cases e1
            exact e2
  cases hk : K.lookup a with
  | some o =>
    have e := KX a o hk
    rw [ha] at e
    cases e
    exact inner (fun _ => none) (fun _ => .inl rfl) (.inr ⟨_, vs.toArray, _, hk, rfl, rfl, rfl, by rw [List.size_toArray]; exact zs, by simpa using rv⟩) (fun b u z => nomatch (show (none : Option HO) = some u from z)) fun b u z => nomatch (show (none : Option HO) = some u from z)
  | none =>
    refine inner (upd (fun _ => none) a (.frz { cls := .type "list", data := .seq vs.toArray } (.lst (ns.map V.int)))) (fun b => ?_) (.inl (.inr ⟨_, upd_same⟩)) (fun b u z => ?_) fun b u z => ?_
    · by_cases hb : b = a
      · subst hb
        exact .inr ⟨_, _, upd_same⟩
      · exact .inl (by rw [upd_ne hb])
    · by_cases hb : b = a
      · subst hb
        rw [upd_same] at z
        cases z
        exact ⟨ha, by rw [List.length_map]; exact hl, vs, _, rv, ha⟩
      · rw [upd_ne hb] at z
        cases z
    · by_cases hb : b = a
      · exact ⟨hb, hk⟩
      · rw [upd_ne hb] at z
        cases z
theorem walk_ofG {l : PySem.W.OpenLaw} {n k : Nat} {q : Program} {loose : List PySem.Str} {XP : (PySem.Str → Option Value) → Heap → Prop} {YP : World → Heap → Prop} {d : DefRec} {x : PySem.Str} (hn : l.most = some n) (hn2 : n ≤ sizeLine) (hdf : d.params.defaults = []) (hr : Room k callerA)
    (F : ∀ (w : World) (mg : PySem.Str → Option Value) (fa : Addr) (h : Heap), YP w h → h.Ns mainGlobals mg → mg d.name = some (.ref fa) →
      ∃ (K : PySem.W.Frag) (fd : FuncData) (sp : Sp), K.In h ∧ (∀ (s : Shared) (u : Value), BindsTo s fd ⟨[u], []⟩ [(x, u)]) ∧
        (∀ (H : Hp) (a : Addr) (ns : List Int), ns.length ≤ n → Only H → SqL K H a (ns.map V.int) → sp [.ref a] H (fun v _ => v = .bl true) E0) ∧
        ∀ base : Heap, K.In base → base.Ns mainGlobals mg → FnG l.prog w K mg base k fa fd [x] sp) :
    PySem.W.WalkO q loose XP YP l.row.toRowW d [] (fun f vs => PySem.call f vs) := by
  refine Att.attach_call hn hdf fun w s₀ s₁ mg mb fa o pm cd doc a vs ns G Y ho hd hcd hmg hobj hints hlen hg => ?_
  obtain ⟨K, fd, sp, KX, hb, hsp, hF⟩ := F w mg fa _ Y G.T.g hmg
  exact law_goG KX G.T.g G.T.b G.T.builtins G.T.nolimit hg hobj hints (Nat.le_trans hlen hn2) hr hF hb fun H hO hS => hsp H a ns hlen hO hS
end
end OwR
set_option Elab.async false
set_option linter.all false
set_option maxRecDepth 100000
set_option maxHeartbeats 4000000
namespace OwR
open PySem PySem.Spec PyProof.Rows L2
/-! ### slices in plain numbers -/
theorem cut_raw (l : Tx) (lo hi : Option Int) : cutS (tS l) lo hi = tS ((l.drop (HT.sIx l.length 0 lo)).take (HT.sIx l.length l.length hi - HT.sIx l.length 0 lo)) := by
  unfold cutS
  rw [tS_list, tS_len]
  rfl
theorem cut_to (l : Tx) (n : Nat) : cutS (tS l) none (some (n : Int)) = tS (l.take n) := by
  rw [cut_raw, HT.sIx_none, HT.sIx_nat, List.drop_zero, Nat.sub_zero, ← List.take_take, List.take_length]
theorem cut_from (l : Tx) (n : Nat) : cutS (tS l) (some (n : Int)) none = tS (l.drop n) := by
  rw [cut_raw, HT.sIx_none, HT.sIx_nat]
  by_cases h : n ≤ l.length
  · rw [Nat.min_eq_left h, List.take_of_length_le (by rw [List.length_drop]; exact Nat.le_refl _)]
  · rw [Nat.min_eq_right (by omega), List.drop_of_length_le (Nat.le_refl _), List.drop_of_length_le (by omega), List.take_nil]
theorem cut_mid (l : Tx) (n m : Nat) : cutS (tS l) (some (n : Int)) (some (m : Int)) = tS ((l.drop n).take (m - n)) := by
  rw [cut_raw, HT.sIx_nat, HT.sIx_nat]
  by_cases h : n ≤ l.length
  · rw [Nat.min_eq_left h]
    by_cases h2 : m ≤ l.length
    · rw [Nat.min_eq_left h2]
    · rw [Nat.min_eq_right (by omega), List.take_of_length_le (by rw [List.length_drop]; exact Nat.le_refl _), List.take_of_length_le (by rw [List.length_drop]; omega)]
  · have e1 : min n l.length = l.length := Nat.min_eq_right (by omega)
    rw [e1, List.drop_of_length_le (Nat.le_refl _), List.drop_of_length_le (by omega), List.take_nil, List.take_nil]
theorem cut_last (l : Tx) : cutS (tS l) none (some (-1)) = tS l.dropLast := by
  rw [cut_raw, HT.sIx_none, List.drop_zero, Nat.sub_zero]
  have e : HT.sIx l.length l.length (some (-1)) = l.length - 1 := by
    show (if (-1 : Int) < 0 then ((-1 : Int) + (l.length : Int)).toNat else min ((-1 : Int).toNat) l.length) = _
    rw [if_pos (by decide)]
    omega
  rw [e, ← List.dropLast_eq_take]
theorem cutV_to (xs : List V) (n : Nat) : cutV xs none (some (n : Int)) = xs.take n := by
  unfold cutV
  rw [HT.sIx_none, HT.sIx_nat, List.drop_zero, Nat.sub_zero, ← List.take_take, List.take_length]
theorem cutV_from (xs : List V) (n : Nat) : cutV xs (some (n : Int)) none = xs.drop n := by
  unfold cutV
  rw [HT.sIx_none, HT.sIx_nat]
  by_cases h : n ≤ xs.length
  · rw [Nat.min_eq_left h, List.take_of_length_le (by rw [List.length_drop]; exact Nat.le_refl _)]
  · rw [Nat.min_eq_right (by omega), List.drop_of_length_le (Nat.le_refl _), List.drop_of_length_le (by omega), List.take_nil]
/-! ### startswith, in -/
theorem starts_eq (a b : Tx) : Txt.startswith (tS a) (tS b) = b.isPrefixOf a := by
  unfold Txt.startswith
  rw [PySem.StrLaws.subAt_eq, tS_list, tS_list, tS_len, tS_len, List.drop_zero]
  rw [Bool.eq_iff_iff, Bool.and_eq_true, beq_iff_eq, decide_eq_true_eq, List.isPrefixOf_iff_prefix, List.prefix_iff_eq_take]
  constructor
  · exact fun h => h.2.symm
  · intro h
    refine ⟨?_, h.symm⟩
    have := congrArg List.length h
    rw [List.length_take] at this
    omega
theorem in_of_infix {a b : Tx} (h : b <:+: a) : (!(Builtin.Str.occurrences (tS a) (tS b) 0 (tS a).length 1).isEmpty) = true := by
  obtain ⟨p, q, e⟩ := h
  have hat : PySem.StrLaws.At (tS a) (tS b) (tS a).length p.length := by
    refine ⟨?_, ?_⟩
    · rw [tS_len, tS_len, ← e]
      simp only [List.length_append]
      omega
    · rw [PySem.StrLaws.subAt_eq, tS_list, tS_list, tS_len, beq_iff_eq, ← e, List.append_assoc, List.drop_left, List.take_left]
  rcases PySem.StrLaws.occ_head (tS a) (tS b) 1 (Nat.le_refl _) with ⟨_, hn⟩ | ⟨i, r, e2, _⟩
  · exact absurd hat (hn _)
  · rw [e2]
    rfl
/-! ### a text many times, texts joined -/
theorem mul_eq (l : Tx) (n : Nat) : Txt.mul (tS l) (n : Int) = tS (List.replicate n l).flatten := by
  unfold Txt.mul
  by_cases h0 : (n : Int) < 1
  · rw [if_pos h0]
    have e : n = 0 := by omega
    subst e
    rfl
  · rw [if_neg h0]
    by_cases h1 : ((n : Int) == 1 || (tS l).length == 0) = true
    · rw [if_pos h1]
      rw [Bool.or_eq_true, beq_iff_eq, beq_iff_eq] at h1
      rcases h1 with h1 | h1
      · have e : n = 1 := by omega
        subst e
        simp
      · rw [tS_len] at h1
        obtain rfl := List.eq_nil_of_length_eq_zero h1
        simp
    · rw [if_neg h1]
      have fold : ∀ (k : Nat) (acc : Array Nat), ((List.replicate k (tS l).cps).foldl (· ++ ·) acc).toList = acc.toList ++ (List.replicate k l).flatten := by
        intro k
        induction k with
        | zero => intro acc; simp
        | succ k ih =>
          intro acc
          rw [List.replicate_succ, List.foldl_cons, ih, List.replicate_succ, List.flatten_cons, Array.toList_append, tS_list, List.append_assoc]
      have e := fold n #[]
      rw [← tS_of (⟨(List.replicate (n : Int).toNat (tS l).cps).foldl (· ++ ·) #[]⟩ : Str)]
      refine congrArg tS ?_
      show ((List.replicate (n : Int).toNat (tS l).cps).foldl (· ++ ·) #[]).toList = _
      rw [Int.toNat_natCast, e]
      rfl
theorem join_eq0 (ls : List Tx) : Txt.join (tS []) (ls.map tS) = tS ls.flatten := by
  have h : ∀ ls : List Tx, TL.tl (PySem.Str.join (tS []) (ls.map tS)) = ls.flatten := by
    intro ls
    have e := TL.tl_join (tS []) (ls.map tS)
    have et : ∀ l : Tx, TL.tl (tS l) = l := tS_list
    rw [e, et, List.map_map]
    have em : ls.map (TL.tl ∘ tS) = ls := by
      rw [show (TL.tl ∘ tS) = id from funext et, List.map_id]
    rw [em]
    have fl : ∀ ls : List Tx, TL.joinL [] ls = ls.flatten := by
      intro ls
      induction ls with
      | nil => rfl
      | cons p r ih =>
        cases r with
        | nil => simp [TL.joinL]
        | cons q r =>
          show p ++ ([] ++ TL.joinL [] (q :: r)) = _
          rw [ih, List.nil_append]
          rfl
    exact fl ls
  rw [TL.join_eq]
  have z := h ls
  rw [← tS_of (PySem.Str.join (tS []) (ls.map tS))]
  exact congrArg tS z
section
variable {X : Cx}
def rMulS : R2 := fun x y H Q => ∃ (l : Tx) (n : Nat), x = .str (tS l) ∧ y = .int (n : Int) ∧ l.length ≤ 100000 ∧ n ≤ 1000 ∧ l.length * n ≤ sizeLine ∧ Q (.str (tS (List.replicate n l).flatten)) H
theorem op_mul_str : OpR X (binaryOp .Mult) rMulS := by
  intro pins s σ H x y v u Q I rx ry h
  obtain ⟨l, n, rfl, rfl, hl, hn, hz, q⟩ := h
  obtain ⟨t, rfl⟩ := rx
  obtain ⟨t', rfl⟩ := ry
  refine PySem.SB.mul ⟨?_, fun h1 h2 h3 => ?_, fun h1 h2 => ?_⟩ fun t'' k => ⟨.str _, H, I.tok k, ⟨t'', by rw [mul_eq]⟩, q⟩
  · rw [Bool.or_eq_false_iff, decide_eq_false_iff_not, decide_eq_false_iff_not]
    omega
  · rw [tS_len] at h3
    have hp : (0 : Int) < n := by omega
    have h4 : (2 ^ 63 - 1) / (n : Int) < (l.length : Int) := h3
    rw [Int.ediv_lt_iff_lt_mul hp] at h4
    have h5 : ((l.length * n : Nat) : Int) = (l.length : Int) * (n : Int) := by simp
    rw [← h5] at h4
    have h6 : sizeLine < 2 ^ 62 := by decide
    omega
  · rw [tS_len, Int.toNat_natCast]
    unfold PySem.Builtin.Str.tooLong
    simpa using hz
/-- xs[i], for a store that reads first -/
theorem get_list : PGet X (rIxL X.K) := by
  intro pins s σ H o i ov iv Q I ro ri h
  obtain ⟨p, xs, j, z, rfl, rfl, hq, he, q⟩ := h
  cases ro
  obtain ⟨t, rfl⟩ := ri
  obtain ⟨its, r, pl, hz⟩ := I.list hq
  obtain ⟨k, h1, h2, h3, h4, h5⟩ := atI_get he
  obtain ⟨u, eu, ru⟩ := r.get h2
  have hl := r.length
  have hn := line63
  have fin : EP X pins σ Q u s := ⟨z, H, I, ru, q⟩
  by_cases h0 : 0 ≤ j
  · have hj : j.toNat = k := by
      rw [seqIndex_of h0 h5] at h1
      exact Option.some.inj h1
    exact wpAny_getItem_list pl.isList h0 (by omega) (by rw [hj]; simpa using eu) fin
  · have hj : (j + (its.toArray.size : Int)).toNat = k := by
      rw [seqIndex_neg (by omega) h4] at h1
      rw [List.size_toArray, ← hl]
      exact Option.some.inj h1
    exact wpAny_getItem_list_neg pl.isList (by omega) (by rw [List.size_toArray] <;> omega) (by omega) (by rw [hj]; simpa using eu) fin
end
end OwR
set_option Elab.async false
set_option linter.all false
set_option maxRecDepth 100000
set_option maxHeartbeats 4000000
namespace Ow
open PySem PySem.Spec PyProof.Rows L2 OwR
/-! ### the text by places -/
def top (i : Nat) : Stmt := PySem.Challenge.pw_ownlog_k84_whole_texts_that_end.main.body.getD i (.Pass ⟨0, 0, 0, 0⟩)
abbrev sIsInteger : Stmt := top 2
abbrev sIsBetween : Stmt := top 3
abbrev sIsStory : Stmt := top 4
abbrev sMade : Stmt := top 6
abbrev sBaseStories : Stmt := top 8
abbrev sFinalRow : Stmt := top 9
abbrev sPartsOf : Stmt := top 10
abbrev sLongerOf : Stmt := top 11
abbrev sBeginnings : Stmt := top 12
abbrev sBeginningCalls : Stmt := top 13
abbrev sMirrored : Stmt := top 14
abbrev sBegins : Stmt := top 15
abbrev sEnds : Stmt := top 16
abbrev sAreLines : Stmt := top 18
abbrev sAreAscending : Stmt := top 19
abbrev sAreParts : Stmt := top 20
abbrev sAreClosed : Stmt := top 21
abbrev sShowsNoEnd : Stmt := top 22
abbrev sLawBag : Stmt := top 24
abbrev sLawTake : Stmt := top 25
abbrev sLawAlike : Stmt := top 26
abbrev sLawAnyWord : Stmt := top 27
abbrev sLawRow : Stmt := top 28
abbrev sLawCalled : Stmt := top 29
abbrev sLawStory : Stmt := top 30
abbrev sLawMade : Stmt := top 31
abbrev sLawLetter : Stmt := top 32
abbrev sLawPiece : Stmt := top 33
abbrev sLawLast : Stmt := top 34
abbrev sLawCloses : Stmt := top 35
abbrev sLawIsStory : Stmt := top 36
abbrev sLawBases : Stmt := top 37
abbrev sLawFollows : Stmt := top 38
abbrev sLawCan : Stmt := top 39
abbrev sLawCanEnd : Stmt := top 40
abbrev sLawText : Stmt := top 41
abbrev sLawWish : Stmt := top 42
abbrev sLawApart : Stmt := top 43
abbrev sLawTablesRight : Stmt := top 44
abbrev sLawRight : Stmt := top 45
abbrev sLaw : Stmt := top 46
abbrev nIsInteger : List PySem.Str := ["thing"]
theorem scIsInteger : FnScope nIsInteger ["thing"] (defScope sIsInteger) := ⟨rfl, rfl, rfl, by decide +kernel, rfl, by decide +kernel, by decide +kernel⟩
abbrev nIsBetween : List PySem.Str := ["thing", "least", "greatest"]
theorem scIsBetween : FnScope nIsBetween ["thing", "least", "greatest"] (defScope sIsBetween) := ⟨rfl, rfl, rfl, by decide +kernel, rfl, by decide +kernel, by decide +kernel⟩
abbrev nIsStory : List PySem.Str := ["last", "thing", "place"]
theorem scIsStory : FnScope nIsStory ["last", "thing"] (defScope sIsStory) := ⟨rfl, rfl, rfl, by decide +kernel, rfl, by decide +kernel, by decide +kernel⟩
abbrev nMade : List PySem.Str := ["row", "place"]
theorem scMade : FnScope nMade ["row", "place"] (defScope sMade) := ⟨rfl, rfl, rfl, by decide +kernel, rfl, by decide +kernel, by decide +kernel⟩
abbrev nBaseStories : List PySem.Str := ["row", "size", "found", "last", "story", "place"]
theorem scBaseStories : FnScope nBaseStories ["row", "size"] (defScope sBaseStories) := ⟨rfl, rfl, rfl, by decide +kernel, rfl, by decide +kernel, by decide +kernel⟩
abbrev nFinalRow : List PySem.Str := ["row", "story", "place"]
theorem scFinalRow : FnScope nFinalRow ["row", "story"] (defScope sFinalRow) := ⟨rfl, rfl, rfl, by decide +kernel, rfl, by decide +kernel, by decide +kernel⟩
abbrev nPartsOf : List PySem.Str := ["text", "size", "stop", "start"]
theorem scPartsOf : FnScope nPartsOf ["text"] (defScope sPartsOf) := ⟨rfl, rfl, rfl, by decide +kernel, rfl, by decide +kernel, by decide +kernel⟩
abbrev nLongerOf : List PySem.Str := ["part", "cut", "one", "other"]
theorem scLongerOf : FnScope nLongerOf ["part", "cut"] (defScope sLongerOf) := ⟨rfl, rfl, rfl, by decide +kernel, rfl, by decide +kernel, by decide +kernel⟩
abbrev nBeginnings : List PySem.Str := ["base", "text", "found", "part", "cuts", "cut"]
theorem scBeginnings : FnScope nBeginnings ["base", "text"] (defScope sBeginnings) := ⟨rfl, rfl, rfl, by decide +kernel, rfl, by decide +kernel, by decide +kernel⟩
abbrev nBeginningCalls : List PySem.Str := ["found", "part", "calls"]
theorem scBeginningCalls : FnScope nBeginningCalls ["found", "part"] (defScope sBeginningCalls) := ⟨rfl, rfl, rfl, by decide +kernel, rfl, by decide +kernel, by decide +kernel⟩
abbrev nMirrored : List PySem.Str := ["last", "calls", "found", "place"]
theorem scMirrored : FnScope nMirrored ["last", "calls"] (defScope sMirrored) := ⟨rfl, rfl, rfl, by decide +kernel, rfl, by decide +kernel, by decide +kernel⟩
abbrev nBegins : List PySem.Str := ["row", "text", "table", "story", "found"]
theorem scBegins : FnScope nBegins ["row", "text"] (defScope sBegins) := ⟨rfl, rfl, rfl, by decide +kernel, rfl, by decide +kernel, by decide +kernel⟩
abbrev nEnds : List PySem.Str := ["row", "text", "table", "story", "base", "found", "part"]
theorem scEnds : FnScope nEnds ["row", "text"] (defScope sEnds) := ⟨rfl, rfl, rfl, by decide +kernel, rfl, by decide +kernel, by decide +kernel⟩
abbrev nAreLines : List PySem.Str := ["row", "text", "thing", "many", "stories", "line", "story"]
theorem scAreLines : FnScope nAreLines ["row", "text", "thing", "many"] (defScope sAreLines) := ⟨rfl, rfl, rfl, by decide +kernel, rfl, by decide +kernel, by decide +kernel⟩
abbrev nAreAscending : List PySem.Str := ["some", "one", "other"]
theorem scAreAscending : FnScope nAreAscending ["some"] (defScope sAreAscending) := ⟨rfl, rfl, rfl, by decide +kernel, rfl, by decide +kernel, by decide +kernel⟩
abbrev nAreParts : List PySem.Str := ["text", "thing", "part"]
theorem scAreParts : FnScope nAreParts ["text", "thing"] (defScope sAreParts) := ⟨rfl, rfl, rfl, by decide +kernel, rfl, by decide +kernel, by decide +kernel⟩
abbrev nAreClosed : List PySem.Str := ["base", "text", "parts", "part", "follows", "cut"]
theorem scAreClosed : FnScope nAreClosed ["base", "text", "parts"] (defScope sAreClosed) := ⟨rfl, rfl, rfl, by decide +kernel, rfl, by decide +kernel, by decide +kernel⟩
abbrev nShowsNoEnd : List PySem.Str := ["row", "text", "thing", "story", "parts", "part"]
theorem scShowsNoEnd : FnScope nShowsNoEnd ["row", "text", "thing"] (defScope sShowsNoEnd) := ⟨rfl, rfl, rfl, by decide +kernel, rfl, by decide +kernel, by decide +kernel⟩
abbrev nLawBag : List PySem.Str := ["_law_script", "_law_cell"]
theorem scLawBag : FnScope nLawBag ["_law_script"] (defScope sLawBag) := ⟨rfl, rfl, rfl, by decide +kernel, rfl, by decide +kernel, by decide +kernel⟩
abbrev nLawTake : List PySem.Str := ["_law_bag_here", "_law_many", "_law_cell", "_law_value", "_law_first", "_law_second"]
theorem scLawTake : FnScope nLawTake ["_law_bag_here", "_law_many"] (defScope sLawTake) := ⟨rfl, rfl, rfl, by decide +kernel, rfl, by decide +kernel, by decide +kernel⟩
abbrev nLawAlike : List PySem.Str := ["_law_found", "_law_due"]
theorem scLawAlike : FnScope nLawAlike ["_law_found", "_law_due"] (defScope sLawAlike) := ⟨rfl, rfl, rfl, by decide +kernel, rfl, by decide +kernel, by decide +kernel⟩
abbrev nLawAnyWord : List PySem.Str := ["_law_bag_here", "_law_most", "_law_start", "_law_few", "_law_letters", "_law_way", "_law_size", "_law_many", "_law_word", "_law_k"]
theorem scLawAnyWord : FnScope nLawAnyWord ["_law_bag_here", "_law_most"] (defScope sLawAnyWord) := ⟨rfl, rfl, rfl, by decide +kernel, rfl, by decide +kernel, by decide +kernel⟩
abbrev nLawRow : List PySem.Str := ["_law_bag_here", "_law_most", "_law_text_here", "_law_way", "_law_turn", "_law_letter_here"]
theorem scLawRow : FnScope nLawRow ["_law_bag_here", "_law_most"] (defScope sLawRow) := ⟨rfl, rfl, rfl, by decide +kernel, rfl, by decide +kernel, by decide +kernel⟩
abbrev nLawCalled : List PySem.Str := ["_law_row_here", "_law_place", "_law_ahead", "_law_behind"]
theorem scLawCalled : FnScope nLawCalled ["_law_row_here", "_law_place"] (defScope sLawCalled) := ⟨rfl, rfl, rfl, by decide +kernel, rfl, by decide +kernel, by decide +kernel⟩
abbrev nLawStory : List PySem.Str := ["_law_bag_here", "_law_last_here", "_law_calls", "_law_found", "_law_k", "_law_again", "_law_some"]
theorem scLawStory : FnScope nLawStory ["_law_bag_here", "_law_last_here", "_law_calls"] (defScope sLawStory) := ⟨rfl, rfl, rfl, by decide +kernel, rfl, by decide +kernel, by decide +kernel⟩
abbrev nLawMade : List PySem.Str := ["_law_row_here", "_law_story_here", "_law_place"]
theorem scLawMade : FnScope nLawMade ["_law_row_here", "_law_story_here"] (defScope sLawMade) := ⟨rfl, rfl, rfl, by decide +kernel, rfl, by decide +kernel, by decide +kernel⟩
abbrev nLawLetter : List PySem.Str := ["_law_row_here", "_law_story_here", "_law_place", "_law_lasts", "_law_spot", "_law_k"]
theorem scLawLetter : FnScope nLawLetter ["_law_row_here", "_law_story_here", "_law_place"] (defScope sLawLetter) := ⟨rfl, rfl, rfl, by decide +kernel, rfl, by decide +kernel, by decide +kernel⟩
abbrev nLawPiece : List PySem.Str := ["_law_row_here", "_law_story_here", "_law_start", "_law_stop", "_law_place"]
theorem scLawPiece : FnScope nLawPiece ["_law_row_here", "_law_story_here", "_law_start", "_law_stop"] (defScope sLawPiece) := ⟨rfl, rfl, rfl, by decide +kernel, rfl, by decide +kernel, by decide +kernel⟩
abbrev nLawLast : List PySem.Str := ["_law_row_here", "_law_story_here", "_law_last_here", "_law_place"]
theorem scLawLast : FnScope nLawLast ["_law_row_here", "_law_story_here"] (defScope sLawLast) := ⟨rfl, rfl, rfl, by decide +kernel, rfl, by decide +kernel, by decide +kernel⟩
abbrev nLawCloses : List PySem.Str := ["_law_row_here", "_law_story_here", "_law_text_here", "_law_last_here"]
theorem scLawCloses : FnScope nLawCloses ["_law_row_here", "_law_story_here", "_law_text_here"] (defScope sLawCloses) := ⟨rfl, rfl, rfl, by decide +kernel, rfl, by decide +kernel, by decide +kernel⟩
abbrev nLawIsStory : List PySem.Str := ["_law_row_here", "_law_thing", "_law_last_here", "_law_place"]
theorem scLawIsStory : FnScope nLawIsStory ["_law_row_here", "_law_thing"] (defScope sLawIsStory) := ⟨rfl, rfl, rfl, by decide +kernel, rfl, by decide +kernel, by decide +kernel⟩
abbrev nLawBases : List PySem.Str := ["_law_row_here", "_law_size", "_law_found", "_law_longer", "_law_story_here", "_law_base", "_law_place"]
theorem scLawBases : FnScope nLawBases ["_law_row_here", "_law_size"] (defScope sLawBases) := ⟨rfl, rfl, rfl, by decide +kernel, rfl, by decide +kernel, by decide +kernel⟩
abbrev nLawFollows : List PySem.Str := ["_law_part", "_law_known", "_law_cut", "_law_one", "_law_other"]
theorem scLawFollows : FnScope nLawFollows ["_law_part", "_law_known"] (defScope sLawFollows) := ⟨rfl, rfl, rfl, by decide +kernel, rfl, by decide +kernel, by decide +kernel⟩
abbrev nLawCan : List PySem.Str := ["_law_base", "_law_text_here", "_law_known", "_law_size", "_law_start", "_law_part"]
theorem scLawCan : FnScope nLawCan ["_law_base", "_law_text_here"] (defScope sLawCan) := ⟨rfl, rfl, rfl, by decide +kernel, rfl, by decide +kernel, by decide +kernel⟩
abbrev nLawCanEnd : List PySem.Str := ["_law_base", "_law_text_here", "_law_part"]
theorem scLawCanEnd : FnScope nLawCanEnd ["_law_base", "_law_text_here"] (defScope sLawCanEnd) := ⟨rfl, rfl, rfl, by decide +kernel, rfl, by decide +kernel, by decide +kernel⟩
abbrev nLawText : List PySem.Str := ["_law_bag_here", "_law_row_here", "_law_most", "_law_way", "_law_size", "_law_letters", "_law_later", "_law_start", "_law_text_here", "_law_at", "_law_k"]
theorem scLawText : FnScope nLawText ["_law_bag_here", "_law_row_here", "_law_most"] (defScope sLawText) := ⟨rfl, rfl, rfl, by decide +kernel, rfl, by decide +kernel, by decide +kernel⟩
abbrev nLawWish : List PySem.Str := ["_law_bag_here", "_law_way", "_law_row_here"]
theorem scLawWish : FnScope nLawWish ["_law_bag_here"] (defScope sLawWish) := ⟨rfl, rfl, rfl, by decide +kernel, rfl, by decide +kernel, by decide +kernel⟩
abbrev nLawApart : List PySem.Str := ["_law_told", "_law_lines", "_law_k", "_law_story_here", "_law_parts"]
theorem scLawApart : FnScope nLawApart ["_law_told", "_law_lines"] (defScope sLawApart) := ⟨rfl, rfl, rfl, by decide +kernel, rfl, by decide +kernel, by decide +kernel⟩
abbrev nLawTablesRight : List PySem.Str := ["_law_bag_here", "_law_row_here", "_law_text_here", "_law_lines", "_law_able", "_law_story_here", "_law_parts", "_law_some", "_law_at", "_law_spot", "_law_part"]
theorem scLawTablesRight : FnScope nLawTablesRight ["_law_bag_here", "_law_row_here", "_law_text_here", "_law_lines", "_law_able"] (defScope sLawTablesRight) := ⟨rfl, rfl, rfl, by decide +kernel, rfl, by decide +kernel, by decide +kernel⟩
abbrev nLawRight : List PySem.Str := ["_law_bag_here", "_law_row_here", "_law_text_here", "_law_lines", "_law_able", "_law_again", "_law_found", "_law_story_here", "_law_base", "_law_parts"]
theorem scLawRight : FnScope nLawRight ["_law_bag_here", "_law_row_here", "_law_text_here"] (defScope sLawRight) := ⟨rfl, rfl, rfl, by decide +kernel, rfl, by decide +kernel, by decide +kernel⟩
abbrev nLaw : List PySem.Str := ["_law_script", "_law_bag_here", "_law_turn", "_law_row_here", "_law_text_here"]
theorem scLaw : FnScope nLaw ["_law_script"] (defScope sLaw) := ⟨rfl, rfl, rfl, by decide +kernel, rfl, by decide +kernel, by decide +kernel⟩
/-! ### a def as the top has left it -/
structure Df (K : PySem.W.Frag) (mg : PySem.Str → Option Value) (x : PySem.Str) (st : Stmt) (ps : List PySem.Str) where
  f : Addr
  fd : FuncData
  F : FunD K x x (defArgs st) (defBody st) (defScope st) [] [] f fd
  b : Binds K fd ps []
  g : mg x = some (.ref f)
structure Tx0 (K : PySem.W.Frag) (mg : PySem.Str → Option Value) where
  dIsInteger : Df K mg "is_integer" sIsInteger ["thing"]
  dIsBetween : Df K mg "is_between" sIsBetween ["thing", "least", "greatest"]
  dIsStory : Df K mg "is_story" sIsStory ["last", "thing"]
  dMade : Df K mg "made" sMade ["row", "place"]
  dBaseStories : Df K mg "base_stories" sBaseStories ["row", "size"]
  dFinalRow : Df K mg "final_row" sFinalRow ["row", "story"]
  dPartsOf : Df K mg "parts_of" sPartsOf ["text"]
  dLongerOf : Df K mg "longer_of" sLongerOf ["part", "cut"]
  dBeginnings : Df K mg "beginnings" sBeginnings ["base", "text"]
  dBeginningCalls : Df K mg "beginning_calls" sBeginningCalls ["found", "part"]
  dMirrored : Df K mg "mirrored" sMirrored ["last", "calls"]
  dBegins : Df K mg "begins" sBegins ["row", "text"]
  dEnds : Df K mg "ends" sEnds ["row", "text"]
  dAreLines : Df K mg "are_lines" sAreLines ["row", "text", "thing", "many"]
  dAreAscending : Df K mg "are_ascending" sAreAscending ["some"]
  dAreParts : Df K mg "are_parts" sAreParts ["text", "thing"]
  dAreClosed : Df K mg "are_closed" sAreClosed ["base", "text", "parts"]
  dShowsNoEnd : Df K mg "shows_no_end" sShowsNoEnd ["row", "text", "thing"]
  dLawBag : Df K mg "_law_bag" sLawBag ["_law_script"]
  dLawTake : Df K mg "_law_take" sLawTake ["_law_bag_here", "_law_many"]
  dLawAlike : Df K mg "_law_alike" sLawAlike ["_law_found", "_law_due"]
  dLawAnyWord : Df K mg "_law_any_word" sLawAnyWord ["_law_bag_here", "_law_most"]
  dLawRow : Df K mg "_law_row" sLawRow ["_law_bag_here", "_law_most"]
  dLawCalled : Df K mg "_law_called" sLawCalled ["_law_row_here", "_law_place"]
  dLawStory : Df K mg "_law_story" sLawStory ["_law_bag_here", "_law_last_here", "_law_calls"]
  dLawMade : Df K mg "_law_made" sLawMade ["_law_row_here", "_law_story_here"]
  dLawLetter : Df K mg "_law_letter" sLawLetter ["_law_row_here", "_law_story_here", "_law_place"]
  dLawPiece : Df K mg "_law_piece" sLawPiece ["_law_row_here", "_law_story_here", "_law_start", "_law_stop"]
  dLawLast : Df K mg "_law_last" sLawLast ["_law_row_here", "_law_story_here"]
  dLawCloses : Df K mg "_law_closes" sLawCloses ["_law_row_here", "_law_story_here", "_law_text_here"]
  dLawIsStory : Df K mg "_law_is_story" sLawIsStory ["_law_row_here", "_law_thing"]
  dLawBases : Df K mg "_law_bases" sLawBases ["_law_row_here", "_law_size"]
  dLawFollows : Df K mg "_law_follows" sLawFollows ["_law_part", "_law_known"]
  dLawCan : Df K mg "_law_can" sLawCan ["_law_base", "_law_text_here"]
  dLawCanEnd : Df K mg "_law_can_end" sLawCanEnd ["_law_base", "_law_text_here"]
  dLawText : Df K mg "_law_text" sLawText ["_law_bag_here", "_law_row_here", "_law_most"]
  dLawWish : Df K mg "_law_wish" sLawWish ["_law_bag_here"]
  dLawApart : Df K mg "_law_apart" sLawApart ["_law_told", "_law_lines"]
  dLawTablesRight : Df K mg "_law_tables_right" sLawTablesRight ["_law_bag_here", "_law_row_here", "_law_text_here", "_law_lines", "_law_able"]
  dLawRight : Df K mg "_law_right" sLawRight ["_law_bag_here", "_law_row_here", "_law_text_here"]
  dLaw : Df K mg "law" sLaw ["_law_script"]
  m_abs : mg "abs" = none
  m_all : mg "all" = none
  m_any : mg "any" = none
  m_bool : mg "bool" = none
  m_int : mg "int" = none
  m_isinstance : mg "isinstance" = none
  m_len : mg "len" = none
  m_list : mg "list" = none
  m_min : mg "min" = none
  m_range : mg "range" = none
  m_repr : mg "repr" = none
  m_sorted : mg "sorted" = none
  m_str : mg "str" = none
  m_tuple : mg "tuple" = none
  m_zip : mg "zip" = none
  m_most : ∃ t, mg "MOST_CALLS" = some (.int 64 t)
end Ow
set_option Elab.async false
set_option linter.all false
set_option maxRecDepth 100000
set_option maxHeartbeats 0
namespace Ow
open PySem PySem.Spec PyProof.Rows L2 OwR
/-! ### the head: each def by its name, the built-ins as they were -/
def hIsInteger : He.DefD := ⟨("is_integer", none), "is_integer", "is_integer", defArgs sIsInteger, defBody sIsInteger, defScope sIsInteger, [], []⟩
def hIsBetween : He.DefD := ⟨("is_between", none), "is_between", "is_between", defArgs sIsBetween, defBody sIsBetween, defScope sIsBetween, [], []⟩
def hIsStory : He.DefD := ⟨("is_story", none), "is_story", "is_story", defArgs sIsStory, defBody sIsStory, defScope sIsStory, [], []⟩
def hMade : He.DefD := ⟨("made", none), "made", "made", defArgs sMade, defBody sMade, defScope sMade, [], []⟩
def hBaseStories : He.DefD := ⟨("base_stories", none), "base_stories", "base_stories", defArgs sBaseStories, defBody sBaseStories, defScope sBaseStories, [], []⟩
def hFinalRow : He.DefD := ⟨("final_row", none), "final_row", "final_row", defArgs sFinalRow, defBody sFinalRow, defScope sFinalRow, [], []⟩
def hPartsOf : He.DefD := ⟨("parts_of", none), "parts_of", "parts_of", defArgs sPartsOf, defBody sPartsOf, defScope sPartsOf, [], []⟩
def hLongerOf : He.DefD := ⟨("longer_of", none), "longer_of", "longer_of", defArgs sLongerOf, defBody sLongerOf, defScope sLongerOf, [], []⟩
def hBeginnings : He.DefD := ⟨("beginnings", none), "beginnings", "beginnings", defArgs sBeginnings, defBody sBeginnings, defScope sBeginnings, [], []⟩
def hBeginningCalls : He.DefD := ⟨("beginning_calls", none), "beginning_calls", "beginning_calls", defArgs sBeginningCalls, defBody sBeginningCalls, defScope sBeginningCalls, [], []⟩
def hMirrored : He.DefD := ⟨("mirrored", none), "mirrored", "mirrored", defArgs sMirrored, defBody sMirrored, defScope sMirrored, [], []⟩
def hBegins : He.DefD := ⟨("begins", none), "begins", "begins", defArgs sBegins, defBody sBegins, defScope sBegins, [], []⟩
def hEnds : He.DefD := ⟨("ends", none), "ends", "ends", defArgs sEnds, defBody sEnds, defScope sEnds, [], []⟩
def hAreLines : He.DefD := ⟨("are_lines", none), "are_lines", "are_lines", defArgs sAreLines, defBody sAreLines, defScope sAreLines, [], []⟩
def hAreAscending : He.DefD := ⟨("are_ascending", none), "are_ascending", "are_ascending", defArgs sAreAscending, defBody sAreAscending, defScope sAreAscending, [], []⟩
def hAreParts : He.DefD := ⟨("are_parts", none), "are_parts", "are_parts", defArgs sAreParts, defBody sAreParts, defScope sAreParts, [], []⟩
def hAreClosed : He.DefD := ⟨("are_closed", none), "are_closed", "are_closed", defArgs sAreClosed, defBody sAreClosed, defScope sAreClosed, [], []⟩
def hShowsNoEnd : He.DefD := ⟨("shows_no_end", none), "shows_no_end", "shows_no_end", defArgs sShowsNoEnd, defBody sShowsNoEnd, defScope sShowsNoEnd, [], []⟩
def hLawBag : He.DefD := ⟨("_law_bag", none), "_law_bag", "_law_bag", defArgs sLawBag, defBody sLawBag, defScope sLawBag, [], []⟩
def hLawTake : He.DefD := ⟨("_law_take", none), "_law_take", "_law_take", defArgs sLawTake, defBody sLawTake, defScope sLawTake, [], []⟩
def hLawAlike : He.DefD := ⟨("_law_alike", none), "_law_alike", "_law_alike", defArgs sLawAlike, defBody sLawAlike, defScope sLawAlike, [], []⟩
def hLawAnyWord : He.DefD := ⟨("_law_any_word", none), "_law_any_word", "_law_any_word", defArgs sLawAnyWord, defBody sLawAnyWord, defScope sLawAnyWord, [], []⟩
def hLawRow : He.DefD := ⟨("_law_row", none), "_law_row", "_law_row", defArgs sLawRow, defBody sLawRow, defScope sLawRow, [], []⟩
def hLawCalled : He.DefD := ⟨("_law_called", none), "_law_called", "_law_called", defArgs sLawCalled, defBody sLawCalled, defScope sLawCalled, [], []⟩
def hLawStory : He.DefD := ⟨("_law_story", none), "_law_story", "_law_story", defArgs sLawStory, defBody sLawStory, defScope sLawStory, [], []⟩
def hLawMade : He.DefD := ⟨("_law_made", none), "_law_made", "_law_made", defArgs sLawMade, defBody sLawMade, defScope sLawMade, [], []⟩
def hLawLetter : He.DefD := ⟨("_law_letter", none), "_law_letter", "_law_letter", defArgs sLawLetter, defBody sLawLetter, defScope sLawLetter, [], []⟩
def hLawPiece : He.DefD := ⟨("_law_piece", none), "_law_piece", "_law_piece", defArgs sLawPiece, defBody sLawPiece, defScope sLawPiece, [], []⟩
def hLawLast : He.DefD := ⟨("_law_last", none), "_law_last", "_law_last", defArgs sLawLast, defBody sLawLast, defScope sLawLast, [], []⟩
def hLawCloses : He.DefD := ⟨("_law_closes", none), "_law_closes", "_law_closes", defArgs sLawCloses, defBody sLawCloses, defScope sLawCloses, [], []⟩
def hLawIsStory : He.DefD := ⟨("_law_is_story", none), "_law_is_story", "_law_is_story", defArgs sLawIsStory, defBody sLawIsStory, defScope sLawIsStory, [], []⟩
def hLawBases : He.DefD := ⟨("_law_bases", none), "_law_bases", "_law_bases", defArgs sLawBases, defBody sLawBases, defScope sLawBases, [], []⟩
def hLawFollows : He.DefD := ⟨("_law_follows", none), "_law_follows", "_law_follows", defArgs sLawFollows, defBody sLawFollows, defScope sLawFollows, [], []⟩
def hLawCan : He.DefD := ⟨("_law_can", none), "_law_can", "_law_can", defArgs sLawCan, defBody sLawCan, defScope sLawCan, [], []⟩
def hLawCanEnd : He.DefD := ⟨("_law_can_end", none), "_law_can_end", "_law_can_end", defArgs sLawCanEnd, defBody sLawCanEnd, defScope sLawCanEnd, [], []⟩
def hLawText : He.DefD := ⟨("_law_text", none), "_law_text", "_law_text", defArgs sLawText, defBody sLawText, defScope sLawText, [], []⟩
def hLawWish : He.DefD := ⟨("_law_wish", none), "_law_wish", "_law_wish", defArgs sLawWish, defBody sLawWish, defScope sLawWish, [], []⟩
def hLawApart : He.DefD := ⟨("_law_apart", none), "_law_apart", "_law_apart", defArgs sLawApart, defBody sLawApart, defScope sLawApart, [], []⟩
def hLawTablesRight : He.DefD := ⟨("_law_tables_right", none), "_law_tables_right", "_law_tables_right", defArgs sLawTablesRight, defBody sLawTablesRight, defScope sLawTablesRight, [], []⟩
def hLawRight : He.DefD := ⟨("_law_right", none), "_law_right", "_law_right", defArgs sLawRight, defBody sLawRight, defScope sLawRight, [], []⟩
def hLaw : He.DefD := ⟨("law", none), "law", "law", defArgs sLaw, defBody sLaw, defScope sLaw, [], []⟩
def fn : List He.DefD := [hIsInteger, hIsBetween, hIsStory, hMade, hBaseStories, hFinalRow, hPartsOf, hLongerOf, hBeginnings, hBeginningCalls, hMirrored, hBegins, hEnds, hAreLines, hAreAscending, hAreParts, hAreClosed, hShowsNoEnd, hLawBag, hLawTake, hLawAlike, hLawAnyWord, hLawRow, hLawCalled, hLawStory, hLawMade, hLawLetter, hLawPiece, hLawLast, hLawCloses, hLawIsStory, hLawBases, hLawFollows, hLawCan, hLawCanEnd, hLawText, hLawWish, hLawApart, hLawTablesRight, hLawRight, hLaw]
def fa : List He.Fa := [.glo "is_integer", .glo "is_between", .glo "is_story", .glo "made", .glo "base_stories", .glo "final_row", .glo "parts_of", .glo "longer_of", .glo "beginnings", .glo "beginning_calls", .glo "mirrored", .glo "begins", .glo "ends", .glo "are_lines", .glo "are_ascending", .glo "are_parts", .glo "are_closed", .glo "shows_no_end", .glo "_law_bag", .glo "_law_take", .glo "_law_alike", .glo "_law_any_word", .glo "_law_row", .glo "_law_called", .glo "_law_story", .glo "_law_made", .glo "_law_letter", .glo "_law_piece", .glo "_law_last", .glo "_law_closes", .glo "_law_is_story", .glo "_law_bases", .glo "_law_follows", .glo "_law_can", .glo "_law_can_end", .glo "_law_text", .glo "_law_wish", .glo "_law_apart", .glo "_law_tables_right", .glo "_law_right", .glo "law", .free "abs", .free "all", .free "any", .free "bool", .free "int", .free "isinstance", .free "len", .free "list", .free "min", .free "range", .free "repr", .free "sorted", .free "str", .free "tuple", .free "zip", .int "MOST_CALLS" 64]
abbrev R0 : PySem.W.OpenRow := PySem.W.OpenLaw.row PySem.Challenge.rw_ownlog_k84_whole_texts_that_end
abbrev hk : PySem.W.Hook := He.hookD 4 fa fn
def ob (s : PySem.W.SharedT) : He.AlD := He.obsDG 4 fa fn (HandSHeadRun.getT s)
theorem ob_eq (s : PySem.W.SharedT) : ob s = hk.obs s.abs := He.obsDG_eq (HandSHeadRun.getT_eq s)
def looseA : List PySem.Str := ["MOST_CALLS", "is_integer", "is_between", "is_story", "made", "base_stories", "final_row", "parts_of", "longer_of", "beginnings", "beginning_calls", "mirrored", "begins", "ends", "are_lines", "are_ascending", "are_parts", "are_closed", "shows_no_end", "_law_bag", "_law_take"]
def looseB : List PySem.Str := ["_law_alike", "_law_any_word", "_law_row", "_law_called", "_law_story", "_law_made", "_law_letter", "_law_piece", "_law_last", "_law_closes", "_law_is_story", "_law_bases", "_law_follows", "_law_can", "_law_can_end", "_law_text", "_law_wish", "_law_apart", "_law_tables_right", "_law_right"]
abbrev loose : List PySem.Str := looseA ++ looseB
theorem run (w : World) : HandSHeadRun.RunEq R0 (PySem.W.view R0.prog [46]) hk ob 4000 loose w := by
  intro os
  kernel_rfl
end Ow
set_option Elab.async false
set_option linter.all false
set_option maxRecDepth 100000
set_option maxHeartbeats 0
namespace Ow
open PySem PySem.Spec PyProof.Rows L2 OwR
/-! ### what the top has left, as one record -/
section
variable {K : PySem.W.Frag} {h : Heap} {mg : PySem.Str → Option Value}
theorem df_of {x : PySem.Str} {st : Stmt} {ps : List PySem.Str} {fd : FuncData} (F : FunD K x x (defArgs st) (defBody st) (defScope st) [] [] (He.ga K x) fd) (g : mg x = some (.ref (He.ga K x)))
    (h : ∀ (kV doc pm : Value) (an : Option Addr) (cdv ct : Value) (us : List Value), us.length = ps.length → bindArgs (PySem.W.fnOf x x (defArgs st) (defBody st) (defScope st) .none kV doc pm an cdv ct) ⟨us, []⟩ = pure (ps.zip us)) :
    Nonempty (Df K mg x st ps) := ⟨⟨He.ga K x, fd, F, FunD.bindsN F h, g⟩⟩
theorem dfIsInteger (X : K.In h) (G : h.Ns mainGlobals mg) (c : He.SaysD fa fn K) : Nonempty (Df K mg "is_integer" sIsInteger ["thing"]) := by
  obtain ⟨fd, F⟩ := c.def_ 0 (d := hIsInteger) rfl
  exact df_of F (He.glo_ok X G (c.fact 0 (f := .glo "is_integer") rfl)) fun _ _ _ _ _ _ us hl => match us, hl with | [_], _ => rfl
theorem dfIsBetween (X : K.In h) (G : h.Ns mainGlobals mg) (c : He.SaysD fa fn K) : Nonempty (Df K mg "is_between" sIsBetween ["thing", "least", "greatest"]) := by
  obtain ⟨fd, F⟩ := c.def_ 1 (d := hIsBetween) rfl
  exact df_of F (He.glo_ok X G (c.fact 1 (f := .glo "is_between") rfl)) fun _ _ _ _ _ _ us hl => match us, hl with | [_, _, _], _ => rfl
theorem dfIsStory (X : K.In h) (G : h.Ns mainGlobals mg) (c : He.SaysD fa fn K) : Nonempty (Df K mg "is_story" sIsStory ["last", "thing"]) := by
  obtain ⟨fd, F⟩ := c.def_ 2 (d := hIsStory) rfl
  exact df_of F (He.glo_ok X G (c.fact 2 (f := .glo "is_story") rfl)) fun _ _ _ _ _ _ us hl => match us, hl with | [_, _], _ => rfl
theorem dfMade (X : K.In h) (G : h.Ns mainGlobals mg) (c : He.SaysD fa fn K) : Nonempty (Df K mg "made" sMade ["row", "place"]) := by
  obtain ⟨fd, F⟩ := c.def_ 3 (d := hMade) rfl
  exact df_of F (He.glo_ok X G (c.fact 3 (f := .glo "made") rfl)) fun _ _ _ _ _ _ us hl => match us, hl with | [_, _], _ => rfl
theorem dfBaseStories (X : K.In h) (G : h.Ns mainGlobals mg) (c : He.SaysD fa fn K) : Nonempty (Df K mg "base_stories" sBaseStories ["row", "size"]) := by
  obtain ⟨fd, F⟩ := c.def_ 4 (d := hBaseStories) rfl
  exact df_of F (He.glo_ok X G (c.fact 4 (f := .glo "base_stories") rfl)) fun _ _ _ _ _ _ us hl => match us, hl with | [_, _], _ => rfl
theorem dfFinalRow (X : K.In h) (G : h.Ns mainGlobals mg) (c : He.SaysD fa fn K) : Nonempty (Df K mg "final_row" sFinalRow ["row", "story"]) := by
  obtain ⟨fd, F⟩ := c.def_ 5 (d := hFinalRow) rfl
  exact df_of F (He.glo_ok X G (c.fact 5 (f := .glo "final_row") rfl)) fun _ _ _ _ _ _ us hl => match us, hl with | [_, _], _ => rfl
theorem dfPartsOf (X : K.In h) (G : h.Ns mainGlobals mg) (c : He.SaysD fa fn K) : Nonempty (Df K mg "parts_of" sPartsOf ["text"]) := by
  obtain ⟨fd, F⟩ := c.def_ 6 (d := hPartsOf) rfl
  exact df_of F (He.glo_ok X G (c.fact 6 (f := .glo "parts_of") rfl)) fun _ _ _ _ _ _ us hl => match us, hl with | [_], _ => rfl
theorem dfLongerOf (X : K.In h) (G : h.Ns mainGlobals mg) (c : He.SaysD fa fn K) : Nonempty (Df K mg "longer_of" sLongerOf ["part", "cut"]) := by
  obtain ⟨fd, F⟩ := c.def_ 7 (d := hLongerOf) rfl
  exact df_of F (He.glo_ok X G (c.fact 7 (f := .glo "longer_of") rfl)) fun _ _ _ _ _ _ us hl => match us, hl with | [_, _], _ => rfl
theorem dfBeginnings (X : K.In h) (G : h.Ns mainGlobals mg) (c : He.SaysD fa fn K) : Nonempty (Df K mg "beginnings" sBeginnings ["base", "text"]) := by
  obtain ⟨fd, F⟩ := c.def_ 8 (d := hBeginnings) rfl
  exact df_of F (He.glo_ok X G (c.fact 8 (f := .glo "beginnings") rfl)) fun _ _ _ _ _ _ us hl => match us, hl with | [_, _], _ => rfl
theorem dfBeginningCalls (X : K.In h) (G : h.Ns mainGlobals mg) (c : He.SaysD fa fn K) : Nonempty (Df K mg "beginning_calls" sBeginningCalls ["found", "part"]) := by
  obtain ⟨fd, F⟩ := c.def_ 9 (d := hBeginningCalls) rfl
  exact df_of F (He.glo_ok X G (c.fact 9 (f := .glo "beginning_calls") rfl)) fun _ _ _ _ _ _ us hl => match us, hl with | [_, _], _ => rfl
theorem dfMirrored (X : K.In h) (G : h.Ns mainGlobals mg) (c : He.SaysD fa fn K) : Nonempty (Df K mg "mirrored" sMirrored ["last", "calls"]) := by
  obtain ⟨fd, F⟩ := c.def_ 10 (d := hMirrored) rfl
  exact df_of F (He.glo_ok X G (c.fact 10 (f := .glo "mirrored") rfl)) fun _ _ _ _ _ _ us hl => match us, hl with | [_, _], _ => rfl
theorem dfBegins (X : K.In h) (G : h.Ns mainGlobals mg) (c : He.SaysD fa fn K) : Nonempty (Df K mg "begins" sBegins ["row", "text"]) := by
  obtain ⟨fd, F⟩ := c.def_ 11 (d := hBegins) rfl
  exact df_of F (He.glo_ok X G (c.fact 11 (f := .glo "begins") rfl)) fun _ _ _ _ _ _ us hl => match us, hl with | [_, _], _ => rfl
theorem dfEnds (X : K.In h) (G : h.Ns mainGlobals mg) (c : He.SaysD fa fn K) : Nonempty (Df K mg "ends" sEnds ["row", "text"]) := by
  obtain ⟨fd, F⟩ := c.def_ 12 (d := hEnds) rfl
  exact df_of F (He.glo_ok X G (c.fact 12 (f := .glo "ends") rfl)) fun _ _ _ _ _ _ us hl => match us, hl with | [_, _], _ => rfl
theorem dfAreLines (X : K.In h) (G : h.Ns mainGlobals mg) (c : He.SaysD fa fn K) : Nonempty (Df K mg "are_lines" sAreLines ["row", "text", "thing", "many"]) := by
  obtain ⟨fd, F⟩ := c.def_ 13 (d := hAreLines) rfl
  exact df_of F (He.glo_ok X G (c.fact 13 (f := .glo "are_lines") rfl)) fun _ _ _ _ _ _ us hl => match us, hl with | [_, _, _, _], _ => rfl
theorem dfAreAscending (X : K.In h) (G : h.Ns mainGlobals mg) (c : He.SaysD fa fn K) : Nonempty (Df K mg "are_ascending" sAreAscending ["some"]) := by
  obtain ⟨fd, F⟩ := c.def_ 14 (d := hAreAscending) rfl
  exact df_of F (He.glo_ok X G (c.fact 14 (f := .glo "are_ascending") rfl)) fun _ _ _ _ _ _ us hl => match us, hl with | [_], _ => rfl
theorem dfAreParts (X : K.In h) (G : h.Ns mainGlobals mg) (c : He.SaysD fa fn K) : Nonempty (Df K mg "are_parts" sAreParts ["text", "thing"]) := by
  obtain ⟨fd, F⟩ := c.def_ 15 (d := hAreParts) rfl
  exact df_of F (He.glo_ok X G (c.fact 15 (f := .glo "are_parts") rfl)) fun _ _ _ _ _ _ us hl => match us, hl with | [_, _], _ => rfl
theorem dfAreClosed (X : K.In h) (G : h.Ns mainGlobals mg) (c : He.SaysD fa fn K) : Nonempty (Df K mg "are_closed" sAreClosed ["base", "text", "parts"]) := by
  obtain ⟨fd, F⟩ := c.def_ 16 (d := hAreClosed) rfl
  exact df_of F (He.glo_ok X G (c.fact 16 (f := .glo "are_closed") rfl)) fun _ _ _ _ _ _ us hl => match us, hl with | [_, _, _], _ => rfl
theorem dfShowsNoEnd (X : K.In h) (G : h.Ns mainGlobals mg) (c : He.SaysD fa fn K) : Nonempty (Df K mg "shows_no_end" sShowsNoEnd ["row", "text", "thing"]) := by
  obtain ⟨fd, F⟩ := c.def_ 17 (d := hShowsNoEnd) rfl
  exact df_of F (He.glo_ok X G (c.fact 17 (f := .glo "shows_no_end") rfl)) fun _ _ _ _ _ _ us hl => match us, hl with | [_, _, _], _ => rfl
theorem dfLawBag (X : K.In h) (G : h.Ns mainGlobals mg) (c : He.SaysD fa fn K) : Nonempty (Df K mg "_law_bag" sLawBag ["_law_script"]) := by
  obtain ⟨fd, F⟩ := c.def_ 18 (d := hLawBag) rfl
  exact df_of F (He.glo_ok X G (c.fact 18 (f := .glo "_law_bag") rfl)) fun _ _ _ _ _ _ us hl => match us, hl with | [_], _ => rfl
theorem dfLawTake (X : K.In h) (G : h.Ns mainGlobals mg) (c : He.SaysD fa fn K) : Nonempty (Df K mg "_law_take" sLawTake ["_law_bag_here", "_law_many"]) := by
  obtain ⟨fd, F⟩ := c.def_ 19 (d := hLawTake) rfl
  exact df_of F (He.glo_ok X G (c.fact 19 (f := .glo "_law_take") rfl)) fun _ _ _ _ _ _ us hl => match us, hl with | [_, _], _ => rfl
theorem dfLawAlike (X : K.In h) (G : h.Ns mainGlobals mg) (c : He.SaysD fa fn K) : Nonempty (Df K mg "_law_alike" sLawAlike ["_law_found", "_law_due"]) := by
  obtain ⟨fd, F⟩ := c.def_ 20 (d := hLawAlike) rfl
  exact df_of F (He.glo_ok X G (c.fact 20 (f := .glo "_law_alike") rfl)) fun _ _ _ _ _ _ us hl => match us, hl with | [_, _], _ => rfl
theorem dfLawAnyWord (X : K.In h) (G : h.Ns mainGlobals mg) (c : He.SaysD fa fn K) : Nonempty (Df K mg "_law_any_word" sLawAnyWord ["_law_bag_here", "_law_most"]) := by
  obtain ⟨fd, F⟩ := c.def_ 21 (d := hLawAnyWord) rfl
  exact df_of F (He.glo_ok X G (c.fact 21 (f := .glo "_law_any_word") rfl)) fun _ _ _ _ _ _ us hl => match us, hl with | [_, _], _ => rfl
theorem dfLawRow (X : K.In h) (G : h.Ns mainGlobals mg) (c : He.SaysD fa fn K) : Nonempty (Df K mg "_law_row" sLawRow ["_law_bag_here", "_law_most"]) := by
  obtain ⟨fd, F⟩ := c.def_ 22 (d := hLawRow) rfl
  exact df_of F (He.glo_ok X G (c.fact 22 (f := .glo "_law_row") rfl)) fun _ _ _ _ _ _ us hl => match us, hl with | [_, _], _ => rfl
theorem dfLawCalled (X : K.In h) (G : h.Ns mainGlobals mg) (c : He.SaysD fa fn K) : Nonempty (Df K mg "_law_called" sLawCalled ["_law_row_here", "_law_place"]) := by
  obtain ⟨fd, F⟩ := c.def_ 23 (d := hLawCalled) rfl
  exact df_of F (He.glo_ok X G (c.fact 23 (f := .glo "_law_called") rfl)) fun _ _ _ _ _ _ us hl => match us, hl with | [_, _], _ => rfl
theorem dfLawStory (X : K.In h) (G : h.Ns mainGlobals mg) (c : He.SaysD fa fn K) : Nonempty (Df K mg "_law_story" sLawStory ["_law_bag_here", "_law_last_here", "_law_calls"]) := by
  obtain ⟨fd, F⟩ := c.def_ 24 (d := hLawStory) rfl
  exact df_of F (He.glo_ok X G (c.fact 24 (f := .glo "_law_story") rfl)) fun _ _ _ _ _ _ us hl => match us, hl with | [_, _, _], _ => rfl
theorem dfLawMade (X : K.In h) (G : h.Ns mainGlobals mg) (c : He.SaysD fa fn K) : Nonempty (Df K mg "_law_made" sLawMade ["_law_row_here", "_law_story_here"]) := by
  obtain ⟨fd, F⟩ := c.def_ 25 (d := hLawMade) rfl
  exact df_of F (He.glo_ok X G (c.fact 25 (f := .glo "_law_made") rfl)) fun _ _ _ _ _ _ us hl => match us, hl with | [_, _], _ => rfl
theorem dfLawLetter (X : K.In h) (G : h.Ns mainGlobals mg) (c : He.SaysD fa fn K) : Nonempty (Df K mg "_law_letter" sLawLetter ["_law_row_here", "_law_story_here", "_law_place"]) := by
  obtain ⟨fd, F⟩ := c.def_ 26 (d := hLawLetter) rfl
  exact df_of F (He.glo_ok X G (c.fact 26 (f := .glo "_law_letter") rfl)) fun _ _ _ _ _ _ us hl => match us, hl with | [_, _, _], _ => rfl
theorem dfLawPiece (X : K.In h) (G : h.Ns mainGlobals mg) (c : He.SaysD fa fn K) : Nonempty (Df K mg "_law_piece" sLawPiece ["_law_row_here", "_law_story_here", "_law_start", "_law_stop"]) := by
  obtain ⟨fd, F⟩ := c.def_ 27 (d := hLawPiece) rfl
  exact df_of F (He.glo_ok X G (c.fact 27 (f := .glo "_law_piece") rfl)) fun _ _ _ _ _ _ us hl => match us, hl with | [_, _, _, _], _ => rfl
theorem dfLawLast (X : K.In h) (G : h.Ns mainGlobals mg) (c : He.SaysD fa fn K) : Nonempty (Df K mg "_law_last" sLawLast ["_law_row_here", "_law_story_here"]) := by
  obtain ⟨fd, F⟩ := c.def_ 28 (d := hLawLast) rfl
  exact df_of F (He.glo_ok X G (c.fact 28 (f := .glo "_law_last") rfl)) fun _ _ _ _ _ _ us hl => match us, hl with | [_, _], _ => rfl
theorem dfLawCloses (X : K.In h) (G : h.Ns mainGlobals mg) (c : He.SaysD fa fn K) : Nonempty (Df K mg "_law_closes" sLawCloses ["_law_row_here", "_law_story_here", "_law_text_here"]) := by
  obtain ⟨fd, F⟩ := c.def_ 29 (d := hLawCloses) rfl
  exact df_of F (He.glo_ok X G (c.fact 29 (f := .glo "_law_closes") rfl)) fun _ _ _ _ _ _ us hl => match us, hl with | [_, _, _], _ => rfl
theorem dfLawIsStory (X : K.In h) (G : h.Ns mainGlobals mg) (c : He.SaysD fa fn K) : Nonempty (Df K mg "_law_is_story" sLawIsStory ["_law_row_here", "_law_thing"]) := by
  obtain ⟨fd, F⟩ := c.def_ 30 (d := hLawIsStory) rfl
  exact df_of F (He.glo_ok X G (c.fact 30 (f := .glo "_law_is_story") rfl)) fun _ _ _ _ _ _ us hl => match us, hl with | [_, _], _ => rfl
theorem dfLawBases (X : K.In h) (G : h.Ns mainGlobals mg) (c : He.SaysD fa fn K) : Nonempty (Df K mg "_law_bases" sLawBases ["_law_row_here", "_law_size"]) := by
  obtain ⟨fd, F⟩ := c.def_ 31 (d := hLawBases) rfl
  exact df_of F (He.glo_ok X G (c.fact 31 (f := .glo "_law_bases") rfl)) fun _ _ _ _ _ _ us hl => match us, hl with | [_, _], _ => rfl
theorem dfLawFollows (X : K.In h) (G : h.Ns mainGlobals mg) (c : He.SaysD fa fn K) : Nonempty (Df K mg "_law_follows" sLawFollows ["_law_part", "_law_known"]) := by
  obtain ⟨fd, F⟩ := c.def_ 32 (d := hLawFollows) rfl
  exact df_of F (He.glo_ok X G (c.fact 32 (f := .glo "_law_follows") rfl)) fun _ _ _ _ _ _ us hl => match us, hl with | [_, _], _ => rfl
theorem dfLawCan (X : K.In h) (G : h.Ns mainGlobals mg) (c : He.SaysD fa fn K) : Nonempty (Df K mg "_law_can" sLawCan ["_law_base", "_law_text_here"]) := by
  obtain ⟨fd, F⟩ := c.def_ 33 (d := hLawCan) rfl
  exact df_of F (He.glo_ok X G (c.fact 33 (f := .glo "_law_can") rfl)) fun _ _ _ _ _ _ us hl => match us, hl with | [_, _], _ => rfl
theorem dfLawCanEnd (X : K.In h) (G : h.Ns mainGlobals mg) (c : He.SaysD fa fn K) : Nonempty (Df K mg "_law_can_end" sLawCanEnd ["_law_base", "_law_text_here"]) := by
  obtain ⟨fd, F⟩ := c.def_ 34 (d := hLawCanEnd) rfl
  exact df_of F (He.glo_ok X G (c.fact 34 (f := .glo "_law_can_end") rfl)) fun _ _ _ _ _ _ us hl => match us, hl with | [_, _], _ => rfl
theorem dfLawText (X : K.In h) (G : h.Ns mainGlobals mg) (c : He.SaysD fa fn K) : Nonempty (Df K mg "_law_text" sLawText ["_law_bag_here", "_law_row_here", "_law_most"]) := by
  obtain ⟨fd, F⟩ := c.def_ 35 (d := hLawText) rfl
  exact df_of F (He.glo_ok X G (c.fact 35 (f := .glo "_law_text") rfl)) fun _ _ _ _ _ _ us hl => match us, hl with | [_, _, _], _ => rfl
theorem dfLawWish (X : K.In h) (G : h.Ns mainGlobals mg) (c : He.SaysD fa fn K) : Nonempty (Df K mg "_law_wish" sLawWish ["_law_bag_here"]) := by
  obtain ⟨fd, F⟩ := c.def_ 36 (d := hLawWish) rfl
  exact df_of F (He.glo_ok X G (c.fact 36 (f := .glo "_law_wish") rfl)) fun _ _ _ _ _ _ us hl => match us, hl with | [_], _ => rfl
theorem dfLawApart (X : K.In h) (G : h.Ns mainGlobals mg) (c : He.SaysD fa fn K) : Nonempty (Df K mg "_law_apart" sLawApart ["_law_told", "_law_lines"]) := by
  obtain ⟨fd, F⟩ := c.def_ 37 (d := hLawApart) rfl
  exact df_of F (He.glo_ok X G (c.fact 37 (f := .glo "_law_apart") rfl)) fun _ _ _ _ _ _ us hl => match us, hl with | [_, _], _ => rfl
theorem dfLawTablesRight (X : K.In h) (G : h.Ns mainGlobals mg) (c : He.SaysD fa fn K) : Nonempty (Df K mg "_law_tables_right" sLawTablesRight ["_law_bag_here", "_law_row_here", "_law_text_here", "_law_lines", "_law_able"]) := by
  obtain ⟨fd, F⟩ := c.def_ 38 (d := hLawTablesRight) rfl
  exact df_of F (He.glo_ok X G (c.fact 38 (f := .glo "_law_tables_right") rfl)) fun _ _ _ _ _ _ us hl => match us, hl with | [_, _, _, _, _], _ => rfl
theorem dfLawRight (X : K.In h) (G : h.Ns mainGlobals mg) (c : He.SaysD fa fn K) : Nonempty (Df K mg "_law_right" sLawRight ["_law_bag_here", "_law_row_here", "_law_text_here"]) := by
  obtain ⟨fd, F⟩ := c.def_ 39 (d := hLawRight) rfl
  exact df_of F (He.glo_ok X G (c.fact 39 (f := .glo "_law_right") rfl)) fun _ _ _ _ _ _ us hl => match us, hl with | [_, _, _], _ => rfl
theorem dfLaw (X : K.In h) (G : h.Ns mainGlobals mg) (c : He.SaysD fa fn K) : Nonempty (Df K mg "law" sLaw ["_law_script"]) := by
  obtain ⟨fd, F⟩ := c.def_ 40 (d := hLaw) rfl
  exact df_of F (He.glo_ok X G (c.fact 40 (f := .glo "law") rfl)) fun _ _ _ _ _ _ us hl => match us, hl with | [_], _ => rfl
theorem tx_of (X : K.In h) (G : h.Ns mainGlobals mg) (c : He.SaysD fa fn K) : Nonempty (Tx0 K mg) := by
  obtain ⟨xIsInteger⟩ := dfIsInteger X G c
  obtain ⟨xIsBetween⟩ := dfIsBetween X G c
  obtain ⟨xIsStory⟩ := dfIsStory X G c
  obtain ⟨xMade⟩ := dfMade X G c
  obtain ⟨xBaseStories⟩ := dfBaseStories X G c
  obtain ⟨xFinalRow⟩ := dfFinalRow X G c
  obtain ⟨xPartsOf⟩ := dfPartsOf X G c
  obtain ⟨xLongerOf⟩ := dfLongerOf X G c
  obtain ⟨xBeginnings⟩ := dfBeginnings X G c
  obtain ⟨xBeginningCalls⟩ := dfBeginningCalls X G c
  obtain ⟨xMirrored⟩ := dfMirrored X G c
  obtain ⟨xBegins⟩ := dfBegins X G c
  obtain ⟨xEnds⟩ := dfEnds X G c
  obtain ⟨xAreLines⟩ := dfAreLines X G c
  obtain ⟨xAreAscending⟩ := dfAreAscending X G c
  obtain ⟨xAreParts⟩ := dfAreParts X G c
  obtain ⟨xAreClosed⟩ := dfAreClosed X G c
  obtain ⟨xShowsNoEnd⟩ := dfShowsNoEnd X G c
  obtain ⟨xLawBag⟩ := dfLawBag X G c
  obtain ⟨xLawTake⟩ := dfLawTake X G c
  obtain ⟨xLawAlike⟩ := dfLawAlike X G c
  obtain ⟨xLawAnyWord⟩ := dfLawAnyWord X G c
  obtain ⟨xLawRow⟩ := dfLawRow X G c
  obtain ⟨xLawCalled⟩ := dfLawCalled X G c
  obtain ⟨xLawStory⟩ := dfLawStory X G c
  obtain ⟨xLawMade⟩ := dfLawMade X G c
  obtain ⟨xLawLetter⟩ := dfLawLetter X G c
  obtain ⟨xLawPiece⟩ := dfLawPiece X G c
  obtain ⟨xLawLast⟩ := dfLawLast X G c
  obtain ⟨xLawCloses⟩ := dfLawCloses X G c
  obtain ⟨xLawIsStory⟩ := dfLawIsStory X G c
  obtain ⟨xLawBases⟩ := dfLawBases X G c
  obtain ⟨xLawFollows⟩ := dfLawFollows X G c
  obtain ⟨xLawCan⟩ := dfLawCan X G c
  obtain ⟨xLawCanEnd⟩ := dfLawCanEnd X G c
  obtain ⟨xLawText⟩ := dfLawText X G c
  obtain ⟨xLawWish⟩ := dfLawWish X G c
  obtain ⟨xLawApart⟩ := dfLawApart X G c
  obtain ⟨xLawTablesRight⟩ := dfLawTablesRight X G c
  obtain ⟨xLawRight⟩ := dfLawRight X G c
  obtain ⟨xLaw⟩ := dfLaw X G c
  have b_abs : mg "abs" = none := He.free_ok X G (c.fact 41 (f := .free "abs") rfl)
  have b_all : mg "all" = none := He.free_ok X G (c.fact 42 (f := .free "all") rfl)
  have b_any : mg "any" = none := He.free_ok X G (c.fact 43 (f := .free "any") rfl)
  have b_bool : mg "bool" = none := He.free_ok X G (c.fact 44 (f := .free "bool") rfl)
  have b_int : mg "int" = none := He.free_ok X G (c.fact 45 (f := .free "int") rfl)
  have b_isinstance : mg "isinstance" = none := He.free_ok X G (c.fact 46 (f := .free "isinstance") rfl)
  have b_len : mg "len" = none := He.free_ok X G (c.fact 47 (f := .free "len") rfl)
  have b_list : mg "list" = none := He.free_ok X G (c.fact 48 (f := .free "list") rfl)
  have b_min : mg "min" = none := He.free_ok X G (c.fact 49 (f := .free "min") rfl)
  have b_range : mg "range" = none := He.free_ok X G (c.fact 50 (f := .free "range") rfl)
  have b_repr : mg "repr" = none := He.free_ok X G (c.fact 51 (f := .free "repr") rfl)
  have b_sorted : mg "sorted" = none := He.free_ok X G (c.fact 52 (f := .free "sorted") rfl)
  have b_str : mg "str" = none := He.free_ok X G (c.fact 53 (f := .free "str") rfl)
  have b_tuple : mg "tuple" = none := He.free_ok X G (c.fact 54 (f := .free "tuple") rfl)
  have b_zip : mg "zip" = none := He.free_ok X G (c.fact 55 (f := .free "zip") rfl)
  have bm : ∃ t, mg "MOST_CALLS" = some (.int 64 t) := He.int_ok X G (c.fact 56 (f := .int "MOST_CALLS" 64) rfl)
  exact ⟨⟨xIsInteger, xIsBetween, xIsStory, xMade, xBaseStories, xFinalRow, xPartsOf, xLongerOf, xBeginnings, xBeginningCalls, xMirrored, xBegins, xEnds, xAreLines, xAreAscending, xAreParts, xAreClosed, xShowsNoEnd, xLawBag, xLawTake, xLawAlike, xLawAnyWord, xLawRow, xLawCalled, xLawStory, xLawMade, xLawLetter, xLawPiece, xLawLast, xLawCloses, xLawIsStory, xLawBases, xLawFollows, xLawCan, xLawCanEnd, xLawText, xLawWish, xLawApart, xLawTablesRight, xLawRight, xLaw, b_abs, b_all, b_any, b_bool, b_int, b_isinstance, b_len, b_list, b_min, b_range, b_repr, b_sorted, b_str, b_tuple, b_zip, bm⟩⟩
theorem bind_law (T : Tx0 K mg) (s : Shared) (v : Value) : BindsTo s T.dLaw.fd ⟨[v], []⟩ [("_law_script", v)] :=
  FunD.bindsA (ps := ["_law_script"]) T.dLaw.F (fun _ _ _ _ _ _ us hl => match us, hl with | [_], _ => rfl) s [v] rfl
end
end Ow
set_option Elab.async false
set_option linter.all false
set_option maxRecDepth 100000
set_option maxHeartbeats 4000000
namespace Ow
open PySem PySem.Spec PyProof.Rows L2 OwR OwM
/-! ### values and heaps -/
abbrev nV (n : Nat) : V := .int (n : Int)
def oV : Option OwM.Tx → V
  | none => .non
  | some l => sV l
def oN : Option Nat → V
  | none => .non
  | some c => nV c
def dKv (es : List (OwM.Tx × Option Nat)) : List (Key × V) := es.map fun e => (Sum.inr (tS e.1), oN e.2)
/-- all but these is as it was -/
def KeptBut (S : List Addr) (H H' : Hp) : Prop := ∀ a o, a ∉ S → H a = some o → H' a = some o
theorem KeptBut.refl (S : List Addr) (H : Hp) : KeptBut S H H := fun _ _ _ h => h
theorem KeptBut.trans {S : List Addr} {H H1 H2 : Hp} (a : KeptBut S H H1) (b : KeptBut S H1 H2) : KeptBut S H H2 := fun c o n h => b c o n (a c o n h)
theorem KeptBut.of {S : List Addr} {H H' : Hp} (a : Same H H') : KeptBut S H H' := fun c o _ h => a c o h
theorem same_upd {H : Hp} {p : Addr} {o : HO} (h : H p = none) : Same H (upd H p o) := fun b x e => by
  rw [upd_ne (ne_of_none e h)]
  exact e
theorem same_upd2 {H H' : Hp} {p : Addr} {o : HO} (s : Same H H') (h : H p = none) : Same H (upd H' p o) := fun b x e => by
  rw [upd_ne (ne_of_none e h)]
  exact s _ _ e
theorem kept_upd {S : List Addr} {H H' : Hp} {p : Addr} {o : HO} (s : KeptBut S H H') (h : p ∈ S) : KeptBut S H (upd H' p o) := fun b x n e => by
  rw [upd_ne (fun z => n (by rw [z]; exact h))]
  exact s _ _ n e
theorem kept_new {S : List Addr} {H H' : Hp} {p : Addr} {o : HO} (s : KeptBut S H H') (h : H p = none) : KeptBut S H (upd H' p o) := fun b x n e => by
  rw [upd_ne (ne_of_none e h)]
  exact s _ _ n e
theorem same_at {K : PySem.W.Frag} {H : Hp} {a : Addr} {xs : List V} (h : H a = some (.lst xs)) : SqL K H a xs := .inl (.inl h)
theorem tup_at {K : PySem.W.Frag} {H : Hp} {a : Addr} {xs : List V} (h : H a = some (.tup xs)) : SqT K H a xs := .inl (.inl h)
/-- new lists of places, each its own -/
def Sts (H H' : Hp) (bs : List Addr) (ss : List (List Nat)) : Prop := bs.length = ss.length ∧ bs.Nodup ∧ ∀ (i : Nat) b s, bs[i]? = some b → ss[i]? = some s → H b = none ∧ H' b = some (.lst (s.map nV))
/-- lines of a table, as they are read -/
def Ln (H : Hp) (v : V) (l : List Nat × List OwM.Tx) : Prop := ∃ tu s p, v = .ref tu ∧ H tu = some (.tup [.ref s, .ref p]) ∧ H s = some (.lst (l.1.map nV)) ∧ H p = some (.lst (l.2.map sV))
abbrev Lns (H : Hp) : List V → List (List Nat × List OwM.Tx) → Prop := Paired (Ln H)
/-- lines just made: tu, s, p of each; all lists apart -/
def Tbl (H H' : Hp) (rs : List (Addr × Addr × Addr)) (ls : List (List Nat × List OwM.Tx)) : Prop :=
  rs.length = ls.length ∧ (rs.map (·.2.1)).Nodup ∧ (rs.map (·.2.2)).Nodup ∧ (∀ s ∈ rs.map (·.2.1), ∀ p ∈ rs.map (·.2.2), s ≠ p) ∧
    ∀ (i : Nat) tu s p st ps, rs[i]? = some (tu, s, p) → ls[i]? = some (st, ps) → H tu = none ∧ H' tu = some (.tup [.ref s, .ref p]) ∧ H s = none ∧ H' s = some (.lst (st.map nV)) ∧ H p = none ∧ H' p = some (.lst (ps.map sV))
/-- the base rows with their stories -/
def Bs (r : OwM.Tx) (H : Hp) (v : V) (s : List Nat) : Prop := ∃ tu a, v = .ref tu ∧ H tu = some (.tup [.ref a, sV (follow r s)]) ∧ H a = some (.lst (s.map nV))
/-- the bag from which the law draws -/
def BagOk (H : Hp) (b bc : Addr) : Prop := ∃ (x0 x1 x2 : Int) (ns : List Int), H b = some (.lst [.int x0, .int x1, .int x2, .ref bc]) ∧ H bc = some (.lst (ns.map V.int)) ∧ 0 ≤ x0 ∧ 0 ≤ x1 ∧ x1 < 2147483647 ∧ 0 ≤ x2 ∧ (∀ n ∈ ns, 0 ≤ n) ∧ ns.length ≤ 63
/-! ### the promises -/
section
variable (K : PySem.W.Frag)
def spIsInteger : Sp := fun vs H Q _ => ∃ n : Int, vs = [.int n] ∧ Q (.bl true) H
def spIsBetween : Sp := fun vs H Q _ => ∃ n lo hi : Int, vs = [.int n, .int lo, .int hi] ∧ lo ≤ n ∧ n ≤ hi ∧ Q (.bl true) H
def spIsStory : Sp := fun vs H Q _ => ∃ (last : Nat) (ns : List Nat) (a : Addr), vs = [nV last, .ref a] ∧ SqL K H a (ns.map nV) ∧ IsStory last ns ∧ ns.length ≤ 64 ∧ Q (.bl true) H
def spMade : Sp := fun vs H Q _ => ∃ (r : OwM.Tx) (p : Nat), vs = [sV r, nV p] ∧ p < r.length ∧ r.length ≤ 100000 ∧ Q (sV (call r p)) H
def spBaseStories : Sp := fun vs H Q _ => ∃ (r : OwM.Tx) (n : Nat), vs = [sV r, nV n] ∧ 2 ≤ r.length ∧ r.length ≤ 100 ∧ n ≤ 12 ∧
  ∀ H' p bs, Same H H' → H p = none → H' p = some (.lst (bs.map V.ref)) → Sts H H' bs (stories (r.length - 1) n) → Q (.ref p) H'
def spFinalRow : Sp := fun vs H Q _ => ∃ (r : OwM.Tx) (ps : List Nat) (a : Addr), vs = [sV r, .ref a] ∧ SqL K H a (ps.map nV) ∧ r ≠ [] ∧ IsStory (r.length - 1) ps ∧ lastOf (r.length - 1) ps ≤ 10000 ∧ Q (sV (follow r ps)) H
def spPartsOf : Sp := fun vs H Q _ => ∃ t : OwM.Tx, vs = [sV t] ∧ t.length ≤ 40 ∧ ∀ H' p ps, PartsOk t ps → Same H H' → H p = none → H' p = some (.lst (ps.map sV)) → Q (.ref p) H'
def spLongerOf : Sp := fun vs H Q _ => ∃ (p : OwM.Tx) (c : Nat), vs = [sV p, nV c] ∧ p.length ≤ 100000 ∧ Q (oV (longer p c)) H
def spBeginnings : Sp := fun vs H Q _ => ∃ b t : OwM.Tx, vs = [sV b, sV t] ∧ t.length ≤ 40 ∧ b.length ≤ 100000 ∧
  ∀ H' p es, FoundOk b t es → Same H H' → H p = none → H' p = some (.dK (dKv es)) → Q (.ref p) H'
def spBeginningCalls : Sp := fun vs H Q _ => ∃ (b t p : OwM.Tx) (es : List (OwM.Tx × Option Nat)) (a : Addr), vs = [.ref a, sV p] ∧ H a = some (.dK (dKv es)) ∧ FoundOk b t es ∧ p ∈ es.map (·.1) ∧ t.length ≤ b.length - 1 ∧ t.length ≤ 40 ∧ b ≠ [] ∧
  ∀ H' q cs, Same H H' → H q = none → H' q = some (.lst (cs.map nV)) → Good b cs p → cs.length ≤ p.length → Q (.ref q) H'
def spMirrored : Sp := fun vs H Q _ => ∃ (last : Nat) (cs : List Nat) (a : Addr), vs = [nV last, .ref a] ∧ SqL K H a (cs.map nV) ∧ IsStory last cs ∧ cs.length ≤ 64 ∧
  ∀ H' q, Same H H' → H q = none → H' q = some (.lst ((mirror last cs).map nV)) → Q (.ref q) H'
def spBegins : Sp := fun vs H Q _ => ∃ r t : OwM.Tx, vs = [sV r, sV t] ∧ 2 ≤ r.length ∧ r.length ≤ 100 ∧ 1 ≤ t.length ∧ t.length ≤ 12 ∧
  ∀ H' q x, Same H H' → H q = none → H' q = some (.tup [.str (if ableB r t = true then "story" else "never"), x]) → Q (.ref q) H'
def spEnds : Sp := fun vs H Q _ => ∃ r t : OwM.Tx, vs = [sV r, sV t] ∧ 2 ≤ r.length ∧ r.length ≤ 100 ∧ 1 ≤ t.length ∧ t.length ≤ 12 ∧
  (ableE r t = true → ∀ H' q c ns, Same H H' → H q = none → H' q = some (.tup [.str "story", .ref c]) → H c = none → H' c = some (.lst (ns.map nV)) → EndsOk r t ns → Q (.ref q) H') ∧
  (ableE r t = false → ∀ H' q c rs ls, Same H H' → H q = none → H' q = some (.tup [.str "never", .ref c]) → H c = none → H' c = some (.lst (rs.map fun x => V.ref x.1)) → Tbl H H' rs ls → Lines r t ls → Q (.ref q) H')
def spAreLines : Sp := fun vs H Q _ => ∃ (r t : OwM.Tx) (a : Addr) (xs : List V) (ls : List (List Nat × List OwM.Tx)), vs = [sV r, sV t, .ref a, .int 2] ∧ 2 ≤ r.length ∧ r.length ≤ 100 ∧ t.length ≤ 12 ∧ H a = some (.lst xs) ∧ Lns H xs ls ∧ ls.map (·.1) = stories (r.length - 1) t.length ∧
  ∀ H', Same H H' → Q (.bl true) H'
def spAreAscending : Sp := fun vs H Q _ => ∃ (a : Addr) (ps : List OwM.Tx), vs = [.ref a] ∧ H a = some (.lst (ps.map sV)) ∧ Asc ps ∧ ps.length ≤ 100000 ∧ (∀ p ∈ ps, p.length ≤ 64) ∧ ∀ H', Same H H' → Q (.bl true) H'
def spAreParts : Sp := fun vs H Q _ => ∃ (t : OwM.Tx) (a : Addr) (ps : List OwM.Tx), vs = [sV t, .ref a] ∧ H a = some (.lst (ps.map sV)) ∧ PartsIn t ps ∧ t.length ≤ 40 ∧ ps.length ≤ 100000 ∧ ∀ H', Same H H' → Q (.bl true) H'
def spAreClosed : Sp := fun vs H Q _ => ∃ (b t : OwM.Tx) (a : Addr) (ps : List OwM.Tx), vs = [sV b, sV t, .ref a] ∧ H a = some (.lst (ps.map sV)) ∧ t.length ≤ 40 ∧ b.length ≤ 100000 ∧
  ∀ H' (k : Bool), Same H H' → (k = true ↔ Closed b t ps) → Q (.bl k) H'
def spShowsNoEnd : Sp := fun vs H Q _ => ∃ (r t : OwM.Tx) (a : Addr) (xs : List V) (ls : List (List Nat × List OwM.Tx)), vs = [sV r, sV t, .ref a] ∧ 2 ≤ r.length ∧ r.length ≤ 100 ∧ t.length ≤ 12 ∧ H a = some (.lst xs) ∧ Lns H xs ls ∧ ls.map (·.1) = stories (r.length - 1) t.length ∧ (∀ l ∈ ls, PartsIn t l.2) ∧
  ∀ H' (k : Bool), Same H H' → (k = true ↔ ∀ l ∈ ls, Closed (follow r l.1).reverse t.reverse (l.2.map List.reverse)) → Q (.bl k) H'
def spLawBag : Sp := fun vs H Q _ => ∃ (a : Addr) (ns : List Int), vs = [.ref a] ∧ SqL K H a (ns.map V.int) ∧ ns.length ≤ 63 ∧ ∀ H' b bc, Same H H' → H b = none → H bc = none → BagOk H' b bc → Q (.ref b) H'
def spLawTake : Sp := fun vs H Q _ => ∃ (b bc : Addr) (m : Nat), vs = [.ref b, nV m] ∧ 1 ≤ m ∧ m ≤ 1000000 ∧ BagOk H b bc ∧ ∀ H' (v : Nat), v < m → BagOk H' b bc → KeptBut [b] H H' → Q (nV v) H'
def spLawAlike : Sp := fun vs H Q _ => ∃ (x y : V) (d : PyData), vs = [x, y] ∧ Dp K H x d ∧ Dp K H y d ∧ ((∃ b, x = .bl b) ∨ ∃ a, x = .ref a) ∧ ((∃ b, y = .bl b) ∨ ∃ a, y = .ref a) ∧ SeqAt.shaped d = true ∧ d.showable = true ∧ d.hasDict = false ∧ d.depth ≤ 32 ∧ d.shown.length ≤ sizeLine ∧ Q (.bl true) H
def spLawAnyWord : Sp := fun vs H Q _ => ∃ (b bc : Addr) (m : Nat), vs = [.ref b, nV m] ∧ 1 ≤ m ∧ m ≤ 100 ∧ BagOk H b bc ∧ ∀ H' (w : OwM.Tx), Lo w → 1 ≤ w.length → w.length ≤ m → BagOk H' b bc → KeptBut [b] H H' → Q (sV w) H'
def spLawRow : Sp := fun vs H Q _ => ∃ (b bc : Addr) (m : Nat), vs = [.ref b, nV m] ∧ 2 ≤ m ∧ m ≤ 100 ∧ BagOk H b bc ∧ ∀ H' (w : OwM.Tx), Lo w → 2 ≤ w.length → w.length ≤ m → BagOk H' b bc → KeptBut [b] H H' → Q (sV w) H'
def spLawCalled : Sp := fun vs H Q _ => ∃ (r : OwM.Tx) (p : Nat), vs = [sV r, nV p] ∧ p < r.length ∧ r.length ≤ 100000 ∧ Q (sV (call r p)) H
def spLawStory : Sp := fun vs H Q _ => ∃ (b bc : Addr) (last n : Nat), vs = [.ref b, nV last, nV n] ∧ BagOk H b bc ∧ last ≤ 1000 ∧ n ≤ 4 ∧
  ∀ H' q ps, BagOk H' b bc → KeptBut [b] H H' → H q = none → H' q = some (.lst (ps.map nV)) → IsStory last ps → ps.length = n → Q (.ref q) H'
def spLawMade : Sp := fun vs H Q _ => ∃ (r : OwM.Tx) (ps : List Nat) (a : Addr), vs = [sV r, .ref a] ∧ SqL K H a (ps.map nV) ∧ r ≠ [] ∧ IsStory (r.length - 1) ps ∧ lastOf (r.length - 1) ps ≤ 10000 ∧ Q (sV (follow r ps)) H
def spLawLetter : Sp := fun vs H Q _ => ∃ (r : OwM.Tx) (ns : List Nat) (a : Addr) (i x : Nat), vs = [sV r, .ref a, nV i] ∧ SqL K H a (ns.map nV) ∧ r ≠ [] ∧ r.length ≤ 100000 ∧ IsStory (r.length - 1) ns ∧ ns.length ≤ 64 ∧ (follow r ns)[i]? = some x ∧ ∀ H', Same H H' → Q (sV [x]) H'
def spLawPiece : Sp := fun vs H Q _ => ∃ (r : OwM.Tx) (ns : List Nat) (a : Addr) (i j : Nat), vs = [sV r, .ref a, nV i, nV j] ∧ SqL K H a (ns.map nV) ∧ r ≠ [] ∧ r.length ≤ 100000 ∧ IsStory (r.length - 1) ns ∧ ns.length ≤ 40 ∧ i ≤ j ∧ j ≤ (follow r ns).length ∧ j ≤ i + 64 ∧ ∀ H', Same H H' → Q (sV (((follow r ns).drop i).take (j - i))) H'
def spLawLast : Sp := fun vs H Q _ => ∃ (r : OwM.Tx) (ns : List Nat) (a : Addr), vs = [sV r, .ref a] ∧ SqL K H a (ns.map nV) ∧ r ≠ [] ∧ r.length ≤ 100000 ∧ ns.length ≤ 64 ∧ Q (nV (lastOf (r.length - 1) ns)) H
def spLawCloses : Sp := fun vs H Q _ => ∃ (r t : OwM.Tx) (ns : List Nat) (a : Addr), vs = [sV r, .ref a, sV t] ∧ SqL K H a (ns.map nV) ∧ r ≠ [] ∧ r.length ≤ 100 ∧ t.length ≤ 12 ∧ EndsOk r t ns ∧ ∀ H', Same H H' → Q (.bl true) H'
def spLawIsStory : Sp := fun vs H Q _ => ∃ (r : OwM.Tx) (ns : List Nat) (a : Addr), vs = [sV r, .ref a] ∧ SqL K H a (ns.map nV) ∧ r.length ≤ 100000 ∧ IsStory (r.length - 1) ns ∧ ns.length ≤ 40 ∧ r ≠ [] ∧ Q (.bl true) H
def spLawBases : Sp := fun vs H Q _ => ∃ (r : OwM.Tx) (n : Nat), vs = [sV r, nV n] ∧ 2 ≤ r.length ∧ r.length ≤ 100 ∧ n ≤ 12 ∧
  ∀ H' p xs, Same H H' → H p = none → H' p = some (.lst xs) → Paired (Bs r H') xs (stories (r.length - 1) n) → Q (.ref p) H'
def spLawFollows : Sp := fun vs H Q _ => ∃ (p : OwM.Tx) (ks : List OwM.Tx) (a : Addr), vs = [sV p, .ref a] ∧ H a = some (.lst (ks.map sV)) ∧ p.length ≤ 64 ∧ ∀ H' (k : Bool), Same H H' → (k = true ↔ Follows ks p) → Q (.bl k) H'
def spLawCan : Sp := fun vs H Q _ => ∃ b t : OwM.Tx, vs = [sV b, sV t] ∧ t.length ≤ 40 ∧ b.length ≤ 100000 ∧ ∀ H' p ks, Same H H' → H p = none → H' p = some (.lst (ks.map sV)) → IsCans b t ks → Q (.ref p) H'
def spLawCanEnd : Sp := fun vs H Q _ => ∃ b t : OwM.Tx, vs = [sV b, sV t] ∧ t.length ≤ 40 ∧ b.length ≤ 100000 ∧ ∀ H' p ks, Same H H' → H p = none → H' p = some (.lst (ks.map sV)) → IsCansE b t ks → Q (.ref p) H'
def spLawText : Sp := fun vs H Q _ => ∃ (b bc : Addr) (r : OwM.Tx) (m : Nat), vs = [.ref b, sV r, nV m] ∧ 1 ≤ m ∧ m ≤ 12 ∧ 2 ≤ r.length ∧ r.length ≤ 100 ∧ Lo r ∧ BagOk H b bc ∧ ∀ H' (t : OwM.Tx), Lo t → 1 ≤ t.length → t.length ≤ m → BagOk H' b bc → KeptBut [b] H H' → Q (sV t) H'
def spLawWish : Sp := fun vs H Q _ => ∃ b bc : Addr, vs = [.ref b] ∧ BagOk H b bc ∧ ∀ H' q r t, Lo r → Lo t → 2 ≤ r.length → r.length ≤ 100 → 1 ≤ t.length → t.length ≤ 12 → BagOk H' b bc → KeptBut [b] H H' → H q = none → H' q = some (.tup [sV r, sV t]) → Q (.ref q) H'
def spLawApart : Sp := fun vs H Q _ => ∃ (a c : Addr) (rs : List (Addr × Addr × Addr)) (ys : List V) (ls : List (List Nat × List OwM.Tx)) (H0 : Hp), vs = [.ref a, .ref c] ∧ H a = some (.lst (rs.map fun x => V.ref x.1)) ∧ H c = some (.lst ys) ∧ Tbl H0 H rs ls ∧ Lns H0 ys ls ∧ Same H0 H ∧ (∀ l ∈ ls, l.1.length ≤ 64 ∧ l.2.length ≤ 100000 ∧ ∀ p ∈ l.2, Lo p) ∧ ls.length ≤ 100000 ∧
  ∀ H', KeptBut (rs.map (·.2.1) ++ rs.map (·.2.2)) H H' → Q (.bl true) H'
def spLawTablesRight : Sp := fun vs H Q _ => ∃ (b bc a : Addr) (r t : OwM.Tx) (xs : List V) (ls : List (List Nat × List OwM.Tx)) (k : Bool), vs = [.ref b, sV r, sV t, .ref a, .bl k] ∧ Lo t ∧ BagOk H b bc ∧ 2 ≤ r.length ∧ r.length ≤ 100 ∧ 1 ≤ t.length ∧ t.length ≤ 12 ∧ H a = some (.lst xs) ∧ Lns H xs ls ∧ Lines r t ls ∧ k = ableE r t ∧
  ∀ H', BagOk H' b bc → KeptBut [b] H H' → Q (.bl true) H'
def spLawRight : Sp := fun vs H Q _ => ∃ (b bc : Addr) (r t : OwM.Tx), vs = [.ref b, sV r, sV t] ∧ Lo t ∧ BagOk H b bc ∧ 2 ≤ r.length ∧ r.length ≤ 100 ∧ 1 ≤ t.length ∧ t.length ≤ 12 ∧
  ∀ H', BagOk H' b bc → KeptBut [b] H H' → Q (.bl true) H'
def spLaw : Sp := fun vs H Q _ => ∃ (a : Addr) (ns : List Int), vs = [.ref a] ∧ SqL K H a (ns.map V.int) ∧ ns.length ≤ 63 ∧ ∀ H', Q (.bl true) H'
end
end Ow
set_option Elab.async false
set_option linter.all false
set_option maxRecDepth 100000
set_option maxHeartbeats 4000000
namespace Ow
open PySem PySem.Spec PyProof.Rows L2 OwR OwM
theorem big_line : 1000000 < sizeLine := by decide
theorem len_ok {l : OwM.Tx} (h : l.length ≤ 100000) : (tS l).length ≤ sizeLine := by
  rw [tS_len]
  exact Nat.le_trans h (Nat.le_of_lt (Nat.lt_of_le_of_lt (by decide) big_line))
theorem cat_ok {l m : OwM.Tx} {a b : Nat} (hl : l.length ≤ a) (hm : m.length ≤ b) (h : a + b ≤ 1000000) : (tS l).length + (tS m).length ≤ sizeLine := by
  rw [tS_len, tS_len]
  have := big_line
  omega
theorem tyx_seq {K : PySem.W.Frag} {H : Hp} {a : Addr} {xs : List V} (h : SqL K H a xs) : TyX K H (.ref a) (.type "list") := by
  rcases h with (h | ⟨o, h⟩) | ⟨o, its, n, h1, h2, _⟩
  · exact .base (.lst h)
  · exact .base (.frz h)
  · exact .kList h1 h2
theorem cutE_to (l : OwM.Tx) (n : Nat) : V.str (cutS (tS l) none (some (n : Int))) = sV (l.take n) := congrArg V.str (cut_to l n)
theorem cutE_from (l : OwM.Tx) (n : Nat) : V.str (cutS (tS l) (some (n : Int)) none) = sV (l.drop n) := congrArg V.str (cut_from l n)
theorem cutE_mid (l : OwM.Tx) (n m : Nat) : V.str (cutS (tS l) (some (n : Int)) (some (m : Int))) = sV ((l.drop n).take (m - n)) := congrArg V.str (cut_mid l n m)
theorem take_nV {ps : List Nat} {i : Nat} {x : V} (h : (ps.map nV)[i]? = some x) : ∃ p, ps[i]? = some p ∧ x = nV p ∧ i < ps.length := by
  rw [List.getElem?_map] at h
  cases e : ps[i]? with
  | none =>
    rw [e] at h
    cases h
  | some p =>
    rw [e] at h
    exact ⟨p, rfl, (Option.some.inj h).symm, (List.getElem?_eq_some_iff.mp e).1⟩
theorem take_sV {ps : List OwM.Tx} {i : Nat} {x : V} (h : (ps.map sV)[i]? = some x) : ∃ p, ps[i]? = some p ∧ x = sV p ∧ i < ps.length := by
  rw [List.getElem?_map] at h
  cases e : ps[i]? with
  | none =>
    rw [e] at h
    cases h
  | some p =>
    rw [e] at h
    exact ⟨p, rfl, (Option.some.inj h).symm, (List.getElem?_eq_some_iff.mp e).1⟩
theorem take_next {α : Type} {l : List α} {i : Nat} {x : α} (h : l[i]? = some x) : l.take (i + 1) = l.take i ++ [x] := by
  rw [List.take_add_one, h]
  rfl
/-! ### stories, one place at a time -/
theorem story_at {last : Nat} {ps : List Nat} {i p : Nat} (h : IsStory last ps) (e : ps[i]? = some p) : p ≤ lastOf last (ps.take i) := by
  obtain ⟨hi, e2⟩ := List.getElem?_eq_some_iff.mp e
  have e1 : ps = ps.take i ++ p :: ps.drop (i + 1) := by
    rw [← e2, List.getElem_cons_drop, List.take_append_drop]
  rw [e1] at h
  exact (isStory_app.mp h).2.1
theorem story_take {last : Nat} {ps : List Nat} (i : Nat) (h : IsStory last ps) : IsStory last (ps.take i) := by
  rw [← List.take_append_drop i ps] at h
  exact (isStory_app.mp h).1
theorem last_next {last : Nat} {ps : List Nat} {i p : Nat} (e : ps[i]? = some p) : lastOf last (ps.take (i + 1)) = 2 * lastOf last (ps.take i) := by
  rw [take_next e, lastOf_app]
  show lastOf last (ps.take i) * 2 ^ 1 = _
  omega
theorem last_take (last : Nat) (ps : List Nat) (i : Nat) : lastOf last (ps.take i) ≤ lastOf last ps := by
  conv => rhs; rw [← List.take_append_drop i ps, lastOf_app]
  exact lastOf_ge _ _
theorem follow_next {r : OwM.Tx} {ps : List Nat} {i p : Nat} (e : ps[i]? = some p) : follow r (ps.take (i + 1)) = call (follow r (ps.take i)) p := by
  rw [take_next e, follow_app]
  rfl
theorem join_letters (l : OwM.Tx) : Txt.join (tS []) (l.map fun x => tS [x]) = tS l := by
  have e : (l.map fun x => tS [x]) = (l.map fun x => [x]).map tS := by rw [List.map_map]; rfl
  have f : (l.map fun x => [x]).flatten = l := by
    induction l with
    | nil => rfl
    | cons a l ih =>
      rw [List.map_cons, List.flatten_cons, ih (by rw [List.map_map]; rfl)]
      rfl
  rw [e, join_eq0, f]
theorem letters_sum (l : OwM.Tx) : ((l.map fun x => tS [x]).map fun z => z.length).sum + (l.map fun x => tS [x]).length * (tS []).length = l.length := by
  have e : ((l.map fun x => tS [x]).map fun z => z.length).sum = l.length := by
    induction l with
    | nil => rfl
    | cons a l ih =>
      rw [List.map_cons, List.map_cons, List.sum_cons, ih, tS_len, List.length_cons]
      show 1 + l.length = l.length + 1
      omega
  rw [e, tS_len]
  show l.length + _ * 0 = l.length
  omega
/-! ### loops over lists and small ranges -/
theorem itl_by {K : PySem.W.Frag} {a : Addr} {xs : List V} {H0 : Hp} {Qd : Hp → Prop} {Body : V → Hp → (Hp → Prop) → Prop} (Pv : Nat → Hp → Prop) (h0 : Pv 0 H0) (hl : ∀ i H, i ≤ xs.length → Pv i H → SqL K H a xs)
    (hs : ∀ i x H, xs[i]? = some x → Pv i H → Body x H (Pv (i + 1))) (hd : ∀ H, Pv xs.length H → Qd H) :
    ∃ W : Nat → Nat → Hp → Prop, (∃ m, W 0 m H0) ∧ ∀ i m H, W i m H → ((Itl K a).stop i H ∧ Qd H) ∨ ((Itl K a).go i H ∧ ∃ Nx : Hp → Prop, (∀ H', Nx H' → ∃ m', m' < m ∧ W (i + 1) m' H') ∧ ∀ x H', (Itl K a).yld i H x H' → Body x H' Nx) := by
  refine ⟨fun i m H => m = xs.length - i ∧ i ≤ xs.length ∧ Pv i H, ⟨xs.length, by simp, Nat.zero_le _, h0⟩, ?_⟩
  rintro i m H ⟨rfl, hi, p⟩
  have q := hl i H hi p
  by_cases hlt : i < xs.length
  · refine .inr ⟨⟨xs, xs[i], q, by simp [hlt]⟩, Pv (i + 1), fun H' p' => ⟨xs.length - (i + 1), by omega, rfl, hlt, p'⟩, fun x H' y => ?_⟩
    obtain ⟨e, y⟩ := y
    subst e
    exact hs i x _ (y xs q) p
  · have e : i = xs.length := by omega
    subst e
    exact .inl ⟨⟨xs, q, Nat.le_refl _⟩, hd H p⟩
theorem itr_by {lo : Int} {n : Nat} {H0 : Hp} {Qd : Hp → Prop} {Body : V → Hp → (Hp → Prop) → Prop} (b : Nat) (hb : lo = (b : Int)) (Pv : Nat → Hp → Prop) (h0 : Pv 0 H0)
    (hs : ∀ i H, i < n → Pv i H → Body (nV (i + b)) H (Pv (i + 1))) (hd : ∀ H, Pv n H → Qd H) :
    ∃ W : Nat → Nat → Hp → Prop, (∃ m, W 0 m H0) ∧ ∀ i m H, W i m H → ((Itr lo n).stop i H ∧ Qd H) ∨ ((Itr lo n).go i H ∧ ∃ Nx : Hp → Prop, (∀ H', Nx H' → ∃ m', m' < m ∧ W (i + 1) m' H') ∧ ∀ x H', (Itr lo n).yld i H x H' → Body x H' Nx) := by
  refine ⟨fun i m H => m = n - i ∧ i ≤ n ∧ Pv i H, ⟨n, by simp, Nat.zero_le _, h0⟩, ?_⟩
  rintro i m H ⟨rfl, hi, p⟩
  by_cases hlt : i < n
  · refine .inr ⟨hlt, Pv (i + 1), fun H' p' => ⟨n - (i + 1), by omega, rfl, hlt, p'⟩, fun x H' y => ?_⟩
    obtain ⟨e, y⟩ := y
    subst e y
    have e1 : V.int (lo + (i : Nat)) = nV (i + b) := congrArg V.int (by omega)
    rw [e1]
    exact hs i _ hlt p
  · have e : i = n := by omega
    subst e
    exact .inl ⟨Nat.le_refl _, hd H p⟩
theorem for_rangeN {lo : Int} {n : Nat} {g : TG} {tb : TS} {D : Ends} {σ : L2.St} {H : Hp} (b : Nat) (hb : lo = (b : Int)) (Pv : Nat → L2.St → Hp → Prop) (h0 : Pv 0 σ H)
    (hs : ∀ i σ H, i < n → Pv i σ H → g (nV (i + b)) σ H fun σ2 H2 => tb { D with nx := Pv (i + 1), ct := Pv (i + 1), bk := D.nx } σ2 H2) (hd : ∀ σ H, Pv n σ H → D.nx σ H) :
    ∃ W : Nat → Nat → L2.St → Hp → Prop, (∃ m, W 0 m σ H) ∧ ∀ i m σ H, W i m σ H →
      ((Itr lo n).stop i H ∧ D.nx σ H) ∨ ((Itr lo n).go i H ∧ ∃ N : L2.St → Hp → Prop, (∀ σ' H', N σ' H' → ∃ m', m' < m ∧ W (i + 1) m' σ' H') ∧ ∀ x H', (Itr lo n).yld i H x H' → g x σ H' fun σ2 H2 => tb { D with nx := N, ct := N, bk := D.nx } σ2 H2) := by
  refine for_range Pv h0 (fun i σ H hi p => ?_) hd
  have e1 : V.int (lo + (i : Nat)) = nV (i + b) := congrArg V.int (by omega)
  rw [e1]
  exact hs i σ H hi p
/-! ### new lists of places -/
theorem Sts.mono {H H1 H2 : Hp} {bs : List Addr} {ss : List (List Nat)} (h : Sts H H1 bs ss) (m : ∀ b ∈ bs, ∀ o, H1 b = some o → H2 b = some o) : Sts H H2 bs ss :=
  ⟨h.1, h.2.1, fun i b s e1 e2 => ⟨(h.2.2 i b s e1 e2).1, m b (List.mem_of_getElem? e1) _ (h.2.2 i b s e1 e2).2⟩⟩
theorem Sts.snoc {H H1 : Hp} {bs : List Addr} {ss : List (List Nat)} {q : Addr} {s : List Nat} (h : Sts H H1 bs ss) (hq : H q = none) (hq1 : q ∉ bs) (e : H1 q = some (.lst (s.map nV))) : Sts H H1 (bs ++ [q]) (ss ++ [s]) := by
  refine ⟨by rw [List.length_append, List.length_append, h.1]; rfl, ?_, fun i b s' e1 e2 => ?_⟩
  · rw [List.nodup_append]
    refine ⟨h.2.1, by simp, fun a ha b hb => ?_⟩
    rw [List.mem_singleton] at hb
    subst hb
    exact fun z => hq1 (z ▸ ha)
  · by_cases hi : i < bs.length
    · rw [List.getElem?_append_left hi] at e1
      rw [List.getElem?_append_left (by rw [← h.1]; exact hi)] at e2
      exact h.2.2 i b s' e1 e2
    · rw [List.getElem?_append_right (by omega)] at e1
      rw [List.getElem?_append_right (by rw [← h.1]; omega), ← h.1] at e2
      by_cases hz : i - bs.length = 0
      · rw [hz] at e1 e2
        cases e1
        cases e2
        exact ⟨hq, e⟩
      · rw [List.getElem?_eq_none (by rw [List.length_singleton]; omega)] at e1
        cases e1
theorem Sts.at {H H1 : Hp} {bs : List Addr} {ss : List (List Nat)} (h : Sts H H1 bs ss) {i : Nat} {b : Addr} (e : bs[i]? = some b) : ∃ s, ss[i]? = some s ∧ H b = none ∧ H1 b = some (.lst (s.map nV)) := by
  have hi := (List.getElem?_eq_some_iff.mp e).1
  rw [h.1] at hi
  exact ⟨ss[i], List.getElem?_eq_getElem hi, h.2.2 i b _ e (List.getElem?_eq_getElem hi)⟩
theorem take_ref {ps : List Addr} {i : Nat} {x : V} (h : (ps.map V.ref)[i]? = some x) : ∃ p, ps[i]? = some p ∧ x = .ref p ∧ i < ps.length := by
  rw [List.getElem?_map] at h
  cases e : ps[i]? with
  | none =>
    rw [e] at h
    cases h
  | some p =>
    rw [e] at h
    exact ⟨p, rfl, (Option.some.inj h).symm, (List.getElem?_eq_some_iff.mp e).1⟩
theorem paired_imp {α β : Type} {R S : α → β → Prop} (h : ∀ x y, R x y → S x y) : ∀ {xs : List α} {ys : List β}, Paired R xs ys → Paired S xs ys
  | _, _, .nil => .nil
  | _, _, .cons r t => .cons (h _ _ r) (paired_imp h t)
theorem paired_app {α β : Type} {R : α → β → Prop} : ∀ {xs xs' : List α} {ys ys' : List β}, Paired R xs ys → Paired R xs' ys' → Paired R (xs ++ xs') (ys ++ ys')
  | _, _, _, _, .nil, q => q
  | _, _, _, _, .cons r t, q => .cons r (paired_app t q)
theorem paired_len {α β : Type} {R : α → β → Prop} : ∀ {xs : List α} {ys : List β}, Paired R xs ys → xs.length = ys.length
  | _, _, .nil => rfl
  | _, _, .cons _ t => congrArg (· + 1) (paired_len t)
theorem paired_at {α β : Type} {R : α → β → Prop} : ∀ {xs : List α} {ys : List β} {i : Nat} {x : α}, Paired R xs ys → xs[i]? = some x → ∃ y, ys[i]? = some y ∧ R x y
  | _, _, _, _, .nil, e => by simp at e
  | _, _, 0, _, .cons r _, e => by
    cases e
    exact ⟨_, rfl, r⟩
  | _, _, i + 1, x, .cons _ t, e => by
    obtain ⟨y, h1, h2⟩ := paired_at (i := i) (x := x) t (by simpa using e)
    exact ⟨y, by simpa using h1, h2⟩
theorem Bs.mono {r : OwM.Tx} {H H' : Hp} {v : V} {s : List Nat} (m : Same H H') : Bs r H v s → Bs r H' v s := fun ⟨tu, a, e, e1, e2⟩ => ⟨tu, a, e, m _ _ e1, m _ _ e2⟩
theorem Ln.mono {H H' : Hp} {v : V} {l : List Nat × List OwM.Tx} (m : Same H H') : Ln H v l → Ln H' v l := fun ⟨tu, s, p, e, e1, e2, e3⟩ => ⟨tu, s, p, e, m _ _ e1, m _ _ e2, m _ _ e3⟩
/-! ### texts in lists; sorted lists of texts -/
theorem eqV_tx (a b : OwM.Tx) : eqV (sV a) (sV b) = decide (a = b) := by
  show ((tS a : PySem.Str) == tS b) = decide (a = b)
  by_cases h : a = b
  · rw [h, decide_eq_true rfl]
    exact beq_self_eq_true _
  · rw [decide_eq_false h]
    exact beq_eq_false_iff_ne.mpr fun z => h (tS_inj z)
theorem in_texts (l : OwM.Tx) : ∀ ks : List OwM.Tx, inV (sV l) (ks.map sV) = decide (l ∈ ks)
  | [] => by
    rw [decide_eq_false (List.not_mem_nil)]
    rfl
  | k :: ks => by
    have ih := in_texts l ks
    show (eqV (sV k) (sV l) || inV (sV l) (ks.map sV)) = _
    rw [ih, eqV_tx, Bool.eq_iff_iff, Bool.or_eq_true, decide_eq_true_iff, decide_eq_true_iff, decide_eq_true_iff, List.mem_cons]
    constructor
    · rintro (h | h)
      · exact .inl h.symm
      · exact .inr h
    · rintro (h | h)
      · exact .inl h.symm
      · exact .inr h
theorem in_none : ∀ ks : List OwM.Tx, inV .non (ks.map sV) = false
  | [] => rfl
  | k :: ks => in_none ks
theorem flat_texts (ks : List OwM.Tx) : (ks.map sV).all flatV = true := by
  rw [List.all_eq_true]
  intro x hx
  obtain ⟨k, _, rfl⟩ := List.mem_map.mp hx
  rfl
theorem asc_sort {ks : List OwM.Tx} (nd : ks.Nodup) : Asc (ks.mergeSort leT) := by
  have h := List.pairwise_mergeSort (le := leT) (fun a b c h1 h2 => decide_eq_true (List.le_trans (of_decide_eq_true h1) (of_decide_eq_true h2))) (fun a b => by
    rw [Bool.or_eq_true]
    rcases List.le_total a b with h | h
    · exact .inl (decide_eq_true h)
    · exact .inr (decide_eq_true h)) ks
  have hn : (ks.mergeSort leT).Nodup := (List.mergeSort_perm ks leT).nodup_iff.mpr nd
  exact (h.and hn).imp fun {a b} hab => by
    have h1 : a ≤ b := of_decide_eq_true hab.1
    by_cases z : a < b
    · exact z
    · exact absurd (List.le_antisymm h1 (List.not_lt.mp z)) hab.2
theorem mem_sort {ks : List OwM.Tx} {le : OwM.Tx → OwM.Tx → Bool} {k : OwM.Tx} : k ∈ ks.mergeSort le ↔ k ∈ ks := (List.mergeSort_perm ks le).mem_iff
theorem parts_sort {t : OwM.Tx} {ks : List OwM.Tx} (nd : ks.Nodup) (hm : ∀ k, k ∈ ks ↔ k ≠ [] ∧ k <:+: t) : PartsOk t ((ks.mergeSort leT).mergeSort leN) := by
  refine ⟨(List.mergeSort_perm _ leN).nodup_iff.mpr ((List.mergeSort_perm ks leT).nodup_iff.mpr nd), fun p => ?_, ?_⟩
  · rw [mem_sort, mem_sort]
    exact hm p
  · have h := List.pairwise_mergeSort (le := leN) (fun a b c h1 h2 => decide_eq_true (Nat.le_trans (of_decide_eq_true h1) (of_decide_eq_true h2))) (fun a b => by
      rw [Bool.or_eq_true]
      rcases Nat.le_total a.length b.length with h | h
      · exact .inl (decide_eq_true h)
      · exact .inr (decide_eq_true h)) (ks.mergeSort leT)
    exact h.imp fun {a b} hab => of_decide_eq_true hab
/-! ### the dict of beginnings -/
theorem dKv_keys (es : List (OwM.Tx × Option Nat)) : (dKv es).map (·.1) = (es.map (·.1)).map (fun k => Sum.inr (tS k)) := by
  unfold dKv
  rw [List.map_map, List.map_map]
  rfl
theorem dKv_val {es : List (OwM.Tx × Option Nat)} {k : OwM.Tx} {o : Option Nat} (nd : (es.map (·.1)).Nodup) (h : (k, o) ∈ es) : valV (dKv es) (Sum.inr (tS k)) = some (oN o) := by
  induction es with
  | nil => cases h
  | cons e es ih =>
    rw [List.map_cons, List.nodup_cons] at nd
    show valV ((Sum.inr (tS e.1), oN e.2) :: dKv es) _ = _
    rcases List.mem_cons.mp h with h | h
    · subst h
      exact valV_pos rfl
    · rw [valV_neg (p := (Sum.inr (tS e.1), oN e.2))]
      · exact ih nd.2 h
      · intro z
        have := tS_inj (Sum.inr.inj z)
        exact nd.1 (this ▸ List.mem_map.mpr ⟨_, h, rfl⟩)
theorem dKv_none {es : List (OwM.Tx × Option Nat)} {k : OwM.Tx} (h : k ∉ es.map (·.1)) : valV (dKv es) (Sum.inr (tS k)) = none := by
  induction es with
  | nil => rfl
  | cons e es ih =>
    rw [List.map_cons, List.mem_cons, not_or] at h
    show valV ((Sum.inr (tS e.1), oN e.2) :: dKv es) _ = _
    rw [valV_neg (p := (Sum.inr (tS e.1), oN e.2))]
    · exact ih h.2
    · intro z
      exact h.1 (tS_inj (Sum.inr.inj z)).symm
theorem dKv_has (es : List (OwM.Tx × Option Nat)) (k : OwM.Tx) : (valV (dKv es) (Sum.inr (tS k))).isSome = decide (k ∈ es.map (·.1)) := by
  induction es with
  | nil => exact (decide_eq_false (p := k ∈ ([] : List OwM.Tx)) List.not_mem_nil).symm
  | cons e es ih =>
    show (valV ((Sum.inr (tS e.1), oN e.2) :: dKv es) _).isSome = _
    by_cases h : e.1 = k
    · subst h
      rw [valV_pos (p := (Sum.inr (tS e.1), oN e.2)) rfl, decide_eq_true (by rw [List.map_cons]; exact List.mem_cons_self ..)]
      rfl
    · rw [valV_neg (p := (Sum.inr (tS e.1), oN e.2)) (fun z => h (tS_inj (Sum.inr.inj z))), ih, Bool.eq_iff_iff, decide_eq_true_iff, decide_eq_true_iff, List.map_cons, List.mem_cons]
      exact ⟨.inr, fun z => z.elim (fun y => absurd y.symm h) id⟩
theorem dKv_put {es : List (OwM.Tx × Option Nat)} {k : OwM.Tx} (o : Option Nat) (h : k ∉ es.map (·.1)) : putK (dKv es) (Sum.inr (tS k)) (oN o) = dKv (es ++ [(k, o)]) := by
  unfold putK
  rw [valV_any, dKv_none h]
  unfold dKv
  rw [List.map_append]
  rfl
def slotN (σ : L2.St) (i : Nat) : Nat := match σ[i]? with
  | some (some (V.int l)) => l.toNat
  | _ => 0
theorem int_sub {i j : Nat} (h : j ≤ i) : (i : Int) - (j : Int) = ((i - j : Nat) : Int) := by omega
end Ow
set_option Elab.async false
set_option linter.all false
set_option maxRecDepth 100000
set_option maxHeartbeats 4000000
namespace Ow
open PySem PySem.Spec PyProof.Rows L2 OwR OwM
/-! ### data: numbers, texts, lines -/
abbrev nD (n : Nat) : PyData := .int (n : Int)
abbrev sD (p : OwM.Tx) : PyData := .str (tS p)
theorem dp_nats {K : PySem.W.Frag} {H : Hp} : ∀ ns : List Nat, DpAll K H (ns.map nV) (ns.map nD)
  | [] => .nil
  | n :: ns => .cons (.int _) (dp_nats ns)
theorem dp_texts {K : PySem.W.Frag} {H : Hp} : ∀ ps : List OwM.Tx, DpAll K H (ps.map sV) (ps.map sD)
  | [] => .nil
  | p :: ps => .cons (.str _) (dp_texts ps)
theorem lay_nats : ∀ ns : List Nat, PyData.canLayAll0 (ns.map nD) = true
  | [] => rfl
  | n :: ns => by
    show (PyData.canLay0 (nD n) && PyData.canLayAll0 (ns.map nD)) = true
    rw [lay_nats ns]
    rfl
theorem depth_nats : ∀ ns : List Nat, PyData.depthAll (ns.map nD) = 0
  | [] => rfl
  | n :: ns => by
    show max 0 (PyData.depthAll (ns.map nD)) = 0
    rw [depth_nats ns]
    rfl
theorem strOk_lo {p : OwM.Tx} (h : Lo p) : PyData.strOk (tS p) = true := by
  show (p.toArray.all fun c => decide (c < 0x110000)) = true
  rw [List.all_toArray, List.all_eq_true]
  exact fun c hc => decide_eq_true (h c hc)
theorem lay_texts : ∀ ps : List OwM.Tx, (∀ p ∈ ps, Lo p) → PyData.canLayAll0 (ps.map sD) = true
  | [], _ => rfl
  | p :: ps, h => by
    show (PyData.strOk (tS p) && PyData.canLayAll0 (ps.map sD)) = true
    rw [lay_texts ps fun q hq => h q (List.mem_cons_of_mem _ hq), strOk_lo (h p (List.mem_cons_self ..))]
    rfl
theorem depth_texts : ∀ ps : List OwM.Tx, PyData.depthAll (ps.map sD) = 0
  | [] => rfl
  | p :: ps => by
    show max 0 (PyData.depthAll (ps.map sD)) = 0
    rw [depth_texts ps]
    rfl
theorem shaped_nats (ns : List Nat) : SeqAt.shaped (.list (ns.map nD)) = true := by
  show (PyData.canLayAll0 (ns.map nD) && decide (PyData.depthAll (ns.map nD) + 1 ≤ 64)) = true
  rw [lay_nats, depth_nats]
  rfl
theorem shaped_texts {ps : List OwM.Tx} (h : ∀ p ∈ ps, Lo p) : SeqAt.shaped (.list (ps.map sD)) = true := by
  show (PyData.canLayAll0 (ps.map sD) && decide (PyData.depthAll (ps.map sD) + 1 ≤ 64)) = true
  rw [lay_texts ps h, depth_texts]
  rfl
theorem dp_natL {K : PySem.W.Frag} {H : Hp} {a : Addr} {ns : List Nat} (h : SqL K H a (ns.map nV)) : Dp K H (.ref a) (.list (ns.map nD)) := .lst h (dp_nats ns)
theorem dp_textL {K : PySem.W.Frag} {H : Hp} {a : Addr} {ps : List OwM.Tx} (h : SqL K H a (ps.map sV)) : Dp K H (.ref a) (.list (ps.map sD)) := .lst h (dp_texts ps)
theorem dp_nil {K : PySem.W.Frag} {H : Hp} {a : Addr} (h : SqL K H a []) : Dp K H (.ref a) (.list []) := .lst h .nil
theorem eqv_self (d : PyData) (h : SeqAt.shaped d = true := by first | exact shaped_nats _ | assumption) : PyData.eqv d d = true := SeqAt.eqv_refl d (SeqAt.canLay_of_shaped h)
theorem all_true (n : Nat) : (List.replicate n true).all id = true := by
  rw [List.all_eq_true]
  intro x hx
  rw [List.eq_of_mem_replicate hx]
  rfl
theorem eqv_nil {α : Type} (f : α → PyData) (l : List α) : PyData.eqv (.list (l.map f)) (.list []) = l.isEmpty := by
  cases l with
  | nil => rfl
  | cons a l => rfl
end Ow
set_option Elab.async false
set_option linter.all false
set_option maxRecDepth 100000
set_option maxHeartbeats 4000000
namespace Ow
open PySem PySem.Spec PyProof.Rows L2 OwR OwM
/-! ### more loops -/
theorem itk_by {d : Addr} {o : Obj} {kvs : List (Key × V)} {H0 : Hp} {Qd : Hp → Prop} {Body : V → Hp → (Hp → Prop) → Prop} (Pv : Nat → Hp → Prop) (h0 : Pv 0 H0) (hl : ∀ i H, Pv i H → H d = some (.frz o (.dK kvs)))
    (hs : ∀ i k v H, kvs[i]? = some (k, v) → Pv i H → Body (kV k) H (Pv (i + 1))) (hd : ∀ H, Pv kvs.length H → Qd H) :
    ∃ W : Nat → Nat → Hp → Prop, (∃ m, W 0 m H0) ∧ ∀ i m H, W i m H → ((Itk d o kvs).stop i H ∧ Qd H) ∨ ((Itk d o kvs).go i H ∧ ∃ Nx : Hp → Prop, (∀ H', Nx H' → ∃ m', m' < m ∧ W (i + 1) m' H') ∧ ∀ x H', (Itk d o kvs).yld i H x H' → Body x H' Nx) := by
  refine ⟨fun i m H => m = kvs.length - i ∧ i ≤ kvs.length ∧ Pv i H, ⟨kvs.length, rfl, Nat.zero_le _, h0⟩, ?_⟩
  rintro i m H ⟨rfl, hi, p⟩
  have q := hl i H p
  by_cases hlt : i < kvs.length
  · refine .inr ⟨⟨q, hlt⟩, Pv (i + 1), fun H' p' => ⟨kvs.length - (i + 1), by omega, rfl, hlt, p'⟩, fun x H' y => ?_⟩
    obtain ⟨rfl, k, v, e, rfl⟩ := y
    exact hs i k v _ e p
  · have e : i = kvs.length := by omega
    subst e
    exact .inl ⟨⟨q, Nat.le_refl _⟩, hd H p⟩
/-- zip of two lists, the second no longer than the first -/
theorem itz_by {K : PySem.W.Frag} {a b : Addr} {xs ys : List V} {H0 : Hp} {Qd : Hp → Prop} {Body : V → Hp → (Hp → Prop) → Prop} (hl : ys.length ≤ xs.length) (Pv : Nat → Hp → Prop) (h0 : Pv 0 H0) (hq : ∀ i H, Pv i H → SqL K H a xs ∧ SqL K H b ys)
    (hs : ∀ i x y T H, xs[i]? = some x → ys[i]? = some y → Pv i H → H T = none → Body (.ref T) (upd H T (.tup [x, y])) (Pv (i + 1))) (hd : ∀ H, Pv ys.length H → Qd H) :
    ∃ W : Nat → Nat → Hp → Prop, (∃ m, W 0 m H0) ∧ ∀ i m H, W i m H → ((Itz K a b).stop i H ∧ Qd H) ∨ ((Itz K a b).go i H ∧ ∃ Nx : Hp → Prop, (∀ H', Nx H' → ∃ m', m' < m ∧ W (i + 1) m' H') ∧ ∀ x H', (Itz K a b).yld i H x H' → Body x H' Nx) := by
  refine ⟨fun i m H => m = ys.length - i ∧ i ≤ ys.length ∧ Pv i H, ⟨ys.length, rfl, Nat.zero_le _, h0⟩, ?_⟩
  rintro i m H ⟨rfl, hi, p⟩
  obtain ⟨qx, qy⟩ := hq i H p
  by_cases hlt : i < ys.length
  · have hlt2 : i < xs.length := by omega
    have hx : xs[i]? = some xs[i] := List.getElem?_eq_getElem hlt2
    have hy : ys[i]? = some ys[i] := List.getElem?_eq_getElem hlt
    refine .inr ⟨⟨xs, ys, _, _, qx, qy, hx, hy⟩, Pv (i + 1), fun H' p' => ⟨ys.length - (i + 1), by omega, rfl, hlt, p'⟩, fun v H' y => ?_⟩
    obtain ⟨T, x', y', rfl, hT, rfl, f1, f2⟩ := y
    exact hs i x' y' T H (f1 xs qx) (f2 ys qy) p hT
  · have e : i = ys.length := by omega
    subst e
    exact .inl ⟨⟨xs, ys, qx, qy, Or.inr (Nat.le_refl _)⟩, hd H p⟩
/-! ### heaps but for one thing -/
theorem KeptBut.same {o : Addr} {H H1 H2 : Hp} (k : KeptBut [o] H1 H2) (s : Same H H1) (no : H o = none) : Same H H2 := fun c x e => k c x (fun z => by
  rw [List.mem_singleton] at z
  subst z
  rw [no] at e
  cases e) (s c x e)
theorem KeptBut.at {o c : Addr} {x : HO} {H1 H2 : Hp} (k : KeptBut [o] H1 H2) (n : c ≠ o) (e : H1 c = some x) : H2 c = some x := k c x (fun z => n (List.mem_singleton.mp z)) e
theorem KeptBut.new {o : Addr} {H H1 : Hp} {x : HO} (k : KeptBut [o] H H1) : KeptBut [o] H (upd H1 o x) := kept_upd k (List.mem_singleton.mpr rfl)
theorem KeptBut.free {S : List Addr} {H H' : Hp} (k : KeptBut S H H') {l : Addr} (hl : l ∉ S) (h : H' l = none) : H l = none := by
  cases q : H l with
  | none => rfl
  | some o =>
    rw [k l o hl q] at h
    cases h
theorem KeptBut.then {S : List Addr} {H H1 H2 : Hp} (k : KeptBut S H H1) (s : Same H1 H2) : KeptBut S H H2 := k.trans (.of s)
/-! ### tables as they grow -/
theorem Tbl.snoc {H H' : Hp} {rs : List (Addr × Addr × Addr)} {ls : List (List Nat × List OwM.Tx)} {tu s p : Addr} {st : List Nat} {ps : List OwM.Tx} (h : Tbl H H' rs ls)
    (h1 : H tu = none) (h2 : H' tu = some (.tup [.ref s, .ref p])) (h3 : H s = none) (h4 : H' s = some (.lst (st.map nV))) (h5 : H p = none) (h6 : H' p = some (.lst (ps.map sV)))
    (n1 : s ∉ rs.map (·.2.1)) (n2 : p ∉ rs.map (·.2.2)) (n3 : ∀ x ∈ rs.map (·.2.2), s ≠ x) (n4 : ∀ x ∈ rs.map (·.2.1), x ≠ p) (n5 : s ≠ p) : Tbl H H' (rs ++ [(tu, s, p)]) (ls ++ [(st, ps)]) := by
  obtain ⟨a1, a2, a3, a4, a5⟩ := h
  have m1 : (rs ++ [(tu, s, p)]).map (·.2.1) = rs.map (·.2.1) ++ [s] := by
    rw [List.map_append]
    rfl
  have m2 : (rs ++ [(tu, s, p)]).map (·.2.2) = rs.map (·.2.2) ++ [p] := by
    rw [List.map_append]
    rfl
  have nd : ∀ {l : List Addr} {x : Addr}, l.Nodup → x ∉ l → (l ++ [x]).Nodup := fun {l x} hl hx => by
    rw [List.nodup_append]
    refine ⟨hl, by simp, fun a ha c hc => ?_⟩
    rw [List.mem_singleton] at hc
    subst hc
    exact fun z => hx (z ▸ ha)
  refine ⟨by rw [List.length_append, List.length_append, a1]; rfl, ?_, ?_, ?_, ?_⟩
  · rw [m1]
    exact nd a2 n1
  · rw [m2]
    exact nd a3 n2
  · rw [m1, m2]
    intro x hx y hy
    rcases List.mem_append.mp hx with hx | hx <;> rcases List.mem_append.mp hy with hy | hy
    · exact a4 x hx y hy
    · rw [List.mem_singleton] at hy
      subst hy
      exact n4 x hx
    · rw [List.mem_singleton] at hx
      subst hx
      exact n3 y hy
    · rw [List.mem_singleton] at hx hy
      subst hx hy
      exact n5
  · intro i tu' s' p' st' ps' e1 e2
    by_cases hi : i < rs.length
    · rw [List.getElem?_append_left hi] at e1
      rw [List.getElem?_append_left (by rw [← a1]; exact hi)] at e2
      exact a5 i _ _ _ _ _ e1 e2
    · rw [List.getElem?_append_right (by omega)] at e1
      rw [List.getElem?_append_right (by rw [← a1]; omega), ← a1] at e2
      by_cases hz : i - rs.length = 0
      · rw [hz] at e1 e2
        cases e1
        cases e2
        exact ⟨h1, h2, h3, h4, h5, h6⟩
      · rw [List.getElem?_eq_none (by rw [List.length_singleton]; omega)] at e1
        cases e1
theorem Tbl.at {H H' : Hp} {rs : List (Addr × Addr × Addr)} {ls : List (List Nat × List OwM.Tx)} (h : Tbl H H' rs ls) {i : Nat} {tu s p : Addr} (e : rs[i]? = some (tu, s, p)) :
    ∃ st ps, ls[i]? = some (st, ps) ∧ H tu = none ∧ H' tu = some (.tup [.ref s, .ref p]) ∧ H s = none ∧ H' s = some (.lst (st.map nV)) ∧ H p = none ∧ H' p = some (.lst (ps.map sV)) := by
  have hi := (List.getElem?_eq_some_iff.mp e).1
  rw [h.1] at hi
  exact ⟨ls[i].1, ls[i].2, List.getElem?_eq_getElem hi, h.2.2.2.2 i _ _ _ _ _ e (List.getElem?_eq_getElem hi)⟩
theorem Tbl.mono {H H1 H2 : Hp} {rs : List (Addr × Addr × Addr)} {ls : List (List Nat × List OwM.Tx)} (h : Tbl H H1 rs ls) (m : ∀ r ∈ rs, ∀ c, c = r.1 ∨ c = r.2.1 ∨ c = r.2.2 → ∀ x, H1 c = some x → H2 c = some x) : Tbl H H2 rs ls := by
  refine ⟨h.1, h.2.1, h.2.2.1, h.2.2.2.1, fun i tu s p st ps e1 e2 => ?_⟩
  obtain ⟨b1, b2, b3, b4, b5, b6⟩ := h.2.2.2.2 i tu s p st ps e1 e2
  have hm := m _ (List.mem_of_getElem? e1)
  exact ⟨b1, hm tu (.inl rfl) _ b2, b3, hm s (.inr (.inl rfl)) _ b4, b5, hm p (.inr (.inr rfl)) _ b6⟩
theorem Tbl.lns {H H' : Hp} : ∀ {rs : List (Addr × Addr × Addr)} {ls : List (List Nat × List OwM.Tx)}, Tbl H H' rs ls → Lns H' (rs.map fun x => V.ref x.1) ls
  | [], [], _ => .nil
  | [], _ :: _, h => by cases h.1
  | _ :: _, [], h => by cases h.1
  | (tu, s, p) :: rs, (st, ps) :: ls, h => by
    obtain ⟨a1, a2, a3, a4, a5⟩ := h
    obtain ⟨b1, b2, b3, b4, b5, b6⟩ := a5 0 tu s p st ps rfl rfl
    refine .cons ⟨tu, s, p, rfl, b2, b4, b6⟩ (Tbl.lns ⟨Nat.succ.inj a1, (List.nodup_cons.mp a2).2, (List.nodup_cons.mp a3).2, fun x hx y hy => a4 x (List.mem_cons_of_mem _ hx) y (List.mem_cons_of_mem _ hy), fun i tu' s' p' st' ps' e1 e2 => a5 (i + 1) _ _ _ _ _ e1 e2⟩)
end Ow
set_option Elab.async false
set_option linter.all false
set_option maxRecDepth 100000
set_option maxHeartbeats 4000000
namespace Ow
open PySem PySem.Spec PyProof.Rows L2 OwR OwM
/-! ### tables as data -/
abbrev Li := List Nat × List OwM.Tx
def lineD (l : Li) : PyData := .tuple [.list (l.1.map nD), .list (l.2.map sD)]
def tblD (ls : List Li) : PyData := .list (ls.map lineD)
def nevD (ls : List Li) : PyData := .tuple [.str "never", tblD ls]
structure Fit (l : Li) : Prop where
  nums : ∀ n ∈ l.1, n < 200
  len : l.1.length ≤ 13
  lo : ∀ p ∈ l.2, Lo p
  tx : ∀ p ∈ l.2, p.length ≤ 12
  few : l.2.length ≤ 150
theorem dp_line {K : PySem.W.Frag} {H : Hp} {v : V} {l : Li} (h : Ln H v l) : Dp K H v (lineD l) := by
  obtain ⟨tu, s, p, rfl, e1, e2, e3⟩ := h
  exact .tup (tup_at e1) (.cons (dp_natL (same_at e2)) (.cons (dp_textL (same_at e3)) .nil))
theorem dp_lines {K : PySem.W.Frag} {H : Hp} : ∀ {xs : List V} {ls : List Li}, Lns H xs ls → DpAll K H xs (ls.map lineD)
  | _, _, .nil => .nil
  | _, _, .cons a b => .cons (dp_line a) (dp_lines b)
theorem dp_tbl {K : PySem.W.Frag} {H : Hp} {a : Addr} {xs : List V} {ls : List Li} (h : SqL K H a xs) (hl : Lns H xs ls) : Dp K H (.ref a) (tblD ls) := .lst h (dp_lines hl)
theorem dp_nev {K : PySem.W.Frag} {H : Hp} {q a : Addr} {xs : List V} {ls : List Li} (hq : SqT K H q [.str "never", .ref a]) (h : SqL K H a xs) (hl : Lns H xs ls) : Dp K H (.ref q) (nevD ls) := .tup hq (.cons (.str _) (.cons (dp_tbl h hl) .nil))
theorem all_of {f : PyData → Bool} {g : List PyData → Bool} (h0 : g [] = true) (h1 : ∀ x xs, g (x :: xs) = (f x && g xs)) : ∀ {xs : List PyData}, (∀ x ∈ xs, f x = true) → g xs = true
  | [], _ => h0
  | x :: xs, h => by
    rw [h1, h x (List.mem_cons_self ..), all_of h0 h1 fun y hy => h y (List.mem_cons_of_mem _ hy)]
    rfl
theorem layAll_of {xs : List PyData} (h : ∀ x ∈ xs, PyData.canLay0 x = true) : PyData.canLayAll0 xs = true := all_of (f := PyData.canLay0) rfl (fun _ _ => rfl) h
theorem showAll_of {xs : List PyData} (h : ∀ x ∈ xs, PyData.showable x = true) : PyData.showableAll xs = true := all_of (f := PyData.showable) rfl (fun _ _ => rfl) h
theorem shortAll_of {xs : List PyData} (h : ∀ x ∈ xs, PyData.intsShort 13 x = true) : PyData.intsShortAll 13 xs = true := all_of (f := PyData.intsShort 13) rfl (fun _ _ => rfl) h
theorem depthAll_of {n : Nat} : ∀ {xs : List PyData}, (∀ x ∈ xs, PyData.depth x ≤ n) → PyData.depthAll xs ≤ n
  | [], _ => Nat.zero_le _
  | x :: xs, h => by
    show max (PyData.depth x) (PyData.depthAll xs) ≤ n
    have h1 := h x (List.mem_cons_self ..)
    have h2 := depthAll_of (n := n) (xs := xs) fun y hy => h y (List.mem_cons_of_mem _ hy)
    omega
theorem weightAll_of {n : Nat} : ∀ {xs : List PyData}, (∀ x ∈ xs, PyData.weight x ≤ n) → PyData.weightAll xs ≤ (n + 1) * xs.length
  | [], _ => Nat.zero_le _
  | x :: xs, h => by
    show PyData.weight x + 1 + PyData.weightAll xs ≤ (n + 1) * (xs.length + 1)
    have h1 := h x (List.mem_cons_self ..)
    have h2 := weightAll_of (n := n) (xs := xs) fun y hy => h y (List.mem_cons_of_mem _ hy)
    rw [Nat.mul_add, Nat.mul_one]
    omega
theorem nat_short : ∀ n < 200, PyData.intsShort 13 (nD n) = true ∧ PyData.showable (nD n) = true ∧ PyData.weight (nD n) ≤ 8 := by decide +kernel
section
variable {l : Li}
theorem canLay_line (h : ∀ p ∈ l.2, Lo p) : PyData.canLay0 (lineD l) = true := by
  show (PyData.canLayAll0 (l.1.map nD) && (PyData.canLayAll0 (l.2.map sD) && true)) = true
  rw [lay_nats, lay_texts l.2 h]
  rfl
theorem depth_line (l : Li) : PyData.depth (lineD l) ≤ 2 := by
  show max (PyData.depthAll (l.1.map nD) + 1) (max (PyData.depthAll (l.2.map sD) + 1) 0) + 1 ≤ 2
  rw [depth_nats, depth_texts]
  decide
theorem show_line (h : Fit l) : PyData.showable (lineD l) = true := by
  show (PyData.showableAll (l.1.map nD) && (PyData.showableAll (l.2.map sD) && true)) = true
  rw [showAll_of, showAll_of]
  · rfl
  · intro x hx
    obtain ⟨p, _, rfl⟩ := List.mem_map.mp hx
    rfl
  · intro x hx
    obtain ⟨n, hn, rfl⟩ := List.mem_map.mp hx
    exact (nat_short n (h.nums n hn)).2.1
theorem short_line (h : Fit l) : PyData.intsShort 13 (lineD l) = true := by
  show (PyData.intsShortAll 13 (l.1.map nD) && (PyData.intsShortAll 13 (l.2.map sD) && true)) = true
  rw [shortAll_of, shortAll_of]
  · rfl
  · intro x hx
    obtain ⟨p, _, rfl⟩ := List.mem_map.mp hx
    rfl
  · intro x hx
    obtain ⟨n, hn, rfl⟩ := List.mem_map.mp hx
    exact (nat_short n (h.nums n hn)).1
theorem weight_line (h : Fit l) : PyData.weight (lineD l) ≤ 3000 := by
  show (PyData.weightAll (l.1.map nD)) + 1 + ((PyData.weightAll (l.2.map sD)) + 1 + 0) ≤ 3000
  have h1 : PyData.weightAll (l.1.map nD) ≤ (8 + 1) * (l.1.map nD).length := weightAll_of fun x hx => by
    obtain ⟨n, hn, rfl⟩ := List.mem_map.mp hx
    exact (nat_short n (h.nums n hn)).2.2
  have h2 : PyData.weightAll (l.2.map sD) ≤ (12 + 1) * (l.2.map sD).length := weightAll_of fun x hx => by
    obtain ⟨p, hp, rfl⟩ := List.mem_map.mp hx
    show (tS p).length ≤ 12
    rw [tS_len]
    exact h.tx p hp
  rw [List.length_map] at h1 h2
  have h3 := h.len
  have h4 := h.few
  omega
end
section
variable {ls : List Li}
theorem canLay_tbl (h : ∀ l ∈ ls, ∀ p ∈ l.2, Lo p) : PyData.canLay0 (tblD ls) = true := by
  show PyData.canLayAll0 (ls.map lineD) = true
  refine layAll_of fun x hx => ?_
  obtain ⟨l, hl, rfl⟩ := List.mem_map.mp hx
  exact canLay_line (h l hl)
theorem depth_tbl (ls : List Li) : PyData.depth (tblD ls) ≤ 3 := by
  show PyData.depthAll (ls.map lineD) + 1 ≤ 3
  have := depthAll_of (n := 2) (xs := ls.map lineD) fun x hx => by
    obtain ⟨l, hl, rfl⟩ := List.mem_map.mp hx
    exact depth_line l
  omega
theorem shaped_tbl (h : ∀ l ∈ ls, ∀ p ∈ l.2, Lo p) : SeqAt.shaped (tblD ls) = true := by
  have h1 := depth_tbl ls
  show (PyData.canLay0 (tblD ls) && decide (PyData.depth (tblD ls) ≤ 64)) = true
  rw [canLay_tbl h, decide_eq_true (by omega)]
  rfl
theorem depth_nev (ls : List Li) : PyData.depth (nevD ls) ≤ 4 := by
  show max 0 (max (PyData.depth (tblD ls)) 0) + 1 ≤ 4
  have := depth_tbl ls
  omega
theorem canLay_nev (h : ∀ l ∈ ls, ∀ p ∈ l.2, Lo p) : PyData.canLay0 (nevD ls) = true := by
  show (PyData.strOk ("never" : PySem.Str) && (PyData.canLay0 (tblD ls) && true)) = true
  rw [canLay_tbl h]
  decide +kernel
theorem shaped_nev (h : ∀ l ∈ ls, ∀ p ∈ l.2, Lo p) : SeqAt.shaped (nevD ls) = true := by
  have h1 := depth_nev ls
  show (PyData.canLay0 (nevD ls) && decide (PyData.depth (nevD ls) ≤ 64)) = true
  rw [canLay_nev h, decide_eq_true (by omega)]
  rfl
theorem nev_ok (h : ∀ l ∈ ls, Fit l) (hl : ls.length ≤ 270) : SeqAt.shaped (nevD ls) = true ∧ (nevD ls).showable = true ∧ (nevD ls).hasDict = false ∧ (nevD ls).depth ≤ 32 ∧ (nevD ls).shown.length ≤ sizeLine := by
  have hlo : ∀ l ∈ ls, ∀ p ∈ l.2, Lo p := fun l hl => (h l hl).lo
  have hs : (nevD ls).intsShort 13 = true := by
    show (true && (PyData.intsShortAll 13 (ls.map lineD) && true)) = true
    rw [shortAll_of]
    · rfl
    · intro x hx
      obtain ⟨l, hl, rfl⟩ := List.mem_map.mp hx
      exact short_line (h l hl)
  have hw : (nevD ls).weight ≤ 2 ^ 20 := by
    have h1 : PyData.weightAll (ls.map lineD) ≤ (3000 + 1) * (ls.map lineD).length := weightAll_of fun x hx => by
      obtain ⟨l, hl, rfl⟩ := List.mem_map.mp hx
      exact weight_line (h l hl)
    rw [List.length_map] at h1
    show 5 + 1 + (PyData.weightAll (ls.map lineD) + 1 + 0) ≤ 2 ^ 20
    have e : (2 : Nat) ^ 20 = 1048576 := by decide
    omega
  refine ⟨shaped_nev hlo, ?_, PyData.hasDict_of_canLay _ (canLay_nev hlo), Nat.le_trans (depth_nev ls) (by decide), PyData.shown_fits (B := 13) (by decide) (by decide) (PyData.leavesShort_of_canLay0 13 _ (canLay_nev hlo) hs) hw⟩
  show (true && (PyData.showableAll (ls.map lineD) && true)) = true
  rw [showAll_of]
  · rfl
  · intro x hx
    obtain ⟨l, hl, rfl⟩ := List.mem_map.mp hx
    exact show_line (h l hl)
end
theorem story_small {last : Nat} : ∀ {ps : List Nat}, IsStory last ps → ∀ p ∈ ps, p ≤ lastOf last ps
  | _, hs, p, hp => by
    obtain ⟨i, e⟩ := List.getElem?_of_mem hp
    exact Nat.le_trans (story_at hs e) (last_take _ _ _)
theorem cans_few {b t : OwM.Tx} {ks : List OwM.Tx} (h : IsCansE b t ks) (ht : t.length ≤ 12) : ks.length ≤ 144 := by
  have h1 := nodup_parts (asc_nodup h.1) fun k hk => ⟨((h.2 k).mp hk).1, ((h.2 k).mp hk).2.1⟩
  have h2 : t.length * t.length ≤ 12 * 12 := Nat.mul_le_mul ht ht
  omega
theorem Lines.fit {r t : OwM.Tx} {ls : List Li} (h : Lines r t ls) (ht : Lo t) (h2 : 2 ≤ r.length) (hr : r.length ≤ 100) (htl : t.length ≤ 12) : (∀ l ∈ ls, Fit l) ∧ ls.length ≤ 270 := by
  constructor
  · intro l hl
    have hs : l.1 ∈ stories (r.length - 1) t.length := by
      rw [← h.1]
      exact List.mem_map.mpr ⟨l, hl, rfl⟩
    obtain ⟨f1, f2, f3, f4⟩ := story_facts hs (by omega)
    have hc := h.2 l hl
    refine ⟨fun n hn => ?_, by omega, fun p hp => ht.infix ((hc.2 p).mp hp).2.1, fun p hp => ?_, ?_⟩
    · have := story_small f1 n hn
      omega
    · have := infix_le ((hc.2 p).mp hp).2.1
      omega
    · have := cans_few hc htl
      omega
  · have e := congrArg List.length h.1
    rw [List.length_map] at e
    have := stories_len (last := r.length - 1) (by omega) htl
    omega
end Ow
set_option Elab.async false
set_option linter.all false
set_option maxRecDepth 100000
set_option maxHeartbeats 4000000
namespace Ow
open PySem PySem.Spec PyProof.Rows L2 OwR OwM
section
variable {X : Cx} {K : PySem.W.Frag}
theorem op_in_seqK (h : X.K = K) : OpR X (compareOp .In) (rIn K false) := by
  subst h
  exact op_in_seq
theorem call_isiK (h : X.K = K) : CallR X (.builtin "isinstance") (rIsi K) := by
  subst h
  exact call_isi
theorem ix_listK (h : X.K = K) : IxR X (rIxL K) := by
  subst h
  exact ix_list
theorem pg_tupK {es : List Expr} {k : Nat} {t : TGs} {n : Nat} {pos : Pos} (h : X.K = K) (hc : X.calm = true) (hs : PGs X es t) (hn : (assignEach es X.env).length = n := by rfl) (hst : (assignEach es X.env).findIdx? (·.1) = none := by rfl) : PG X (.Tuple es k pos) (gTup K n t) := by
  subst h
  exact pg_tup hc hs hn hst
theorem pi_listK {tg e : Expr} {te : TE} (h : X.K = K) (he : PE X e te) : PI X tg e (iList K te) := by
  subst h
  exact pi_list he
theorem pa_starK {e : Expr} {es : List Expr} {te : TE} {t : TA} {p : Pos} (h : X.K = K) (he : PE X e te) (hr : PA X es t) (hs : starEach (.Starred e p :: es) X.env = (true, eval e X.env) :: starEach es X.env := by rfl) : PA X (.Starred e p :: es) (StX.tStar K te t) := by
  subst h
  exact StX.pa_star he hr hs
end
end Ow
set_option Elab.async false
set_option linter.all false
set_option maxRecDepth 100000
set_option maxHeartbeats 4000000
namespace Ow
open PySem PySem.Spec PyProof.Rows L2 OwR OwM
/-- a statement, then whatever holds of its end -/
theorem seq_rest {t u : TS} {D : Ends} {σ : L2.St} {H : Hp} (P : L2.St → Hp → Prop) (h2 : ∀ σ' H', P σ' H' → u D σ' H') (h1 : ∀ R : L2.St → Hp → Prop, (∀ σ' H', P σ' H' → R σ' H') → t { D with nx := R } σ H) : tSeq t u D σ H := h1 (u D) h2
theorem seq_name {v : V} {i : Nat} {u : TS} {D : Ends} {σ : L2.St} {H : Hp} (h : u D (σ.set i (some v)) H) : tSeq (tAsg (tC v) (gName i)) u D σ H := h
theorem seq_asg {te : TE} {g : TG} {u : TS} {D : Ends} {σ : L2.St} {H : Hp} (h : te σ H fun x H1 => g x σ H1 (u D)) : tSeq (tAsg te g) u D σ H := h
end Ow
namespace Ow
open PySem PySem.Spec PyProof.Rows L2 OwR OwM
theorem BagOk.ne {H : Hp} {b bc : Addr} (h : BagOk H b bc) : bc ≠ b := fun z => by
  obtain ⟨x0, x1, x2, ns, eb, ec, _⟩ := h
  rw [z] at ec eb
  have e := Option.some.inj (ec.symm.trans eb)
  injection e with e
  have hm : V.ref b ∈ ns.map V.int := by
    rw [e]
    simp
  obtain ⟨n, _, z⟩ := List.mem_map.mp hm
  cases z
theorem BagOk.mono {H H' : Hp} {b bc : Addr} (h : BagOk H b bc) (m1 : ∀ x, H b = some x → H' b = some x) (m2 : ∀ x, H bc = some x → H' bc = some x) : BagOk H' b bc := by
  obtain ⟨x0, x1, x2, ns, e1, e2, r⟩ := h
  exact ⟨x0, x1, x2, ns, m1 _ e1, m2 _ e2, r⟩
theorem BagOk.same {H H' : Hp} {b bc : Addr} (h : BagOk H b bc) (m : Same H H') : BagOk H' b bc := h.mono (fun _ => m _ _) fun _ => m _ _
theorem BagOk.new {H : Hp} {b bc p : Addr} {o : HO} (h : BagOk H b bc) (n : H p = none) : BagOk (upd H p o) b bc := h.same (same_upd n)
theorem BagOk.free {H : Hp} {b bc p : Addr} (h : BagOk H b bc) (n : H p = none) : b ≠ p ∧ bc ≠ p := by
  obtain ⟨x0, x1, x2, ns, e1, e2, _⟩ := h
  exact ⟨ne_of_none e1 n, ne_of_none e2 n⟩
theorem BagOk.put {H : Hp} {b bc p : Addr} {o : HO} (h : BagOk H b bc) (n : b ≠ p ∧ bc ≠ p) : BagOk (upd H p o) b bc := h.mono (fun x e => by rw [upd_ne n.1]; exact e) fun x e => by rw [upd_ne n.2]; exact e
/-! ### the letters -/
def alpha : OwM.Tx := (List.range 26).map (97 + ·)
theorem alpha_eq : ("abcdefghijklmnopqrstuvwxyz" : PySem.Str) = tS alpha := by decide +kernel
theorem alpha_lo : Lo alpha := by
  intro c hc
  obtain ⟨i, hi, rfl⟩ := List.mem_map.mp hc
  have := List.mem_range.mp hi
  show 97 + i < 1114112
  omega
theorem alpha_len : alpha.length = 26 := by decide
theorem _root_.OwM.Lo.take {t : OwM.Tx} (h : Lo t) (n : Nat) : Lo (t.take n) := h.sub fun _ hc => List.mem_of_mem_take hc
theorem _root_.OwM.Lo.drop {t : OwM.Tx} (h : Lo t) (n : Nat) : Lo (t.drop n) := h.sub fun _ hc => List.mem_of_mem_drop hc
theorem _root_.OwM.Lo.dropLast {t : OwM.Tx} (h : Lo t) : Lo t.dropLast := h.sub fun _ hc => (List.dropLast_sublist t).subset hc
theorem _root_.OwM.Lo.one {c : Nat} (h : c < 1114112) : Lo [c] := fun x hx => by
  rw [List.mem_singleton] at hx
  subst hx
  exact h
theorem _root_.OwM.Lo.rep {t : OwM.Tx} (h : Lo t) (n : Nat) : Lo (List.replicate n t).flatten := fun c hc => by
  obtain ⟨l, hl, hc⟩ := List.mem_flatten.mp hc
  rw [List.eq_of_mem_replicate hl] at hc
  exact h c hc
theorem rep_len (t : OwM.Tx) (n : Nat) : (List.replicate n t).flatten.length = n * t.length := by
  rw [List.length_flatten, List.map_replicate, List.sum_replicate_nat]
/-- one sign of a text -/
theorem ix_tx {t : OwM.Tx} {i c : Nat} (h : t[i]? = some c) : atI (tS t).cps.toList (i : Int) = some c := by
  rw [tS_list]
  exact atI_nat h
theorem one_tx (c : Nat) : V.str ⟨#[c]⟩ = sV [c] := rfl
theorem get_mem {t : OwM.Tx} {i : Nat} (h : i < t.length) : ∃ c, t[i]? = some c ∧ c ∈ t := ⟨t[i], List.getElem?_eq_getElem h, List.getElem_mem h⟩
theorem int_add (i j : Nat) : V.int ((i : Int) + (j : Int)) = nV (i + j) := congrArg V.int (by omega)
theorem filter_next {α : Type} {l : List α} {p : α → Bool} {i : Nat} {x : α} (h : l[i]? = some x) : (l.take (i + 1)).filter p = (l.take i).filter p ++ if p x = true then [x] else [] := by
  rw [List.take_add_one, h, List.filter_append]
  show _ ++ List.filter p [x] = _
  rw [List.filter_cons, List.filter_nil]
/-- over the signs of a text -/
theorem its_by {t : OwM.Tx} {H0 : Hp} {Qd : Hp → Prop} {Body : V → Hp → (Hp → Prop) → Prop} (Pv : Nat → Hp → Prop) (h0 : Pv 0 H0)
    (hs : ∀ i c H, t[i]? = some c → Pv i H → Body (sV [c]) H (Pv (i + 1))) (hd : ∀ H, Pv t.length H → Qd H) :
    ∃ W : Nat → Nat → Hp → Prop, (∃ m, W 0 m H0) ∧ ∀ i m H, W i m H → ((Its (tS t)).stop i H ∧ Qd H) ∨ ((Its (tS t)).go i H ∧ ∃ Nx : Hp → Prop, (∀ H', Nx H' → ∃ m', m' < m ∧ W (i + 1) m' H') ∧ ∀ x H', (Its (tS t)).yld i H x H' → Body x H' Nx) := by
  refine ⟨fun i m H => m = t.length - i ∧ i ≤ t.length ∧ Pv i H, ⟨t.length, by simp, Nat.zero_le _, h0⟩, ?_⟩
  rintro i m H ⟨rfl, hi, p⟩
  have hz : (tS t).cps.size = t.length := tS_len t
  by_cases hlt : i < t.length
  · refine .inr ⟨by show i < (tS t).cps.size; omega, Pv (i + 1), fun H' p' => ⟨t.length - (i + 1), by omega, rfl, hlt, p'⟩, fun x H' y => ?_⟩
    obtain ⟨e, c, ec, rfl⟩ := y
    subst e
    refine hs i c _ ?_ p
    rw [← ec]
    show _ = t.toArray[i]?
    rw [List.getElem?_toArray]
  · have e : i = t.length := by omega
    subst e
    exact .inl ⟨by show (tS t).cps.size ≤ t.length; omega, hd H p⟩
theorem one_eq (c d : Nat) : decide (sV [c] = sV [d]) = decide (c = d) := by
  by_cases h : c = d
  · rw [h]
    simp
  · rw [decide_eq_false h, decide_eq_false]
    intro z
    have := tS_inj (V.str.inj z)
    exact h (List.cons.inj this).1
theorem cutE_last (l : OwM.Tx) : V.str (cutS (tS l) none (some (-1))) = sV l.dropLast := congrArg V.str (cut_last l)
theorem two_ix {x y : Nat} (c : Bool) : ∃ z, (z = x ∨ z = y) ∧ atI [nV x, nV y] (if c = true then 1 else 0) = some (nV z) := by
  cases c
  · exact ⟨x, .inl rfl, rfl⟩
  · exact ⟨y, .inr rfl, rfl⟩
theorem paired_of {α β : Type} {R : α → β → Prop} : ∀ {xs : List α} {ys : List β}, xs.length = ys.length → (∀ (j : Nat) x y, xs[j]? = some x → ys[j]? = some y → R x y) → Paired R xs ys
  | [], [], _, _ => .nil
  | x :: xs, y :: ys, hl, h => .cons (h 0 x y rfl rfl) (paired_of (Nat.succ.inj hl) fun j x' y' e1 e2 => h (j + 1) x' y' e1 e2)
  | [], _ :: _, hl, _ => by cases hl
  | _ :: _, [], hl, _ => by cases hl
theorem paired_drop {α β : Type} {R : α → β → Prop} : ∀ {xs : List α} {ys : List β} (n : Nat), Paired R xs ys → Paired R (xs.drop n) (ys.drop n)
  | _, _, 0, h => h
  | _, _, _ + 1, .nil => .nil
  | _, _, n + 1, .cons _ t => paired_drop n t
abbrev zz : OwM.Tx := [122, 122]
theorem zz_eq : ("zz" : PySem.Str) = tS zz := by decide +kernel
theorem zz_lo : Lo zz := fun c hc => by
  rcases List.mem_cons.mp hc with rfl | hc
  · decide
  · rw [List.mem_singleton] at hc
    subst hc
    decide
/-- as Ln, away from q -/
def LnX (q : Addr) (H : Hp) (v : V) (l : List Nat × List OwM.Tx) : Prop := ∃ tu s p, v = .ref tu ∧ tu ≠ q ∧ s ≠ q ∧ p ≠ q ∧ H tu = some (.tup [.ref s, .ref p]) ∧ H s = some (.lst (l.1.map nV)) ∧ H p = some (.lst (l.2.map sV))
theorem LnX.mono {q : Addr} {H H' : Hp} {v : V} {l : List Nat × List OwM.Tx} (m : ∀ c o, c ≠ q → H c = some o → H' c = some o) : LnX q H v l → LnX q H' v l := fun ⟨tu, s, p, e, n1, n2, n3, e1, e2, e3⟩ => ⟨tu, s, p, e, n1, n2, n3, m _ _ n1 e1, m _ _ n2 e2, m _ _ n3 e3⟩
theorem LnX.ln {q : Addr} {H : Hp} {v : V} {l : List Nat × List OwM.Tx} : LnX q H v l → Ln H v l := fun ⟨tu, s, p, e, _, _, _, e1, e2, e3⟩ => ⟨tu, s, p, e, e1, e2, e3⟩
theorem LnX.new {q : Addr} {H : Hp} {v : V} {l : List Nat × List OwM.Tx} (n : H q = none) : Ln H v l → LnX q H v l := fun ⟨tu, s, p, e, e1, e2, e3⟩ => ⟨tu, s, p, e, ne_of_none e1 n, ne_of_none e2 n, ne_of_none e3 n, e1, e2, e3⟩
theorem BagOk.tup {H : Hp} {b bc c : Addr} {xs : List V} (h : BagOk H b bc) (e : H c = some (.tup xs)) : c ≠ b := fun z => by
  obtain ⟨x0, x1, x2, ns, eb, _⟩ := h
  subst z
  rw [e] at eb
  cases eb
theorem BagOk.nats {H : Hp} {b bc c : Addr} {xs : List Nat} (h : BagOk H b bc) (e : H c = some (.lst (xs.map nV))) : c ≠ b := fun z => by
  obtain ⟨x0, x1, x2, ns, eb, _⟩ := h
  subst z
  have w := Option.some.inj (e.symm.trans eb)
  injection w with w
  have hm : V.ref bc ∈ xs.map nV := by
    rw [w]
    simp
  obtain ⟨n, _, y⟩ := List.mem_map.mp hm
  cases y
theorem BagOk.texts {H : Hp} {b bc c : Addr} {xs : List OwM.Tx} (h : BagOk H b bc) (e : H c = some (.lst (xs.map sV))) : c ≠ b := fun z => by
  obtain ⟨x0, x1, x2, ns, eb, _⟩ := h
  subst z
  have w := Option.some.inj (e.symm.trans eb)
  injection w with w
  have hm : V.ref bc ∈ xs.map sV := by
    rw [w]
    simp
  obtain ⟨n, _, y⟩ := List.mem_map.mp hm
  cases y
theorem LnX.bag {q b bc : Addr} {H H' : Hp} {v : V} {l : List Nat × List OwM.Tx} (h : BagOk H b bc) (k : KeptBut [b] H H') : LnX q H v l → LnX q H' v l := fun ⟨tu, s, p, e, n1, n2, n3, e1, e2, e3⟩ => ⟨tu, s, p, e, n1, n2, n3, k.at (h.tup e1) e1, k.at (h.nats e2) e2, k.at (h.texts e3) e3⟩
theorem Ln.bag {b bc : Addr} {H H' : Hp} {v : V} {l : List Nat × List OwM.Tx} (h : BagOk H b bc) (k : KeptBut [b] H H') : Ln H v l → Ln H' v l := fun ⟨tu, s, p, e, e1, e2, e3⟩ => ⟨tu, s, p, e, k.at (h.tup e1) e1, k.at (h.nats e2) e2, k.at (h.texts e3) e3⟩
theorem paired_set {α β : Type} {R : α → β → Prop} {x : α} {y : β} (h : R x y) : ∀ {xs : List α} {ys : List β} (n : Nat), Paired R xs ys → Paired R (xs.set n x) (ys.set n y)
  | _, _, _, .nil => .nil
  | _, _, 0, .cons _ t => .cons h t
  | _, _, n + 1, .cons r t => .cons r (paired_set h n t)
theorem less_next {t : OwM.Tx} {ls : List (List Nat × List OwM.Tx)} {i : Nat} {l : List Nat × List OwM.Tx} (h : ls[i]? = some l) : lessT t (ls.take (i + 1)) = lessT t (ls.take i) ++ [(l.1, lessP t l.2)] := by
  unfold lessT
  rw [take_next h, List.map_append]
  rfl
theorem tx_eq (a b : OwM.Tx) : decide (sV a = sV b) = decide (a = b) := by
  by_cases h : a = b
  · rw [h]
    simp
  · rw [decide_eq_false h, decide_eq_false]
    intro z
    exact h (tS_inj (V.str.inj z))
theorem bool_ok (c : Bool) : SeqAt.shaped (.bool c) = true ∧ (PyData.bool c).showable = true ∧ (PyData.bool c).hasDict = false ∧ (PyData.bool c).depth ≤ 32 ∧ (PyData.bool c).shown.length ≤ sizeLine := by
  cases c <;> decide +kernel
theorem Tbl.news {H H' : Hp} {rs : List (Addr × Addr × Addr)} {ls : List (List Nat × List OwM.Tx)} (hT : Tbl H H' rs ls) : ∀ o ∈ rs.map (·.2.1) ++ rs.map (·.2.2), H o = none ∧ ∃ xs, H' o = some (.lst xs) ∧ ∀ x, V.ref x ∉ xs := fun o ho => by
  rcases List.mem_append.mp ho with ho | ho
  · obtain ⟨⟨tu, s, p⟩, hx, rfl⟩ := List.mem_map.mp ho
    obtain ⟨i, hi⟩ := List.getElem?_of_mem hx
    obtain ⟨st, ps, _, _, _, b3, b4, _, _⟩ := hT.at hi
    refine ⟨b3, _, b4, fun x hx => ?_⟩
    obtain ⟨n, _, w⟩ := List.mem_map.mp hx
    cases w
  · obtain ⟨⟨tu, s, p⟩, hx, rfl⟩ := List.mem_map.mp ho
    obtain ⟨i, hi⟩ := List.getElem?_of_mem hx
    obtain ⟨st, ps, _, _, _, _, _, b5, b6⟩ := hT.at hi
    refine ⟨b5, _, b6, fun x hx => ?_⟩
    obtain ⟨n, _, w⟩ := List.mem_map.mp hx
    cases w
theorem Tbl.old {H H' H2 : Hp} {rs : List (Addr × Addr × Addr)} {ls : List (List Nat × List OwM.Tx)} (hT : Tbl H H' rs ls) (m : Same H H') (k : KeptBut (rs.map (·.2.1) ++ rs.map (·.2.2)) H' H2) : Same H H2 := fun o x e => k o x (fun ho => by rw [(hT.news o ho).1] at e; cases e) (m _ _ e)
theorem Tbl.keeps {H H' H2 : Hp} {rs : List (Addr × Addr × Addr)} {ls : List (List Nat × List OwM.Tx)} (hT : Tbl H H' rs ls) (k : KeptBut (rs.map (·.2.1) ++ rs.map (·.2.2)) H' H2) {c : Addr} (e : H' c = some (.lst (rs.map fun x => V.ref x.1))) : H2 c = some (.lst (rs.map fun x => V.ref x.1)) := by
  refine k c _ (fun ho => ?_) e
  obtain ⟨_, xs, e2, hx⟩ := hT.news c ho
  have w := Option.some.inj (e.symm.trans e2)
  injection w with w
  cases rs with
  | nil => cases ho
  | cons r rs => exact hx r.1 (by rw [← w]; exact List.mem_cons_self ..)
theorem Tbl.keepT {H H' H2 : Hp} {rs : List (Addr × Addr × Addr)} {ls : List (List Nat × List OwM.Tx)} (hT : Tbl H H' rs ls) (k : KeptBut (rs.map (·.2.1) ++ rs.map (·.2.2)) H' H2) {c : Addr} {xs : List V} (e : H' c = some (.tup xs)) : H2 c = some (.tup xs) := by
  refine k c _ (fun ho => ?_) e
  obtain ⟨_, xs, e2, hx⟩ := hT.news c ho
  rw [e] at e2
  cases e2
/-- lists of stories as data -/
def StX (q : Addr) (H : Hp) (v : V) (st : List Nat) : Prop := ∃ s, v = .ref s ∧ s ≠ q ∧ H s = some (.lst (st.map nV))
theorem StX.mono {q : Addr} {H H' : Hp} {v : V} {st : List Nat} (m : ∀ c o, c ≠ q → H c = some o → H' c = some o) : StX q H v st → StX q H' v st := fun ⟨s, e, n, e1⟩ => ⟨s, e, n, m _ _ n e1⟩
def storyD (st : List Nat) : PyData := .list (st.map nD)
theorem dp_stories {K : PySem.W.Frag} {q : Addr} {H : Hp} : ∀ {vs : List V} {ss : List (List Nat)}, Paired (StX q H) vs ss → DpAll K H vs (ss.map storyD)
  | _, _, .nil => .nil
  | _, _, .cons ⟨s, e, _, e1⟩ t => by
    subst e
    exact .cons (dp_natL (same_at e1)) (dp_stories t)
theorem shaped_stories (ss : List (List Nat)) : SeqAt.shaped (.list (ss.map storyD)) = true := by
  have h1 : PyData.canLayAll0 (ss.map storyD) = true := layAll_of fun x hx => by
    obtain ⟨st, _, rfl⟩ := List.mem_map.mp hx
    exact lay_nats st
  have h2 : PyData.depthAll (ss.map storyD) ≤ 1 := depthAll_of fun x hx => by
    obtain ⟨st, _, rfl⟩ := List.mem_map.mp hx
    show PyData.depthAll (st.map nD) + 1 ≤ 1
    rw [depth_nats]
    decide
  show (PyData.canLayAll0 (ss.map storyD) && decide (PyData.depthAll (ss.map storyD) + 1 ≤ 64)) = true
  rw [h1, decide_eq_true (by omega)]
  rfl
def selS (t : OwM.Tx) (ls : List (List Nat × List OwM.Tx)) : List (List Nat) := (ls.filter fun l => decide (t ∈ l.2)).map (·.1)
theorem selS_next {t : OwM.Tx} {ls : List (List Nat × List OwM.Tx)} {i : Nat} {l : List Nat × List OwM.Tx} (h : ls[i]? = some l) : selS t (ls.take (i + 1)) = selS t (ls.take i) ++ if decide (t ∈ l.2) = true then [l.1] else [] := by
  unfold selS
  rw [filter_next h, List.map_append]
  split <;> rfl
theorem selS_able {r t : OwM.Tx} {ls : List (List Nat × List OwM.Tx)} (h : Lines r t ls) (h0 : t ≠ []) : (!(selS t ls).isEmpty) = ableE r t := by
  rw [Bool.eq_iff_iff, able_mem h h0]
  unfold selS
  constructor
  · intro z
    cases e : ls.filter fun l => decide (t ∈ l.2) with
    | nil =>
      rw [e] at z
      cases z
    | cons l r =>
      have hm : l ∈ ls.filter fun l => decide (t ∈ l.2) := by
        rw [e]
        exact List.mem_cons_self ..
      rw [List.mem_filter, decide_eq_true_iff] at hm
      exact ⟨l, hm.1, hm.2⟩
  · rintro ⟨l, h1, h2⟩
    have hm : l ∈ ls.filter fun l => decide (t ∈ l.2) := List.mem_filter.mpr ⟨h1, decide_eq_true h2⟩
    cases e : ls.filter fun l => decide (t ∈ l.2) with
    | nil =>
      rw [e] at hm
      cases hm
    | cons l r => rfl
end Ow
set_option Elab.async false
set_option linter.all false
set_option maxRecDepth 100000
set_option maxHeartbeats 4000000
namespace Ow
open PySem PySem.Spec PyProof.Rows L2 OwR OwM
theorem okIsInteger {P : Program} {w : World} {K : PySem.W.Frag} {mg : PySem.Str → Option Value} {base : Heap} {k : Nat} (T : Tx0 K mg) : FnOk P w K mg base CX0 (k + 1) T.dIsInteger.f T.dIsInteger.fd ["thing"] spIsInteger := by
  refine FunD.ok T.dIsInteger.F scIsInteger (fun vs H Q E h => ?len) (fun cdv A outer s H vs Q E hr h => ?run)
  case len =>
    obtain ⟨_, rfl, _⟩ := h
    rfl
  case run =>
    obtain ⟨n, rfl, h⟩ := h
    refine ⟨_, PSs.nox (pss_one (ps_ret (pe_and (pe_callB call_isi (by rfl) T.m_isinstance (by decide +kernel) (pa_cons (pv 0) (pa_cons (pe_bltn (v := .ty "int") (by rfl) T.m_int (by decide +kernel) rfl) pa_nil))) (pe_one (pe_not (pe_callB call_isi (by rfl) T.m_isinstance (by decide +kernel) (pa_cons (pv 0) (pa_cons (pe_bltn (v := .ty "bool") (by rfl) T.m_bool (by decide +kernel) rfl) pa_nil)))))))), ?_⟩
    refine ⟨.int n, rfl, .int n, .ty "int", .type "int", .type "int", true, rfl, .ty _, .base (.int n), kit_ty (by decide +kernel), true, rfl, ?_⟩
    refine iteT ?_
    refine ⟨.int n, rfl, .int n, .ty "bool", .type "int", .type "bool", false, rfl, .ty _, .base (.int n), kit_ty (by decide +kernel), false, rfl, ?_⟩
    exact h
end Ow
set_option Elab.async false
set_option linter.all false
set_option maxRecDepth 100000
set_option maxHeartbeats 4000000
namespace Ow
open PySem PySem.Spec PyProof.Rows L2 OwR OwM
theorem okMade {P : Program} {w : World} {K : PySem.W.Frag} {mg : PySem.Str → Option Value} {base : Heap} {k : Nat} (T : Tx0 K mg) : FnOk P w K mg base CX0 (k + 1) T.dMade.f T.dMade.fd ["row", "place"] spMade := by
  refine FunD.ok T.dMade.F scMade (fun vs H Q E h => ?len) (fun cdv A outer s H vs Q E hr h => ?run)
  case len =>
    obtain ⟨_, _, rfl, _⟩ := h
    rfl
  case run =>
    obtain ⟨r, p, rfl, h⟩ := h
    refine ⟨_, PSs.nox (pss_one (ps_ret (pe_op op_add_str (pe_op op_add_str (pe_slice sl_str (pv 0) po_none (po_some (pv 1))) (pv 0)) (pe_slice sl_str (pv 0) (po_some (pe_op op_add (pv 1) pe_int)) po_none)))), ?_⟩
    obtain ⟨hp, hl, q⟩ := h
    refine ⟨sV r, rfl, nV p, rfl, p, rfl, tS r, rfl, len_ok hl, sV r, rfl, tS (r.take p), tS r, cutE_to r p, rfl, ?_, ?_⟩
    · exact cat_ok (a := 100000) (b := 100000) (by rw [List.length_take]; omega) hl (by decide)
    refine ⟨sV r, rfl, nV p, rfl, p, 1, rfl, rfl, _, rfl, tS r, rfl, len_ok hl, tS (r.take p ++ r), tS (r.drop (p + 1)), congrArg V.str (tS_app _ _), cutE_from r (p + 1), ?_, ?_⟩
    · exact cat_ok (a := 200000) (b := 100000) (by rw [List.length_append, List.length_take]; omega) (by rw [List.length_drop]; omega) (by decide)
    rw [tS_app, List.append_assoc]
    exact q
end Ow
set_option Elab.async false
set_option linter.all false
set_option maxRecDepth 100000
set_option maxHeartbeats 4000000
namespace Ow
open PySem PySem.Spec PyProof.Rows L2 OwR OwM
theorem okBaseStories {P : Program} {w : World} {K : PySem.W.Frag} {mg : PySem.Str → Option Value} {base : Heap} {k : Nat} (T : Tx0 K mg) : FnOk P w K mg base CX0 (k + 1) T.dBaseStories.f T.dBaseStories.fd ["row", "size"] spBaseStories := by
  refine FunD.ok T.dBaseStories.F scBaseStories (fun vs H Q E h => ?len) (fun cdv A outer s H vs Q E hr h => ?run)
  case len =>
    obtain ⟨_, _, rfl, _⟩ := h
    rfl
  case run =>
    obtain ⟨r, n, rfl, h⟩ := h
    refine ⟨_, PSs.nox (pss_cons (ps_asg (pe_tup (pa_cons (pe_lst (pa_cons (pe_lst pa_nil) pa_nil)) (pa_cons (pe_op op_sub (pe_callB call_len_str (by rfl) T.m_len (by decide +kernel) (pa_cons (pv 0) pa_nil)) pe_int) pa_nil))) (pg_tup (by rfl) (pgs_cons (pg_name (i := 2) scBaseStories.nd rfl (.inl rfl)) (pgs_cons (pg_name (i := 3) scBaseStories.nd rfl (.inr rfl)) pgs_nil))))
      (pss_cons (ps_while PassesOwn.never (pt_cmpR op_lt (pv 3) (pv 1) (nomark _))
        (pss_cons (ps_setLc2 (i := 2) (own := [("story", 4), ("place", 5)]) (vs1 := [5]) (by rfl) scBaseStories.nd rfl rfl (sw_true rfl rfl rfl (by decide +kernel)) (pi_list (pv 2)) (blkOk_by (own := [("story", 4), ("place", 5)]) (N := nBaseStories) (sc := defScope sBaseStories) (by decide +kernel)) (by decide) (fun _ _ _ _ _ => pg_name (i := 4) scBaseStories.nd rfl (.inl rfl)) (fun _ _ _ _ _ => pts_nil) (fun _ _ _ _ _ => (pi_range1 (by rfl) T.m_range (pa_cons (pe_op op_add (pv 3) pe_int) pa_nil))) (fun _ _ _ _ _ => pg_name (i := 5) scBaseStories.nd rfl (.inl rfl)) (fun _ _ _ _ _ => pts_nil) (fun _ _ _ _ _ => (pe_lst (pa_starK (K := K) rfl (pv 4) (pa_cons (pv 5) pa_nil)))))
        (pss_one (ps_set (i := 3) scBaseStories.nd rfl (.inr rfl) (pe_op op_mul pe_int (pv 3))))))
      (pss_one (ps_ret (pv 2))))), ?_⟩
    obtain ⟨h2, hrl, hn, q⟩ := h
    have eL : V.int (((tS r).length : Int) - 1) = nV (r.length - 1) := by
      rw [tS_len]
      exact congrArg V.int (int_sub (show 1 ≤ r.length by omega))
    refine ⟨Nat.zero_le _, fun e0 ne0 => ⟨(by show 1 ≤ sizeLine; decide), fun p0 np0 => ?_⟩⟩
    refine ⟨sV r, rfl, tS r, rfl, len_ok (by omega), _, 1, rfl, rfl, (by show 2 ≤ sizeLine; decide), fun tu ntu => ?_⟩
    refine ⟨tu, _, rfl, .inl (.inl upd_same), rfl, .ref p0, [_], rfl, _, [], rfl, rfl, ?_⟩
    have np0' : H p0 = none := (same_upd ne0).free np0
    have ntu' : H tu = none := (same_upd ne0).free ((same_upd np0).free ntu)
    have sm0 : Same H (upd (upd (upd H e0 (.lst [])) p0 (.lst [.ref e0])) tu (.tup [.ref p0, V.int (((tS r).length : Int) - 1)])) := (same_upd ne0).trans ((same_upd np0).trans (same_upd ntu))
    have e0p0 : e0 ≠ p0 := ne_of_none upd_same np0
    have p0tu : p0 ≠ tu := ne_of_none upd_same ntu
    have e0tu : e0 ≠ tu := ne_of_none (by rw [upd_ne e0p0]; exact upd_same) ntu
    refine while_by (fun σ H' => ∃ f last ss p bs y4 y5, σ = [some (sV r), some (nV n), some (.ref p), some (nV last), y4, y5] ∧ n ≤ last + f ∧ 1 ≤ last ∧ ss.length ≤ last ^ 4 ∧ (∀ s ∈ ss, s.length ≤ last) ∧ storiesN f last n ss = stories (r.length - 1) n ∧ Same H H' ∧ H p = none ∧ H' p = some (.lst (bs.map V.ref)) ∧ Sts H H' bs ss)
      (fun σ _ => n - slotN σ 3) ?_ (fun σ H' hh => ?_) ?_
    · refine ⟨n, r.length - 1, [[]], p0, [e0], none, none, ?_, by omega, by omega, ?_, ?_, rfl, sm0, np0', ?_, ?_⟩
      · rw [← eL]
        rfl
      · exact Nat.one_le_pow _ _ (by omega)
      · intro s hs
        rw [List.mem_singleton] at hs
        subst hs
        exact Nat.zero_le _
      · rw [upd_ne p0tu]
        exact upd_same
      · refine ⟨rfl, by simp, fun i b s e1 e2 => ?_⟩
        cases i with
        | zero =>
          cases e1
          cases e2
          refine ⟨ne0, ?_⟩
          rw [upd_ne e0tu, upd_ne e0p0]
          exact upd_same
        | succ i => cases e1
    · obtain ⟨f, last, ss, p, bs, y4, y5, rfl, hf, h1, hz, hzs, hst, sm, np, ep, hS⟩ := hh
      refine ⟨nV last, rfl, nV n, rfl, _, _, rfl, rfl, _, rfl, ite2 (fun e => ?_) (fun e => ?_)⟩
      · have hlt : last < n := by
          have := of_decide_eq_true e
          omega
        obtain ⟨f, rfl⟩ : ∃ g, f = g + 1 := ⟨f - 1, by omega⟩
        rw [storiesN_step hlt] at hst
        have hss : ss.length ≤ 20736 := Nat.le_trans hz (Nat.pow_le_pow_left (show last ≤ 12 by omega) 4)
        refine ⟨.ref p, rfl, p, rfl, ⟨_, same_at ep⟩, fun D nD => ?_⟩
        have nD' : H D = none := sm.free nD
        refine itl_by (K := K) (xs := bs.map V.ref) (fun i H2 => ∃ ds, Same H' H2 ∧ D ∉ ds ∧ H2 D = some (.lst (ds.map V.ref)) ∧ Sts H H2 ds (stepS last (ss.take i))) ⟨[], same_upd nD, List.not_mem_nil, upd_same, rfl, List.nodup_nil, fun i b s e1 => by cases e1⟩ (fun i H2 _ hh => ?_) (fun i x H2 hx hh => ?_) (fun H2 hh => ?_)
        · obtain ⟨_, s2, _⟩ := hh
          exact s2.seq (same_at ep)
        · obtain ⟨ds, s2, hD, eD, hT⟩ := hh
          obtain ⟨b, eb, rfl, hib⟩ := take_ref hx
          obtain ⟨s, es, nb, hb⟩ := hS.at eb
          have hb2 := s2 _ _ hb
          have hsl := hzs s (List.mem_of_getElem? es)
          refine ⟨rfl, nV last, rfl, _, 1, rfl, rfl, _, rfl, by omega, by omega, ?_⟩
          have en : ((last : Int) + 1).toNat = last + 1 := by omega
          rw [en]
          refine itr_by 0 rfl (fun j H3 => ∃ ds, Same H' H3 ∧ D ∉ ds ∧ H3 D = some (.lst (ds.map V.ref)) ∧ Sts H H3 ds (stepS last (ss.take i) ++ (List.range j).map fun p => s ++ [p])) ⟨ds, s2, hD, eD, by rw [List.range_zero, List.map_nil, List.append_nil]; exact hT⟩ (fun j H3 hj hh => ?_) (fun H3 hh => ?_)
          · obtain ⟨ds, s3, hD, eD, hT⟩ := hh
            have hb3 := s3 _ _ hb
            refine ⟨rfl, .ref b, rfl, b, s.map nV, rfl, .inr (same_at hb3), nV (j + 0), rfl, ?_, fun q nq => ?_⟩
            · rw [List.length_append, List.length_map]
              have := big_line
              show s.length + 1 ≤ sizeLine
              omega
            · have nqH : H q = none := (sm.trans s3).free nq
              have Dq : D ≠ q := ne_of_none eD nq
              have hlen : ds.length ≤ 1000000 := by
                rw [hT.1, List.length_append, stepS_len, List.length_map, List.length_range]
                have h5 : (ss.take i).length ≤ 20736 := by
                  rw [List.length_take]
                  omega
                have h6 : (ss.take i).length * (last + 1) ≤ 20736 * 13 := Nat.mul_le_mul h5 (by omega)
                omega
              refine ⟨ds.map V.ref, by rw [upd_ne Dq]; exact eD, ?_, ds ++ [q], ?_, ?_, ?_, ?_⟩
              · rw [List.length_map]
                have := big_line
                omega
              · intro c o e
                have c1 : c ≠ D := ne_of_none e nD
                have c2 : c ≠ q := ne_of_none (s3 _ _ e) nq
                rw [upd_ne c1, upd_ne c2]
                exact s3 _ _ e
              · intro hm
                rcases List.mem_append.mp hm with hm | hm
                · exact hD hm
                · exact Dq (List.mem_singleton.mp hm)
              · rw [upd_same, List.map_append]
                rfl
              · have qds : q ∉ ds := fun hm => by
                  obtain ⟨k, hk⟩ := List.getElem?_of_mem hm
                  obtain ⟨_, _, _, e⟩ := hT.at hk
                  rw [nq] at e
                  cases e
                have hT2 : Sts H (upd (upd H3 q (.lst ((s ++ [j]).map nV))) D (.lst (ds.map V.ref ++ [.ref q]))) ds (stepS last (ss.take i) ++ (List.range j).map fun p => s ++ [p]) := by
                  refine hT.mono fun c hc o e => ?_
                  rw [upd_ne (fun z => hD (by rw [← z]; exact hc)), upd_ne (fun z => qds (by rw [← z]; exact hc))]
                  exact e
                have hT3 := hT2.snoc (q := q) (s := s ++ [j]) nqH qds (by rw [upd_ne Dq.symm]; exact upd_same)
                rw [List.range_succ, List.map_append, ← List.append_assoc]
                have ev : s.map nV ++ [nV (j + 0)] = (s ++ [j]).map nV := by
                  rw [List.map_append]
                  rfl
                rw [ev]
                exact hT3
          · obtain ⟨ds, s3, hD, eD, hT⟩ := hh
            exact ⟨ds, s3, hD, eD, by rw [stepS_next es]; exact hT⟩
        · obtain ⟨ds, s2, hD, eD, hT⟩ := hh
          rw [List.length_map, hS.1, List.take_length] at hT
          refine ⟨_, rfl, 2, _, rfl, rfl, .inl ⟨by decide, by decide⟩, ?_⟩
          refine ⟨⟨f, 2 * last, stepS last ss, D, ds, y4, y5, rfl, by omega, by omega, ?_, ?_, hst, sm.trans s2, nD', eD, hT⟩, ?_⟩
          · rw [stepS_len, Nat.mul_pow]
            have h7 : ss.length * (last + 1) ≤ last ^ 4 * 16 := Nat.mul_le_mul hz (by omega)
            omega
          · intro x hx
            obtain ⟨s, p', hs, _, rfl⟩ := mem_stepS.mp hx
            have := hzs s hs
            rw [List.length_append]
            show s.length + 1 ≤ _
            omega
          · show n - (2 * (last : Int)).toNat < n - ((last : Int)).toNat
            omega
      · have hge : ¬ last < n := fun z => e (decide_eq_true (by omega))
        rw [storiesN_end hge] at hst
        rw [hst] at hS
        exact ⟨.ref p, rfl, q H' p bs sm np ep hS⟩
    · intro σ H' Q1 Q2 hq hh
      obtain ⟨x1, e1, x2, e2, i1, i2, e3, e4, k1, e5, hz⟩ := hh
      exact ⟨x1, e1, x2, e2, i1, i2, e3, e4, k1, e5, hq _ _ hz⟩
end Ow
set_option Elab.async false
set_option linter.all false
set_option maxRecDepth 100000
set_option maxHeartbeats 4000000
namespace Ow
open PySem PySem.Spec PyProof.Rows L2 OwR OwM
theorem okPartsOf {P : Program} {w : World} {K : PySem.W.Frag} {mg : PySem.Str → Option Value} {base : Heap} {k : Nat} (T : Tx0 K mg) : FnOk P w K mg base CX0 (k + 1) T.dPartsOf.f T.dPartsOf.fd ["text"] spPartsOf := by
  refine FunD.ok T.dPartsOf.F scPartsOf (fun vs H Q E h => ?len) (fun cdv A outer s H vs Q E hr h => ?run)
  case len =>
    obtain ⟨_, rfl, _⟩ := h
    rfl
  case run =>
    obtain ⟨t, rfl, h⟩ := h
    refine ⟨_, PSs.nox (pss_cons (ps_set (i := 1) scPartsOf.nd rfl (.inl rfl) (pe_callB call_len_str (by rfl) T.m_len (by decide +kernel) (pa_cons (pv 0) pa_nil)))
      (pss_one (ps_ret (pe_sortN hr (by rfl) T.m_sorted (by rfl) T.m_len (pe_callB (cr_sortSet hr rfl) (by rfl) T.m_sorted (by decide +kernel) (pa_cons (pe_sc2 (own := [("stop", 2), ("start", 3)]) (vs1 := [3]) (by rfl) scPartsOf.nd (pi_range2 (by rfl) T.m_range (pa_cons pe_int (pa_cons (pe_op op_add (pv 1) pe_int) pa_nil))) (blkOk_by (own := [("stop", 2), ("start", 3)]) (N := nPartsOf) (sc := defScope sPartsOf) (by decide +kernel)) (by decide) (fun _ _ _ _ _ => pg_name (i := 2) scPartsOf.nd rfl (.inl rfl)) (fun _ _ _ _ _ => (pi_range1 (by rfl) T.m_range (pa_cons (pv 2) pa_nil))) (fun _ _ _ _ _ => pg_name (i := 3) scPartsOf.nd rfl (.inl rfl)) (fun _ _ _ _ _ => (pe_slice sl_str (pv 0) (po_some (pv 3)) (po_some (pv 2))))) pa_nil)))))), ?_⟩
    obtain ⟨hl, q⟩ := h
    refine ⟨sV t, rfl, tS t, rfl, len_ok (by omega), ?_⟩
    refine ⟨_, rfl, _, 1, rfl, rfl, 1, _, rfl, ⟨by decide, by decide, by rw [tS_len]; omega, by rw [tS_len]; omega⟩, fun D nD => ?_⟩
    have en : (((tS t).length : Int) + 1 - 1).toNat = t.length := by
      rw [tS_len]
      omega
    rw [en]
    refine itr_by 1 rfl (fun i H2 => ∃ l, Same H H2 ∧ H2 D = some (SetTO w D l) ∧ l.length ≤ 40 * i ∧ ∀ p, p ∈ l ↔ ∃ a b, a < b ∧ b ≤ i ∧ p = sub t a b) ⟨[], same_upd nD, upd_same, Nat.zero_le _, fun p => ⟨fun z => (by cases z), fun z => (by obtain ⟨a, b, h1, h2, _⟩ := z; omega)⟩⟩ (fun i H2 hi hh => ?_) (fun H2 hh => ?_)
    · obtain ⟨l, s2, eD, hz, hm⟩ := hh
      refine ⟨rfl, nV (i + 1), rfl, _, rfl, by omega, by omega, ?_⟩
      have en2 : (((i + 1 : Nat) : Int)).toNat = i + 1 := by omega
      rw [en2]
      refine itr_by 0 rfl (fun j H3 => ∃ l, Same H H3 ∧ H3 D = some (SetTO w D l) ∧ l.length ≤ 40 * i + j ∧ ∀ p, p ∈ l ↔ (∃ a b, a < b ∧ b ≤ i ∧ p = sub t a b) ∨ ∃ a, a < j ∧ p = sub t a (i + 1)) ⟨l, s2, eD, hz, fun p => ⟨fun z => .inl ((hm p).mp z), fun z => z.elim (fun y => (hm p).mpr y) fun y => (by obtain ⟨a, h1, _⟩ := y; omega)⟩⟩ (fun j H3 hj hh => ?_) (fun H3 hh => ?_)
      · obtain ⟨l, s3, eD, hz, hm⟩ := hh
        refine ⟨rfl, sV t, rfl, nV (j + 0), rfl, _, rfl, nV (i + 1), rfl, _, rfl, tS t, rfl, len_ok (by omega), l, sub t j (i + 1), cutE_mid t j (i + 1), eD, ?_, ?_⟩
        · have : (4000 : Nat) < scanBound := by decide
          omega
        · refine ⟨l ++ [sub t j (i + 1)], same_upd2 s3 nD, upd_same, ?_, fun p => ?_⟩
          · rw [List.length_append]
            show _ + 1 ≤ _
            omega
          · rw [List.mem_append, List.mem_singleton, hm]
            constructor
            · rintro ((h1 | ⟨a, h1, h2⟩) | h1)
              · exact .inl h1
              · exact .inr ⟨a, by omega, h2⟩
              · exact .inr ⟨j, by omega, h1⟩
            · rintro (h1 | ⟨a, h1, h2⟩)
              · exact .inl (.inl h1)
              · by_cases e : a = j
                · subst e
                  exact .inr h2
                · exact .inl (.inr ⟨a, by omega, h2⟩)
      · obtain ⟨l, s3, eD, hz, hm⟩ := hh
        refine ⟨l, s3, eD, by omega, fun p => ?_⟩
        rw [hm]
        constructor
        · rintro (⟨a, b, h1, h2, h3⟩ | ⟨a, h1, h2⟩)
          · exact ⟨a, b, h1, by omega, h3⟩
          · exact ⟨a, i + 1, h1, Nat.le_refl _, h2⟩
        · rintro ⟨a, b, h1, h2, h3⟩
          by_cases e : b = i + 1
          · subst e
            exact .inr ⟨a, h1, h3⟩
          · exact .inl ⟨a, b, h1, by omega, h3⟩
    · obtain ⟨l, s2, eD, hz, hm⟩ := hh
      refine ⟨D, l, rfl, eD, fun ks p nd hk np => ?_⟩
      refine ⟨p, ks.mergeSort leT, rfl, same_at upd_same, fun x hx => ?_, fun p2 np2 => ?_⟩
      · have h1 := (hk x).mp (mem_sort.mp hx)
        obtain ⟨a, b, _, h2, rfl⟩ := (hm x).mp h1
        rw [sub_len h2]
        have := big_line
        omega
      · refine q _ p2 _ (parts_sort nd fun k => ?_) ?_ ?_ upd_same
        · rw [hk, hm, infix_iff]
        · exact same_upd2 (same_upd2 s2 (s2.free np)) ((same_upd2 s2 (s2.free np)).free np2)
        · exact (same_upd2 s2 (s2.free np)).free np2
end Ow
set_option Elab.async false
set_option linter.all false
set_option maxRecDepth 100000
set_option maxHeartbeats 4000000
namespace Ow
open PySem PySem.Spec PyProof.Rows L2 OwR OwM
theorem okLongerOf {P : Program} {w : World} {K : PySem.W.Frag} {mg : PySem.Str → Option Value} {base : Heap} {k : Nat} (T : Tx0 K mg) : FnOk P w K mg base CX0 (k + 1) T.dLongerOf.f T.dLongerOf.fd ["part", "cut"] spLongerOf := by
  refine FunD.ok T.dLongerOf.F scLongerOf (fun vs H Q E h => ?len) (fun cdv A outer s H vs Q E hr h => ?run)
  case len =>
    obtain ⟨_, _, rfl, _⟩ := h
    rfl
  case run =>
    obtain ⟨p, c, rfl, h⟩ := h
    refine ⟨_, PSs.nox (pss_cons (ps_par (i := 2) (j := 3) (by rfl) scLongerOf.nd rfl rfl (by decide) rfl rfl (pa_cons (pe_slice sl_str (pv 0) po_none (po_some (pv 1))) (pa_cons (pe_slice sl_str (pv 0) (po_some (pv 1)) po_none) pa_nil)) (by rfl))
      (pss_cons (ps_if (pt_val (pe_m1 PySem.F.slot_str_startswith PySem.F.type_str_startswith mt_startswith (pv 2) (pv 3)))
        (pss_one (ps_ret (pv 2)))
        pss_nil)
      (pss_one (ps_ret (pe_ifExp (pt_val (pe_m1 PySem.F.slot_str_startswith PySem.F.type_str_startswith mt_startswith (pv 3) (pv 2))) (pv 3) pe_non))))), ?_⟩
    obtain ⟨hl, q⟩ := h
    refine ⟨sV p, rfl, nV c, rfl, c, rfl, tS p, rfl, len_ok hl, sV p, rfl, nV c, rfl, c, rfl, tS p, rfl, len_ok hl, _, _, rfl, ?_⟩
    rw [cutE_to, cutE_from]
    refine ⟨sV (p.take c), rfl, ⟨_, rfl⟩, sV (p.drop c), rfl, tS (p.take c), tS (p.drop c), rfl, rfl, _, rfl, ?_⟩
    rw [starts_eq]
    unfold longer at q
    refine ite2 (fun e => ?_) (fun e => ?_)
    · rw [if_pos e] at q
      exact ⟨_, rfl, q⟩
    · rw [if_neg e] at q
      refine ⟨sV (p.drop c), rfl, ⟨_, rfl⟩, sV (p.take c), rfl, tS (p.drop c), tS (p.take c), rfl, rfl, _, rfl, ?_⟩
      rw [starts_eq]
      refine ite2 (fun e2 => ?_) (fun e2 => ?_)
      · rw [if_pos e2] at q
        exact ⟨_, rfl, q⟩
      · rw [if_neg e2] at q
        exact q
end Ow
set_option Elab.async false
set_option linter.all false
set_option maxRecDepth 100000
set_option maxHeartbeats 4000000
namespace Ow
open PySem PySem.Spec PyProof.Rows L2 OwR OwM
theorem okMirrored {P : Program} {w : World} {K : PySem.W.Frag} {mg : PySem.Str → Option Value} {base : Heap} {k : Nat} (T : Tx0 K mg) : FnOk P w K mg base CX0 (k + 1) T.dMirrored.f T.dMirrored.fd ["last", "calls"] (spMirrored K) := by
  refine FunD.ok T.dMirrored.F scMirrored (fun vs H Q E h => ?len) (fun cdv A outer s H vs Q E hr h => ?run)
  case len =>
    obtain ⟨_, _, _, rfl, _⟩ := h
    rfl
  case run =>
    obtain ⟨last, cs, a, rfl, h⟩ := h
    refine ⟨_, PSs.nox (pss_cons (ps_set (i := 2) scMirrored.nd rfl (.inl rfl) (pe_lst pa_nil))
      (pss_cons (ps_for PassesOwn.never rfl (pi_list (pv 1)) (pg_name (i := 3) scMirrored.nd rfl (.inl rfl))
        (pss_cons (ps_expr (pe_bm PySem.F.plainAttrs_list PySem.F.slot_list_append PySem.F.type_list_append mt_append (pv 2) (pa_cons (pe_op op_sub (pv 0) (pv 3)) pa_nil)))
        (pss_one (ps_set (i := 0) scMirrored.nd rfl (.inl rfl) (pe_op op_mul pe_int (pv 0))))))
      (pss_one (ps_ret (pv 2))))), ?_⟩
    obtain ⟨hS, hi, hl, q⟩ := h
    refine ⟨Nat.zero_le _, fun o no => ?_⟩
    refine ⟨.ref a, rfl, a, rfl, ⟨_, (same_upd no).seq hS⟩, ?_⟩
    refine for_list (xs := cs.map nV) (fun i σ H' => ∃ y, σ = [some (nV (lastOf last (cs.take i))), some (.ref a), some (.ref o), y] ∧ Same H H' ∧ H' o = some (.lst ((mirror last (cs.take i)).map nV))) ⟨_, by rw [List.take_zero]; unfold lastOf; rw [List.length_nil, Nat.pow_zero, Nat.mul_one]; rfl, same_upd no, upd_same⟩ (fun i σ H' _ hh => ?_) (fun i x σ H' hx hh => ?_) (fun σ H' hh => ?_)
    · obtain ⟨_, _, sm, _⟩ := hh
      exact sm.seq hS
    · obtain ⟨_, rfl, sm, eo⟩ := hh
      obtain ⟨p, e, rfl, hlt⟩ := take_nV hx
      have hp := story_at hi e
      refine ⟨.ref o, rfl, .inl ⟨rfl, _, .inl (.inl eo)⟩, nV (lastOf last (cs.take i)), rfl, nV p, rfl, _, _, rfl, rfl, o, _, _, rfl, rfl, eo, ?_, ?_⟩
      · rw [List.length_map, mirror_len, List.length_take]
        have := big_line
        omega
      · refine ⟨_, rfl, 2, _, rfl, rfl, .inl ⟨by decide, by decide⟩, some (nV p), ?_, same_upd2 sm no, ?_⟩
        · rw [last_next e]
          rfl
        · rw [upd_same, take_next e, mirror_app, List.map_append]
          show some (HO.lst (_ ++ [V.int (((lastOf last (cs.take i) : Nat) : Int) - ((p : Nat) : Int))])) = some (HO.lst (_ ++ [V.int ((lastOf last (cs.take i) - p : Nat) : Int)]))
          rw [Int.ofNat_sub hp]
    · obtain ⟨_, rfl, sm, eo⟩ := hh
      refine ⟨.ref o, rfl, q _ o sm no ?_⟩
      rw [List.length_map, List.take_length] at eo
      exact eo
end Ow
set_option Elab.async false
set_option linter.all false
set_option maxRecDepth 100000
set_option maxHeartbeats 4000000
namespace Ow
open PySem PySem.Spec PyProof.Rows L2 OwR OwM
theorem okAreAscending {P : Program} {w : World} {K : PySem.W.Frag} {mg : PySem.Str → Option Value} {base : Heap} {k : Nat} (T : Tx0 K mg) : FnOk P w K mg base CX0 (k + 1) T.dAreAscending.f T.dAreAscending.fd ["some"] spAreAscending := by
  refine FunD.ok T.dAreAscending.F scAreAscending (fun vs H Q E h => ?len) (fun cdv A outer s H vs Q E hr h => ?run)
  case len =>
    obtain ⟨_, _, rfl, _⟩ := h
    rfl
  case run =>
    obtain ⟨a, ps, rfl, h⟩ := h
    refine ⟨_, PSs.nox (pss_one (ps_ret (pe_callB (cr_all rfl) (by rfl) T.m_all (by decide +kernel) (pa_cons (pe_lc (own := [("one", 1), ("other", 2)]) (by rfl) scAreAscending.nd (pi_zip (by rfl) T.m_zip (pa_cons (pv 0) (pa_cons (pe_slice sl_list (pv 0) (po_some pe_int) po_none) pa_nil))) (blkOk_by (own := [("one", 1), ("other", 2)]) (N := nAreAscending) (sc := defScope sAreAscending) (by decide +kernel)) (fun _ _ _ _ _ => pg_tupK (K := K) (n := 2) rfl rfl (pgs_cons (pg_name (i := 1) scAreAscending.nd rfl (.inl rfl)) (pgs_cons (pg_name (i := 2) scAreAscending.nd rfl (.inl rfl)) pgs_nil))) (fun _ _ _ _ _ => pts_nil) (fun _ _ _ _ _ => (pe_cmpR op_lt_str (pv 1) (pv 2) (nomark _)))) pa_nil)))), ?_⟩
    obtain ⟨ea, hA, hz, hpl, q⟩ := h
    refine ⟨.ref a, rfl, .ref a, rfl, 1, rfl, a, _, rfl, same_at ea, fun c nc => ?_⟩
    have s1 := same_upd (o := .lst (cutV (ps.map sV) (some 1) none)) nc
    have ec : V.ref c = V.ref c := rfl
    have hcut : cutV (ps.map sV) (some 1) none = (ps.drop 1).map sV := by
      rw [show (1 : Int) = ((1 : Nat) : Int) from rfl, cutV_from, List.map_drop]
    rw [hcut] at s1 ⊢
    refine ⟨a, c, _, _, rfl, s1.seq (same_at ea), same_at upd_same, fun D nD => ?_⟩
    refine itz_by (xs := ps.map sV) (ys := (ps.drop 1).map sV) (by rw [List.length_map, List.length_map, List.length_drop]; omega) (fun i H2 => Same (upd H c (.lst ((ps.drop 1).map sV))) H2 ∧ H2 D = some (.lst ((List.replicate i true).map V.bl))) ⟨same_upd nD, upd_same⟩ (fun i H2 hh => ⟨hh.1.seq (s1.seq (same_at ea)), hh.1.seq (same_at upd_same)⟩) (fun i x y tu H2 hx hy hh ntu => ?_) (fun H2 hh => ?_)
    · obtain ⟨s2, eD⟩ := hh
      obtain ⟨k, e1, rfl, hk⟩ := take_sV hx
      obtain ⟨k2, e2, rfl, hk2⟩ := take_sV hy
      rw [List.length_drop] at hk2
      rw [List.getElem?_drop] at e2
      have Dtu : D ≠ tu := ne_of_none eD ntu
      refine ⟨tu, _, rfl, tup_at upd_same, rfl, _, [_], rfl, _, [], rfl, rfl, rfl, sV k, rfl, sV k2, rfl, _, _, rfl, rfl, _, by rw [upd_ne Dtu]; exact eD, ?_, ?_, ?_⟩
      · rw [List.length_map, List.length_replicate]
        have := big_line
        omega
      · exact same_upd2 (s2.trans (same_upd ntu)) nD
      · have hlt : k < k2 := by
          have hA := List.pairwise_iff_getElem.mp hA
          obtain ⟨a1, a2⟩ := List.getElem?_eq_some_iff.mp e1
          obtain ⟨b1, b2⟩ := List.getElem?_eq_some_iff.mp e2
          rw [← a2, ← b2]
          exact hA i (1 + i) a1 b1 (by omega)
        rw [upd_same, tS_list, tS_list, decide_eq_true hlt, List.replicate_succ', List.map_append]
        rfl
    · obtain ⟨s2, eD⟩ := hh
      refine ⟨D, _, rfl, same_at eD, ?_⟩
      rw [all_true]
      exact q H2 ((same_upd nc).trans (by rw [hcut] at *; exact s2))
end Ow
set_option Elab.async false
set_option linter.all false
set_option maxRecDepth 100000
set_option maxHeartbeats 4000000
namespace Ow
open PySem PySem.Spec PyProof.Rows L2 OwR OwM
abbrev absI (i : Int) : Int := if i < 0 then -i else i
theorem absI_nn (i : Int) : 0 ≤ absI i := by
  unfold absI
  split <;> omega
theorem take_int {ns : List Int} {i : Nat} {x : V} (h : (ns.map V.int)[i]? = some x) : ∃ n, ns[i]? = some n ∧ x = .int n := by
  rw [List.getElem?_map] at h
  cases e : ns[i]? with
  | none =>
    rw [e] at h
    cases h
  | some p =>
    rw [e] at h
    exact ⟨p, rfl, (Option.some.inj h).symm⟩
theorem okLawBag {P : Program} {w : World} {K : PySem.W.Frag} {mg : PySem.Str → Option Value} {base : Heap} {k : Nat} (T : Tx0 K mg) : FnOk P w K mg base CX0 (k + 1) T.dLawBag.f T.dLawBag.fd ["_law_script"] (spLawBag K) := by
  refine FunD.ok T.dLawBag.F scLawBag (fun vs H Q E h => ?len) (fun cdv A outer s H vs Q E hr h => ?run)
  case len =>
    obtain ⟨_, _, rfl, _⟩ := h
    rfl
  case run =>
    obtain ⟨a, ns, rfl, h⟩ := h
    refine ⟨_, PSs.nox (pss_one (ps_ret (pe_lst (pa_cons pe_int (pa_cons pe_int (pa_cons pe_int (pa_cons (pe_lc (own := [("_law_cell", 1)]) (by rfl) scLawBag.nd (pi_list (pe_slice sl_list (pv 0) po_none (po_some pe_int))) (blkOk_by (own := [("_law_cell", 1)]) (N := nLawBag) (sc := defScope sLawBag) (by decide +kernel)) (fun _ _ _ _ _ => pg_name (i := 1) scLawBag.nd rfl (.inl rfl)) (fun _ _ _ _ _ => pts_nil) (fun _ _ _ _ _ => (pe_callB call_abs (by rfl) T.m_abs (by decide +kernel) (pa_cons (pv 1) pa_nil)))) pa_nil))))))), ?_⟩
    obtain ⟨hS, hl, q⟩ := h
    have ec : cutV (ns.map V.int) none (some 63) = ns.map V.int := (cutV_to _ 63).trans (List.take_of_length_le (by rw [List.length_map]; exact hl))
    refine ⟨.ref a, rfl, 63, rfl, a, _, rfl, hS, fun p np => ?_⟩
    rw [ec]
    refine ⟨p, rfl, ⟨_, same_at upd_same⟩, fun D nD => ?_⟩
    refine lc_list (xs := ns.map V.int) (fun i H2 => Same (upd H p (.lst (ns.map V.int))) H2 ∧ H2 D = some (.lst (((ns.take i).map absI).map V.int))) ⟨same_upd nD, upd_same⟩ (fun i H2 _ hh => hh.1.seq (same_at upd_same)) (fun i x H2 hx hh => ?_) (fun H2 hh => ?_)
    · obtain ⟨s2, eD⟩ := hh
      obtain ⟨n, e, rfl⟩ := take_int hx
      refine ⟨rfl, .int n, rfl, n, rfl, _, eD, ?_, same_upd2 s2 nD, ?_⟩
      · rw [List.length_map, List.length_map, List.length_take]
        have := big_line
        omega
      · rw [upd_same, take_next e, List.map_append, List.map_append]
        rfl
    · obtain ⟨s2, eD⟩ := hh
      rw [List.length_map, List.take_length] at eD
      refine ⟨(by show 4 ≤ sizeLine; decide), fun b nb => ?_⟩
      have Db : D ≠ b := ne_of_none eD nb
      have sm : Same H H2 := (same_upd np).trans s2
      refine q _ b D (sm.trans (same_upd nb)) (sm.free nb) ((same_upd np).free nD) ⟨0, 1234567891, 0, ns.map absI, upd_same, by rw [upd_ne Db]; exact eD, by decide, by decide, by decide, by decide, fun n hn => ?_, by rw [List.length_map]; exact hl⟩
      obtain ⟨m, _, rfl⟩ := List.mem_map.mp hn
      exact absI_nn m
end Ow
set_option Elab.async false
set_option linter.all false
set_option maxRecDepth 100000
set_option maxHeartbeats 4000000
namespace Ow
open PySem PySem.Spec PyProof.Rows L2 OwR OwM
/-- the bag's list at b, its cells at c -/
def BagAt (H : Hp) (b c : Addr) (x0 x1 x2 : Int) : Prop := H b = some (.lst [.int x0, .int x1, .int x2, .ref c]) ∧ 0 ≤ x0 ∧ 0 ≤ x1 ∧ x1 < 2147483647 ∧ 0 ≤ x2
theorem okLawTake {P : Program} {w : World} {K : PySem.W.Frag} {mg : PySem.Str → Option Value} {base : Heap} {k : Nat} (T : Tx0 K mg) : FnOk P w K mg base CX0 (k + 1) T.dLawTake.f T.dLawTake.fd ["_law_bag_here", "_law_many"] spLawTake := by
  refine FunD.ok T.dLawTake.F scLawTake (fun vs H Q E h => ?len) (fun cdv A outer s H vs Q E hr h => ?run)
  case len =>
    obtain ⟨_, _, _, rfl, _⟩ := h
    rfl
  case run =>
    obtain ⟨b, bc, m, rfl, h⟩ := h
    refine ⟨_, PSs.nox (pss_cons (ps_if (pt_cmpR op_eq (pe_ix ix_list (pv 0) pe_int (fun _ _ => rfl)) pe_int (nomark _))
        (pss_cons (ps_set (i := 2) scLawTake.nd rfl (.inl rfl) pe_int)
        (pss_cons (ps_if (pt_cmpR op_lt (pe_ix ix_list (pv 0) pe_int (fun _ _ => rfl)) (pe_callB call_len_seq (by rfl) T.m_len (by decide +kernel) (pa_cons (pe_ix ix_list (pv 0) pe_int (fun _ _ => rfl)) pa_nil)) (nomark _))
          (pss_one (ps_set (i := 2) scLawTake.nd rfl (.inl rfl) (pe_ix ix_list (pe_ix ix_list (pv 0) pe_int (fun _ _ => rfl)) (pe_ix ix_list (pv 0) pe_int (fun _ _ => rfl)) (fun _ _ => rfl))))
          pss_nil)
        (pss_cons (ps_augS (pv 0) pe_int get_list pe_int ip_add set_list)
        (pss_cons (ps_if (pt_cmpR op_ge (pv 2) pe_int (nomark _))
          (pss_one (ps_asg (pv 2) (pg_sub (pv 0) pe_int set_list)))
          pss_nil)
        (pss_one (ps_asg (pe_op op_mod (pe_op op_add (pe_op op_add (pe_op op_mul (pe_ix ix_list (pv 0) pe_int (fun _ _ => rfl)) pe_int) (pe_op op_mod (pv 2) pe_int)) (pe_op op_mul pe_int (pe_ix ix_list (pv 0) pe_int (fun _ _ => rfl)))) pe_int) (pg_sub (pv 0) pe_int set_list)))))))
        pss_nil)
      (pss_cons (ps_if (pt_cmpR op_gt (pe_ix ix_list (pv 0) pe_int (fun _ _ => rfl)) pe_int (nomark _))
        (pss_cons (ps_set (i := 3) scLawTake.nd rfl (.inl rfl) (pe_op op_mod (pe_ix ix_list (pv 0) pe_int (fun _ _ => rfl)) (pv 1)))
        (pss_cons (ps_asg (pe_op op_fdiv (pe_ix ix_list (pv 0) pe_int (fun _ _ => rfl)) (pv 1)) (pg_sub (pv 0) pe_int set_list))
        (pss_one (ps_ret (pv 3)))))
        pss_nil)
      (pss_cons (ps_set (i := 4) scLawTake.nd rfl (.inl rfl) (pe_op op_mod (pe_op op_mul (pe_op op_add (pe_ix ix_list (pv 0) pe_int (fun _ _ => rfl)) pe_int) pe_int) pe_int))
      (pss_cons (ps_set (i := 5) scLawTake.nd rfl (.inl rfl) (pe_op op_mod (pe_op op_mul (pe_op op_mod (pe_op op_mul (pv 4) (pv 4)) pe_int) pe_int) pe_int))
      (pss_cons (ps_if (pt_cmpR op_gt (pv 1) pe_int (nomark _))
        (pss_one (ps_ret (pe_op op_mod (pe_op op_add (pe_op op_mul (pv 5) pe_int) (pv 4)) (pv 1))))
        pss_nil)
      (pss_one (ps_ret (pe_op op_mod (pe_op op_fdiv (pv 5) pe_int) (pv 1))))))))), ?_⟩
    obtain ⟨h1, hm, hB, q⟩ := h
    have bc' := hB.ne
    obtain ⟨x0, x1, x2, ns, eb, ec, p0, p1, p1', p2, hns, hl⟩ := hB
    have qq : ∀ (H' : Hp) (y0 y1 y2 z : Int), 0 ≤ z → z < (m : Int) → BagAt H' b bc y0 y1 y2 → KeptBut [b] H H' → Q (.int z) H' := fun H' y0 y1 y2 z z0 zm ⟨e1, e2, e3, e4, e5⟩ k => by
      have e : z = ((z.toNat : Nat) : Int) := by omega
      rw [e]
      exact q H' z.toNat (by omega) ⟨y0, y1, y2, ns, e1, k.at bc' ec, e2, e3, e4, e5, hns, hl⟩ k
    refine seq_rest (fun σ H1 => ∃ y2 z0 z1 z2, σ = [some (.ref b), some (nV m), y2, none, none, none] ∧ KeptBut [b] H H1 ∧ BagAt H1 b bc z0 z1 z2) (fun σ H1 hh => ?_) (fun R hR => ?_)
    · obtain ⟨y2, z0, z1, z2, rfl, k1, e1, e2, e3, e4, e5⟩ := hh
      refine ⟨.ref b, rfl, b, _, 0, _, rfl, rfl, same_at e1, atI_nat (j := 0) rfl, z0, 0, rfl, rfl, _, rfl, ite2 (fun e => ?_) (fun e => ?_)⟩
      · have hp := of_decide_eq_true e
        refine ⟨.ref b, rfl, b, _, 0, _, rfl, rfl, same_at e1, atI_nat (j := 0) rfl, nV m, rfl, z0, m, rfl, rfl, by omega, ?_⟩
        refine ⟨.ref b, rfl, b, _, 0, _, rfl, rfl, same_at e1, atI_nat (j := 0) rfl, nV m, rfl, z0, m, rfl, rfl, ⟨by omega, by omega⟩, .ref b, rfl, b, _, 0, 0, rfl, rfl, e1, rfl, ?_⟩
        exact ⟨_, rfl, qq _ (z0 / (m : Int)) z1 z2 _ (Int.emod_nonneg _ (by omega)) (Int.emod_lt_of_pos _ (by omega)) ⟨upd_same, Int.ediv_nonneg e2 (by omega), e3, e4, e5⟩ k1.new⟩
      · refine ⟨.ref b, rfl, b, _, 1, _, rfl, rfl, same_at e1, atI_nat (j := 1) rfl, z1, 1, rfl, rfl, z1 + 1, 39373, rfl, rfl, .inr ⟨by decide, by decide⟩, _, 1000000007, rfl, rfl, (by show (0 : Int) < 1000000007; decide), ?_⟩
        dsimp only
        have f1 : 0 ≤ (z1 + 1) * 39373 % 1000000007 := Int.emod_nonneg _ (by decide)
        have f2 : (z1 + 1) * 39373 % 1000000007 < 1000000007 := Int.emod_lt_of_pos _ (by decide)
        generalize (z1 + 1) * 39373 % 1000000007 = f at f1 f2
        refine ⟨.int f, rfl, .int f, rfl, f, f, rfl, rfl, .inl ⟨by omega, by omega⟩, _, 998244353, rfl, rfl, (by show (0 : Int) < 998244353; decide), _, 30011, rfl, rfl, .inr ⟨by decide, by decide⟩, _, 998244353, rfl, rfl, (by show (0 : Int) < 998244353; decide), ?_⟩
        dsimp only
        have g1 : 0 ≤ f * f % 998244353 * 30011 % 998244353 := Int.emod_nonneg _ (by decide)
        generalize f * f % 998244353 * 30011 % 998244353 = g at g1
        refine ⟨nV m, rfl, m, 1000000, rfl, rfl, _, rfl, ?_⟩
        rw [decide_eq_false (show ¬ (1000000 : Int) < (m : Int) by omega)]
        refine iteF ⟨.int g, rfl, g, 7, rfl, rfl, ⟨by decide, by decide⟩, nV m, rfl, _, m, rfl, rfl, by omega, ?_⟩
        exact qq _ z0 z1 z2 _ (Int.emod_nonneg _ (by omega)) (Int.emod_lt_of_pos _ (by omega)) ⟨e1, e2, e3, e4, e5⟩ k1
    · refine ⟨.ref b, rfl, b, _, 0, _, rfl, rfl, same_at eb, atI_nat (j := 0) rfl, rfl, _, rfl, ite2 (fun e => ?_) (fun e => ?_)⟩
      · refine seq_name ?_
        refine seq_rest (fun σ H1 => ∃ z : Int, 0 ≤ z ∧ σ = [some (.ref b), some (nV m), some (.int z), none, none, none] ∧ H = H1) (fun σ H1 hh => ?_) (fun R' hR' => ?_)
        · obtain ⟨z, hz, rfl, rfl⟩ := hh
          refine ⟨.ref b, rfl, b, _, 2, _, rfl, rfl, same_at eb, atI_nat (j := 2) rfl, x2, 1, rfl, rfl, b, _, 2, 2, rfl, rfl, eb, rfl, ?_⟩
          have k1 : KeptBut [b] H (upd H b (.lst [.int x0, .int x1, .int (x2 + 1), .ref bc])) := (KeptBut.refl _ _).new
          have e1 : (upd H b (.lst [.int x0, .int x1, .int (x2 + 1), .ref bc])) b = some (.lst [.int x0, .int x1, .int (x2 + 1), .ref bc]) := upd_same
          dsimp only [List.set]
          generalize upd H b (.lst [.int x0, .int x1, .int (x2 + 1), .ref bc]) = H1 at k1 e1
          refine seq_rest (fun σ H2 => ∃ y0 : Int, 0 ≤ y0 ∧ σ = [some (.ref b), some (nV m), some (.int z), none, none, none] ∧ KeptBut [b] H H2 ∧ H2 b = some (.lst [.int y0, .int x1, .int (x2 + 1), .ref bc])) (fun σ H2 hh => ?_) (fun R'' hR'' => ?_)
          · obtain ⟨y0, hy0, rfl, k2, e2⟩ := hh
            refine ⟨.ref b, rfl, b, _, 1, _, rfl, rfl, same_at e2, atI_nat (j := 1) rfl, x1, 48271, rfl, rfl, .inr ⟨by decide, by decide⟩, .int z, rfl, z, 2147483647, rfl, rfl, (by show (0 : Int) < 2147483647; decide), _, _, rfl, rfl, .ref b, rfl, b, _, 2, _, rfl, rfl, same_at e2, atI_nat (j := 2) rfl, 7919, x2 + 1, rfl, rfl, .inl ⟨by decide, by decide⟩, _, _, rfl, rfl, _, 2147483647, rfl, rfl, (by show (0 : Int) < 2147483647; decide), .ref b, rfl, b, _, 1, 1, rfl, rfl, e2, rfl, ?_⟩
            exact hR _ _ ⟨_, y0, _, x2 + 1, rfl, k2.new, upd_same, hy0, Int.emod_nonneg _ (by decide), Int.emod_lt_of_pos _ (by decide), by omega⟩
          · refine ⟨.int z, rfl, z, _, rfl, rfl, _, rfl, ite2 (fun e => ?_) (fun e => ?_)⟩
            · exact ⟨.int z, rfl, .ref b, rfl, b, _, 0, 0, rfl, rfl, e1, rfl, hR'' _ _ ⟨z, hz, rfl, k1.new, upd_same⟩⟩
            · exact hR'' _ _ ⟨x0, p0, rfl, k1, e1⟩
        · refine ⟨.ref b, rfl, b, _, 2, _, rfl, rfl, same_at eb, atI_nat (j := 2) rfl, .ref b, rfl, b, _, 3, _, rfl, rfl, same_at eb, atI_nat (j := 3) rfl, bc, _, rfl, .inl (same_at ec), x2, _, rfl, rfl, _, rfl, ite2 (fun e => ?_) (fun e => ?_)⟩
          · have hlt := of_decide_eq_true e
            rw [List.length_map] at hlt
            have hx : x2.toNat < ns.length := by omega
            have en : (ns.map V.int)[x2.toNat]? = some (.int ns[x2.toNat]) := by
              rw [List.getElem?_map, List.getElem?_eq_getElem hx]
              rfl
            have ea : atI (ns.map V.int) x2 = some (.int ns[x2.toNat]) := by
              have e3 : x2 = ((x2.toNat : Nat) : Int) := by omega
              conv => lhs; rw [e3]
              exact atI_nat en
            refine ⟨.ref b, rfl, b, _, 3, _, rfl, rfl, same_at eb, atI_nat (j := 3) rfl, .ref b, rfl, b, _, 2, _, rfl, rfl, same_at eb, atI_nat (j := 2) rfl, bc, _, x2, _, rfl, rfl, same_at ec, ea, ?_⟩
            exact hR' _ _ ⟨_, hns _ (List.getElem_mem hx), rfl, rfl⟩
          · exact hR' _ _ ⟨0, by decide, rfl, rfl⟩
      · exact hR _ _ ⟨none, x0, x1, x2, rfl, .refl _ _, eb, p0, p1, p1', p2⟩
end Ow
set_option Elab.async false
set_option linter.all false
set_option maxRecDepth 100000
set_option maxHeartbeats 4000000
namespace Ow
open PySem PySem.Spec PyProof.Rows L2 OwR OwM
theorem okLawAlike {P : Program} {w : World} {K : PySem.W.Frag} {mg : PySem.Str → Option Value} {base : Heap} {k : Nat} (T : Tx0 K mg) : FnG P w K mg base (k + 1) T.dLawAlike.f T.dLawAlike.fd ["_law_found", "_law_due"] (spLawAlike K) := by
  refine fnG_of T.dLawAlike.F scLawAlike (fun vs H Q E h => ?len) (fun cdv A outer s H vs Q hr hgd h => ?run)
  case len =>
    obtain ⟨_, _, _, rfl, _⟩ := h
    rfl
  case run =>
    obtain ⟨x, y, d, rfl, h⟩ := h
    refine ⟨_, (pss_one (ps_ret (pe_and (pe_cmpR (op_eqD hr.units) (pv 0) (pv 1) (nomark _)) (pe_one (pe_cmpR op_eq (pe_callB (call_reprD hr hgd) (by rfl) T.m_repr (by decide +kernel) (pa_cons (pv 0) pa_nil)) (pe_callB (call_reprD hr hgd) (by rfl) T.m_repr (by decide +kernel) (pa_cons (pv 1) pa_nil)) (nomark _)))))), ?_⟩
    obtain ⟨hx, hy, tx, ty, hsh, hs, hd, hdep, hlen, q⟩ := h
    refine ⟨x, rfl, y, rfl, d, d, hx, hy, hsh, hsh, _, rfl, ?_⟩
    rw [eqv_self d hsh]
    refine iteT ⟨x, rfl, x, d, rfl, hx, tx, hs, hd, hdep, hlen, y, rfl, y, d, rfl, hy, ty, hs, hd, hdep, hlen, rfl, ?_⟩
    rw [decide_eq_true rfl]
    exact q
end Ow
set_option Elab.async false
set_option linter.all false
set_option maxRecDepth 100000
set_option maxHeartbeats 4000000
namespace Ow
open PySem PySem.Spec PyProof.Rows L2 OwR OwM
theorem okLawCalled {P : Program} {w : World} {K : PySem.W.Frag} {mg : PySem.Str → Option Value} {base : Heap} {k : Nat} (T : Tx0 K mg) : FnOk P w K mg base CX0 (k + 1) T.dLawCalled.f T.dLawCalled.fd ["_law_row_here", "_law_place"] spLawCalled := by
  refine FunD.ok T.dLawCalled.F scLawCalled (fun vs H Q E h => ?len) (fun cdv A outer s H vs Q E hr h => ?run)
  case len =>
    obtain ⟨_, _, rfl, _⟩ := h
    rfl
  case run =>
    obtain ⟨r, p, rfl, h⟩ := h
    refine ⟨_, PSs.nox (pss_cons (ps_par (i := 2) (j := 3) (by rfl) scLawCalled.nd rfl rfl (by decide) rfl rfl (pa_cons (pe_slice sl_str (pv 0) po_none (po_some (pv 1))) (pa_cons (pe_slice sl_str (pv 0) (po_some (pe_op op_add (pv 1) pe_int)) po_none) pa_nil)) (by rfl))
      (pss_one (ps_ret (pe_op op_add_str (pe_op op_add_str (pe_op op_add_str (pe_op op_add_str (pv 2) (pv 2)) (pe_ix ix_str (pv 0) (pv 1) (fun _ _ => rfl))) (pv 3)) (pv 3))))), ?_⟩
    obtain ⟨hp, hl, q⟩ := h
    obtain ⟨x, hx⟩ : ∃ x, r[p]? = some x := ⟨_, List.getElem?_eq_getElem hp⟩
    have h1 : (r.take p).length ≤ 100000 := by rw [List.length_take]; omega
    have h2 : (r.drop (p + 1)).length ≤ 100000 := by rw [List.length_drop]; omega
    refine ⟨sV r, rfl, nV p, rfl, p, rfl, tS r, rfl, len_ok hl, sV r, rfl, nV p, rfl, p, 1, rfl, rfl, _, rfl, tS r, rfl, len_ok hl, _, _, rfl, ?_⟩
    rw [cutE_to, show ((p : Int) + 1) = ((p + 1 : Nat) : Int) from rfl, cutE_from]
    refine ⟨sV (r.take p), rfl, sV (r.take p), rfl, tS (r.take p), tS (r.take p), rfl, rfl, cat_ok h1 h1 (by decide), ?_⟩
    rw [tS_app]
    refine ⟨sV r, rfl, nV p, rfl, tS r, p, x, rfl, rfl, len_ok hl, atI_nat (by rw [tS_list]; exact hx), ?_⟩
    refine ⟨tS (r.take p ++ r.take p), tS [x], rfl, rfl, cat_ok (a := 200000) (b := 1) (by rw [List.length_append]; omega) (Nat.le_refl _) (by decide), ?_⟩
    rw [tS_app]
    refine ⟨sV (r.drop (p + 1)), rfl, tS ((r.take p ++ r.take p) ++ [x]), tS (r.drop (p + 1)), rfl, rfl, cat_ok (a := 200001) (b := 100000) (by rw [List.length_append, List.length_append]; show _ + 1 ≤ _; omega) h2 (by decide), ?_⟩
    rw [tS_app]
    refine ⟨sV (r.drop (p + 1)), rfl, tS (((r.take p ++ r.take p) ++ [x]) ++ r.drop (p + 1)), tS (r.drop (p + 1)), rfl, rfl, cat_ok (a := 300001) (b := 100000) (by rw [List.length_append, List.length_append, List.length_append]; show _ + 1 + _ ≤ _; omega) h2 (by decide), ?_⟩
    rw [tS_app, call_cut hx]
    exact q
end Ow
set_option Elab.async false
set_option linter.all false
set_option maxRecDepth 100000
set_option maxHeartbeats 4000000
namespace Ow
open PySem PySem.Spec PyProof.Rows L2 OwR OwM
def lasts (L : Nat) (ns : List Nat) (i : Nat) : List V := (List.range (i + 1)).map fun k => nV (lastOf L (ns.take k))
theorem lasts_next (L : Nat) (ns : List Nat) (i : Nat) : lasts L ns (i + 1) = lasts L ns i ++ [nV (lastOf L (ns.take (i + 1)))] := by
  unfold lasts
  rw [List.range_succ, List.map_append]
  rfl
theorem lasts_last (L : Nat) (ns : List Nat) (i : Nat) : atI (lasts L ns i) (-1) = some (nV (lastOf L (ns.take i))) := by
  unfold lasts
  rw [List.range_succ, List.map_append]
  exact atI_last _ _
theorem lasts_at (L : Nat) (ns : List Nat) {i k : Nat} (h : k ≤ i) : atI (lasts L ns i) (k : Int) = some (nV (lastOf L (ns.take k))) := by
  refine atI_nat ?_
  unfold lasts
  rw [List.getElem?_map, List.getElem?_range (by omega)]
  rfl
theorem okLawLetter {P : Program} {w : World} {K : PySem.W.Frag} {mg : PySem.Str → Option Value} {base : Heap} {k : Nat} (T : Tx0 K mg) : FnOk P w K mg base CX0 (k + 1) T.dLawLetter.f T.dLawLetter.fd ["_law_row_here", "_law_story_here", "_law_place"] (spLawLetter K) := by
  refine FunD.ok T.dLawLetter.F scLawLetter (fun vs H Q E h => ?len) (fun cdv A outer s H vs Q E hr h => ?run)
  case len =>
    obtain ⟨_, _, _, _, _, rfl, _⟩ := h
    rfl
  case run =>
    obtain ⟨r, ns, a, i, x, rfl, h⟩ := h
    refine ⟨_, PSs.nox (pss_cons (ps_set (i := 3) scLawLetter.nd rfl (.inl rfl) (pe_lst (pa_cons (pe_op op_sub (pe_callB call_len_str (by rfl) T.m_len (by decide +kernel) (pa_cons (pv 0) pa_nil)) pe_int) pa_nil)))
      (pss_cons (ps_for PassesOwn.never rfl (pi_list (pv 1)) (pg_name (i := 4) scLawLetter.nd rfl (.inl rfl))
        (pss_one (ps_expr (pe_bm PySem.F.plainAttrs_list PySem.F.slot_list_append PySem.F.type_list_append mt_append (pv 3) (pa_cons (pe_op op_mul pe_int (pe_ix ix_list (pv 3) (pe_un un_neg pe_int) (fun _ _ => rfl))) pa_nil)))))
      (pss_cons (ps_for PassesOwn.never rfl (pi_range3 (by rfl) T.m_range (pa_cons (pe_op op_sub (pe_callB call_len_seq (by rfl) T.m_len (by decide +kernel) (pa_cons (pv 1) pa_nil)) pe_int) (pa_cons (pe_un un_neg pe_int) (pa_cons (pe_un un_neg pe_int) pa_nil)))) (pg_name (i := 5) scLawLetter.nd rfl (.inl rfl))
        (pss_one (ps_if (pt_cmpR op_gt (pv 2) (pe_op op_add (pe_ix ix_list (pv 1) (pv 5) (fun _ _ => rfl)) (pe_ix ix_list (pv 3) (pv 5) (fun _ _ => rfl))) (nomark _))
          (pss_one (ps_set (i := 2) scLawLetter.nd rfl (.inl rfl) (pe_op op_sub (pv 2) (pe_ix ix_list (pv 3) (pv 5) (fun _ _ => rfl)))))
          (pss_one (ps_if (pt_cmpR op_ge (pv 2) (pe_ix ix_list (pv 1) (pv 5) (fun _ _ => rfl)) (nomark _))
            (pss_one (ps_set (i := 2) scLawLetter.nd rfl (.inl rfl) (pe_op op_sub (pv 2) (pe_ix ix_list (pv 1) (pv 5) (fun _ _ => rfl)))))
            pss_nil)))))
      (pss_one (ps_ret (pe_ix ix_str (pv 0) (pv 2) (fun _ _ => rfl))))))), ?_⟩
    obtain ⟨hS, hr0, hrl, hi, hl, hx, q⟩ := h
    have hp := List.length_pos_iff.mpr hr0
    have e0 : V.int (((tS r).length : Int) - 1) = nV (r.length - 1) := by
      rw [tS_len]
      show V.int ((r.length : Int) - 1) = V.int ((r.length - 1 : Nat) : Int)
      rw [Int.ofNat_sub hp]
      rfl
    refine ⟨sV r, rfl, tS r, rfl, len_ok hrl, _, 1, rfl, rfl, (by show 1 ≤ sizeLine; decide), fun o no => ?_⟩
    refine ⟨.ref a, rfl, a, rfl, ⟨_, (same_upd no).seq hS⟩, ?_⟩
    refine for_list (xs := ns.map nV) (fun i' σ H' => ∃ y, σ = [some (sV r), some (.ref a), some (nV i), some (.ref o), y, none] ∧ Same H H' ∧ H' o = some (.lst (lasts (r.length - 1) ns i'))) ⟨none, rfl, same_upd no, ?_⟩ (fun i' σ H' _ hh => ?_) (fun i' x' σ H' hx' hh => ?_) (fun σ H' hh => ?_)
    · rw [upd_same]
      unfold lasts
      show some (HO.lst [V.int (((tS r).length : Int) - 1)]) = some (HO.lst [nV (lastOf (r.length - 1) (ns.take 0))])
      rw [e0]
      rw [List.take_zero]
      unfold lastOf
      rw [List.length_nil, Nat.pow_zero, Nat.mul_one]
    · obtain ⟨_, _, sm, _⟩ := hh
      exact sm.seq hS
    · obtain ⟨_, rfl, sm, eo⟩ := hh
      obtain ⟨p, e, rfl, hlt⟩ := take_nV hx'
      refine ⟨.ref o, rfl, .inl ⟨rfl, _, .inl (.inl eo)⟩, .ref o, rfl, 1, rfl, o, _, -1, _, rfl, rfl, .inl (.inl eo), lasts_last _ _ _, 2, _, rfl, rfl, .inl ⟨by decide, by decide⟩, o, _, _, rfl, rfl, eo, ?_, ?_⟩
      · unfold lasts
        rw [List.length_map, List.length_range]
        have := big_line
        omega
      · refine ⟨some (nV p), rfl, same_upd2 sm no, ?_⟩
        rw [upd_same, lasts_next, last_next e]
        rfl
    · obtain ⟨y, rfl, sm, eo⟩ := hh
      rw [List.length_map] at eo
      refine ⟨.ref a, rfl, a, _, rfl, .inl (sm.seq hS), _, 1, rfl, rfl, 1, rfl, 1, rfl, ((ns.map nV).length : Int) - 1, -1, -1, _, rfl, RgC.neg (by rw [List.length_map]; omega) (by rw [List.length_map]; omega) (by decide) (by decide), ?_⟩
      have en : (((ns.map nV).length : Int) - 1 - -1).toNat = ns.length := by
        rw [List.length_map]
        omega
      rw [en]
      refine for_rangeC (fun j σ H' => ∃ pl y4 y5, σ = [some (sV r), some (.ref a), some (nV pl), some (.ref o), y4, y5] ∧ (follow r (ns.take (ns.length - j)))[pl]? = some x ∧ Same H H' ∧ H' o = some (.lst (lasts (r.length - 1) ns ns.length))) ⟨i, y, none, rfl, ?_, sm, eo⟩ (fun j σ H' hj hh => ?_) (fun σ H' hh => ?_)
      · rw [Nat.sub_zero, List.take_length]
        exact hx
      · obtain ⟨pl, y4, y5, rfl, hpl, sm', eo'⟩ := hh
        obtain ⟨k, hk⟩ : ∃ k, ns.length - j = k + 1 := ⟨ns.length - j - 1, by omega⟩
        have ek : (((ns.map nV).length : Int) - 1 + (j : Int) * -1) = ((k : Nat) : Int) := by
          rw [List.length_map]
          omega
        rw [ek]
        have hkn : k < ns.length := by omega
        have gk : ns[k]? = some ns[k] := List.getElem?_eq_getElem hkn
        have gV : (ns.map nV)[k]? = some (nV ns[k]) := by
          rw [List.getElem?_map, gk]
          rfl
        have hR := follow_len hr0 (story_take k hi)
        have hpk := story_at hi gk
        rw [hk, follow_next gk, call_get (by omega)] at hpl
        have e1 : ns.length - (j + 1) = k := by omega
        rw [hR, Nat.add_sub_cancel] at hpl
        refine ⟨nV pl, rfl, .ref a, rfl, nV k, rfl, a, _, k, _, rfl, rfl, sm'.seq hS, atI_nat gV, .ref o, rfl, nV k, rfl, o, _, k, _, rfl, rfl, .inl (.inl eo'), lasts_at _ _ (by omega), _, _, rfl, rfl, _, _, rfl, rfl, _, rfl, ite2 (fun e => ?_) (fun e => ?_)⟩
        · have e' : ns[k] + lastOf (r.length - 1) (ns.take k) < pl := by
            have := of_decide_eq_true e
            omega
          rw [if_pos e'] at hpl
          refine ⟨nV pl, rfl, .ref o, rfl, nV k, rfl, o, _, k, _, rfl, rfl, .inl (.inl eo'), lasts_at _ _ (by omega), _, _, rfl, rfl, ?_⟩
          refine ⟨pl - lastOf (r.length - 1) (ns.take k), y4, some (nV k), ?_, by rw [e1]; exact hpl, sm', eo'⟩
          show [some (sV r), some (V.ref a), some (V.int ((pl : Int) - ((lastOf (r.length - 1) (ns.take k) : Nat) : Int))), some (V.ref o), y4, some (nV k)] = _
          rw [int_sub (by omega)]
        · have e' : ¬ ns[k] + lastOf (r.length - 1) (ns.take k) < pl := fun z => e (decide_eq_true (by omega))
          rw [if_neg e'] at hpl
          refine ⟨nV pl, rfl, .ref a, rfl, nV k, rfl, a, _, k, _, rfl, rfl, sm'.seq hS, atI_nat gV, _, _, rfl, rfl, _, rfl, ite2 (fun e2 => ?_) (fun e2 => ?_)⟩
          · have e3 : ns[k] ≤ pl := by
              have := of_decide_eq_true e2
              omega
            rw [if_pos e3] at hpl
            refine ⟨nV pl, rfl, .ref a, rfl, nV k, rfl, a, _, k, _, rfl, rfl, sm'.seq hS, atI_nat gV, _, _, rfl, rfl, ?_⟩
            refine ⟨pl - ns[k], y4, some (nV k), ?_, by rw [e1]; exact hpl, sm', eo'⟩
            show [some (sV r), some (V.ref a), some (V.int ((pl : Int) - ((ns[k] : Nat) : Int))), some (V.ref o), y4, some (nV k)] = _
            rw [int_sub (by omega)]
          · have e3 : ¬ ns[k] ≤ pl := fun z => e2 (decide_eq_true (by omega))
            rw [if_neg e3] at hpl
            exact ⟨pl, y4, some (nV k), rfl, by rw [e1]; exact hpl, sm', eo'⟩
      · obtain ⟨pl, y4, y5, rfl, hpl, sm', eo'⟩ := hh
        rw [Nat.sub_self, List.take_zero] at hpl
        exact ⟨sV r, rfl, nV pl, rfl, tS r, pl, x, rfl, rfl, len_ok hrl, atI_nat (by rw [tS_list]; exact hpl), q H' sm'⟩
end Ow
set_option Elab.async false
set_option linter.all false
set_option maxRecDepth 100000
set_option maxHeartbeats 4000000
namespace Ow
open PySem PySem.Spec PyProof.Rows L2 OwR OwM
theorem okLawLast {P : Program} {w : World} {K : PySem.W.Frag} {mg : PySem.Str → Option Value} {base : Heap} {k : Nat} (T : Tx0 K mg) : FnOk P w K mg base CX0 (k + 1) T.dLawLast.f T.dLawLast.fd ["_law_row_here", "_law_story_here"] (spLawLast K) := by
  refine FunD.ok T.dLawLast.F scLawLast (fun vs H Q E h => ?len) (fun cdv A outer s H vs Q E hr h => ?run)
  case len =>
    obtain ⟨_, _, _, rfl, _⟩ := h
    rfl
  case run =>
    obtain ⟨r, ns, a, rfl, h⟩ := h
    refine ⟨_, PSs.nox (pss_cons (ps_set (i := 2) scLawLast.nd rfl (.inl rfl) (pe_op op_sub (pe_callB call_len_str (by rfl) T.m_len (by decide +kernel) (pa_cons (pv 0) pa_nil)) pe_int))
      (pss_cons (ps_for PassesOwn.never rfl (pi_list (pv 1)) (pg_name (i := 3) scLawLast.nd rfl (.inl rfl))
        (pss_one (ps_set (i := 2) scLawLast.nd rfl (.inl rfl) (pe_op op_mul pe_int (pv 2)))))
      (pss_one (ps_ret (pv 2))))), ?_⟩
    obtain ⟨hS, hr0, hrl, hl, q⟩ := h
    have hp := List.length_pos_iff.mpr hr0
    refine ⟨sV r, rfl, tS r, rfl, len_ok hrl, _, 1, rfl, rfl, ?_⟩
    refine ⟨.ref a, rfl, a, rfl, ⟨_, hS⟩, ?_⟩
    refine for_list (xs := ns.map nV) (fun i σ H' => ∃ y, σ = [some (sV r), some (.ref a), some (nV (lastOf (r.length - 1) (ns.take i))), y] ∧ H' = H) ⟨none, ?_, rfl⟩ (fun i σ H' _ hh => ?_) (fun i x σ H' hx hh => ?_) (fun σ H' hh => ?_)
    · rw [List.take_zero]
      unfold lastOf
      rw [List.length_nil, Nat.pow_zero, Nat.mul_one, tS_len]
      show [some (sV r), some (V.ref a), some (V.int ((r.length : Int) - 1)), none] = [some (sV r), some (V.ref a), some (V.int ((r.length - 1 : Nat) : Int)), none]
      rw [Int.ofNat_sub hp]
      rfl
    · obtain ⟨_, _, rfl⟩ := hh
      exact hS
    · obtain ⟨_, rfl, rfl⟩ := hh
      obtain ⟨p, e, rfl, _⟩ := take_nV hx
      refine ⟨_, rfl, 2, _, rfl, rfl, .inl ⟨by decide, by decide⟩, some (nV p), ?_, rfl⟩
      rw [last_next e]
      rfl
    · obtain ⟨_, rfl, rfl⟩ := hh
      refine ⟨_, rfl, ?_⟩
      rw [List.length_map, List.take_length]
      exact q
end Ow
set_option Elab.async false
set_option linter.all false
set_option maxRecDepth 100000
set_option maxHeartbeats 4000000
namespace Ow
open PySem PySem.Spec PyProof.Rows L2 OwR OwM
theorem okLawIsStory {P : Program} {w : World} {K : PySem.W.Frag} {mg : PySem.Str → Option Value} {base : Heap} {k : Nat} (T : Tx0 K mg) : FnOk P w K mg base CX0 (k + 1) T.dLawIsStory.f T.dLawIsStory.fd ["_law_row_here", "_law_thing"] (spLawIsStory K) := by
  refine FunD.ok T.dLawIsStory.F scLawIsStory (fun vs H Q E h => ?len) (fun cdv A outer s H vs Q E hr h => ?run)
  case len =>
    obtain ⟨_, _, _, rfl, _⟩ := h
    rfl
  case run =>
    obtain ⟨r, ns, a, rfl, h⟩ := h
    refine ⟨_, PSs.nox (pss_cons (ps_if (PW.pt (pw_or (pt_not (pt_val (pe_callB call_isi (by rfl) T.m_isinstance (by decide +kernel) (pa_cons (pv 1) (pa_cons (pe_bltn (v := .ty "list") (by rfl) T.m_list (by decide +kernel) rfl) pa_nil))))) (pw_or1 (pt_cmpR op_gt (pe_callB call_len (by rfl) T.m_len (by decide +kernel) (pa_cons (pv 1) pa_nil)) pe_int (nomark _)))))
        (pss_one (ps_ret pe_bl))
        pss_nil)
      (pss_cons (ps_set (i := 2) scLawIsStory.nd rfl (.inl rfl) (pe_op op_sub (pe_callB call_len_str (by rfl) T.m_len (by decide +kernel) (pa_cons (pv 0) pa_nil)) pe_int))
      (pss_cons (ps_for PassesOwn.never rfl (pi_list (pv 1)) (pg_name (i := 3) scLawIsStory.nd rfl (.inl rfl))
        (pss_cons (ps_if (PW.pt (pw_or (pt_val (pe_callB call_isi (by rfl) T.m_isinstance (by decide +kernel) (pa_cons (pv 3) (pa_cons (pe_bltn (v := .ty "bool") (by rfl) T.m_bool (by decide +kernel) rfl) pa_nil)))) (pw_or (pt_not (pt_val (pe_callB call_isi (by rfl) T.m_isinstance (by decide +kernel) (pa_cons (pv 3) (pa_cons (pe_bltn (v := .ty "int") (by rfl) T.m_int (by decide +kernel) rfl) pa_nil))))) (pw_or1 (pt_not (pt_chain op_le op_le pe_int (pv 3) (pv 2)))))))
          (pss_one (ps_ret pe_bl))
          pss_nil)
        (pss_one (ps_set (i := 2) scLawIsStory.nd rfl (.inl rfl) (pe_op op_mul pe_int (pv 2))))))
      (pss_one (ps_ret pe_bl))))), ?_⟩
    obtain ⟨hS, hrl, hi, hl, hr0, q⟩ := h
    have hp := List.length_pos_iff.mpr hr0
    refine ⟨.ref a, rfl, .ref a, .ty "list", .type "list", .type "list", true, rfl, .ty _, tyx_seq hS, kit_ty (by decide +kernel), true, rfl, ?_⟩
    refine iteF ?_
    refine ⟨.ref a, rfl, .ref a, (ns.map nV).length, rfl, .inl ⟨_, hS, rfl⟩, _, _, rfl, rfl, _, rfl, ?_⟩
    rw [show decide ((((ns.map nV).length : Nat) : Int) > 64) = false by
      rw [List.length_map]
      exact decide_eq_false (by omega)]
    refine iteF ?_
    refine ⟨sV r, rfl, tS r, rfl, len_ok hrl, _, 1, rfl, rfl, ?_⟩
    refine ⟨.ref a, rfl, a, rfl, ⟨_, hS⟩, ?_⟩
    refine for_list (xs := ns.map nV) (fun i σ H' => ∃ y, σ = [some (sV r), some (.ref a), some (nV (lastOf (r.length - 1) (ns.take i))), y] ∧ H' = H) ⟨none, ?_, rfl⟩ (fun i σ H' _ hh => ?_) (fun i x σ H' hx hh => ?_) (fun σ H' hh => ?_)
    · rw [List.take_zero]
      unfold lastOf
      rw [List.length_nil, Nat.pow_zero, Nat.mul_one, tS_len]
      show [some (sV r), some (V.ref a), some (V.int ((r.length : Int) - 1)), none] = [some (sV r), some (V.ref a), some (V.int ((r.length - 1 : Nat) : Int)), none]
      rw [Int.ofNat_sub hp]
      rfl
    · obtain ⟨_, _, rfl⟩ := hh
      exact hS
    · obtain ⟨_, rfl, rfl⟩ := hh
      obtain ⟨p, e, rfl, _⟩ := take_nV hx
      have hpl := story_at hi e
      refine ⟨nV p, rfl, nV p, .ty "bool", .type "int", .type "bool", false, rfl, .ty _, .base (.int _), kit_ty (by decide +kernel), false, rfl, iteF ?_⟩
      refine ⟨nV p, rfl, nV p, .ty "int", .type "int", .type "int", true, rfl, .ty _, .base (.int _), kit_ty (by decide +kernel), true, rfl, iteF ?_⟩
      refine ⟨nV p, rfl, 0, _, rfl, rfl, _, rfl, ?_⟩
      rw [show decide ((0 : Int) ≤ (p : Int)) = true from decide_eq_true (by omega)]
      refine iteT ⟨_, rfl, _, _, rfl, rfl, _, rfl, ?_⟩
      rw [show decide ((p : Int) ≤ ((lastOf (r.length - 1) (ns.take i) : Nat) : Int)) = true from decide_eq_true (by omega)]
      refine iteF ?_
      refine ⟨_, rfl, 2, _, rfl, rfl, .inl ⟨by decide, by decide⟩, some (nV p), ?_, rfl⟩
      rw [last_next e]
      rfl
    · obtain ⟨_, rfl, rfl⟩ := hh
      exact q
end Ow
set_option Elab.async false
set_option linter.all false
set_option maxRecDepth 100000
set_option maxHeartbeats 4000000
namespace Ow
open PySem PySem.Spec PyProof.Rows L2 OwR OwM
theorem okLawFollows {P : Program} {w : World} {K : PySem.W.Frag} {mg : PySem.Str → Option Value} {base : Heap} {k : Nat} (T : Tx0 K mg) : FnOk P w K mg base CX0 (k + 1) T.dLawFollows.f T.dLawFollows.fd ["_law_part", "_law_known"] spLawFollows := by
  refine FunD.ok T.dLawFollows.F scLawFollows (fun vs H Q E h => ?len) (fun cdv A outer s H vs Q E hr h => ?run)
  case len =>
    obtain ⟨_, _, _, rfl, _⟩ := h
    rfl
  case run =>
    obtain ⟨p, ks, a, rfl, h⟩ := h
    refine ⟨_, PSs.nox (pss_cons (ps_for PassesOwn.never rfl (pi_range2 (by rfl) T.m_range (pa_cons pe_int (pa_cons (pe_callB call_len_str (by rfl) T.m_len (by decide +kernel) (pa_cons (pv 0) pa_nil)) pa_nil))) (pg_name (i := 2) scLawFollows.nd rfl (.inl rfl))
        (pss_cons (ps_par (i := 3) (j := 4) (by rfl) scLawFollows.nd rfl rfl (by decide) rfl rfl (pa_cons (pe_slice sl_str (pv 0) po_none (po_some (pv 2))) (pa_cons (pe_slice sl_str (pv 0) (po_some (pv 2)) po_none) pa_nil)) (by rfl))
        (pss_cons (ps_if (pt_cmpR op_lt (pe_callB call_len_str (by rfl) T.m_len (by decide +kernel) (pa_cons (pv 3) pa_nil)) (pe_callB call_len_str (by rfl) T.m_len (by decide +kernel) (pa_cons (pv 4) pa_nil)) (nomark _))
          (pss_one (ps_par (i := 3) (j := 4) (by rfl) scLawFollows.nd rfl rfl (by decide) rfl rfl (pa_cons (pv 4) (pa_cons (pv 3) pa_nil)) (by rfl)))
          pss_nil)
        (pss_one (ps_if (PW.pt (pw_and (pt_cmpR op_eq (pe_slice sl_str (pv 3) po_none (po_some (pe_callB call_len_str (by rfl) T.m_len (by decide +kernel) (pa_cons (pv 4) pa_nil)))) (pv 4) (nomark _)) (pw_and1 (pt_cmpR op_in_seq (pv 3) (pv 1) (by rfl)))))
          (pss_one (ps_ret pe_bl))
          pss_nil)))))
      (pss_one (ps_ret pe_bl))), ?_⟩
    obtain ⟨eK, hl, q⟩ := h
    refine ⟨sV p, rfl, tS p, rfl, len_ok (by omega), 1, _, rfl, ⟨by decide, by decide, by rw [tS_len]; omega, by rw [tS_len]; omega⟩, ?_⟩
    have en : (((tS p).length : Int) - 1).toNat = p.length - 1 := by
      rw [tS_len]
      omega
    rw [en]
    refine for_rangeN 1 rfl (fun i σ H' => (∃ y2 y3 y4, σ = [some (sV p), some (.ref a), y2, y3, y4]) ∧ H' = H ∧ ∀ c l, 1 ≤ c → c ≤ i → longer p c = some l → l ∉ ks) ⟨⟨none, none, none, rfl⟩, rfl, fun c l h1 h2 => by omega⟩ (fun i σ H' hi hh => ?_) (fun σ H' hh => ?_)
    · obtain ⟨⟨y2, y3, y4, rfl⟩, rfl, hno⟩ := hh
      refine ⟨sV p, rfl, nV (i + 1), rfl, _, rfl, tS p, rfl, len_ok (by omega), sV p, rfl, nV (i + 1), rfl, _, rfl, tS p, rfl, len_ok (by omega), _, _, rfl, ?_⟩
      rw [cutE_to, cutE_from]
      have hlb := fun l => longer_by (p := p) (c := i + 1) (l := l)
      have ht : (p.take (i + 1)).length ≤ 100000 := by
        rw [List.length_take]
        omega
      have hd : (p.drop (i + 1)).length ≤ 100000 := by
        rw [List.length_drop]
        omega
      refine ⟨sV (p.take (i + 1)), rfl, tS (p.take (i + 1)), rfl, len_ok ht, sV (p.drop (i + 1)), rfl, tS (p.drop (i + 1)), rfl, len_ok hd, _, _, rfl, rfl, _, rfl, ?_⟩
      rw [tS_len, tS_len]
      refine ite2 (fun e => ?_) (fun e => ?_)
      · have e' : (p.take (i + 1)).length < (p.drop (i + 1)).length := by
          have := of_decide_eq_true e
          omega
        have hlb : ∀ l, longer p (i + 1) = some l ↔ (p.take (i + 1)) <+: (p.drop (i + 1)) ∧ l = (p.drop (i + 1)) := fun l => by
          have := hlb l
          rw [if_pos e'] at this
          exact this
        refine ⟨sV (p.drop (i + 1)), rfl, sV (p.take (i + 1)), rfl, _, _, rfl, ?_⟩
        refine ⟨sV (p.drop (i + 1)), rfl, sV (p.take (i + 1)), rfl, tS (p.take (i + 1)), rfl, len_ok ht, _, rfl, tS (p.drop (i + 1)), rfl, len_ok hd, sV (p.take (i + 1)), rfl, rfl, _, rfl, ?_⟩
        rw [tS_len, cutE_to]
        by_cases hpre : (p.take (i + 1)) <+: (p.drop (i + 1))
        · rw [decide_eq_true (congrArg sV (List.prefix_iff_eq_take.mp hpre).symm)]
          refine iteT ⟨sV (p.drop (i + 1)), rfl, .ref a, rfl, a, _, rfl, .inl (same_at eK), rfl, flat_texts ks, _, rfl, ?_⟩
          show if inV (sV (p.drop (i + 1))) (ks.map sV) = true then _ else _
          rw [in_texts]
          by_cases hin : (p.drop (i + 1)) ∈ ks
          · rw [decide_eq_true hin]
            exact iteT (q H' true (Same.refl _) ⟨fun _ => ⟨i + 1, (p.drop (i + 1)), by omega, by omega, (hlb _).mpr ⟨hpre, rfl⟩, hin⟩, fun _ => rfl⟩)
          · rw [decide_eq_false hin]
            refine iteF ⟨⟨_, _, _, rfl⟩, rfl, fun c l h1 h2 h3 => ?_⟩
            by_cases hc : c = i + 1
            · subst hc
              obtain ⟨_, rfl⟩ := (hlb l).mp h3
              exact hin
            · exact hno c l h1 (by omega) h3
        · rw [decide_eq_false (fun z => hpre (List.prefix_iff_eq_take.mpr (tS_inj (V.str.inj z)).symm))]
          refine iteF (iteF ⟨⟨_, _, _, rfl⟩, rfl, fun c l h1 h2 h3 => ?_⟩)
          by_cases hc : c = i + 1
          · subst hc
            exact absurd ((hlb l).mp h3).1 hpre
          · exact hno c l h1 (by omega) h3
      · have e' : ¬ (p.take (i + 1)).length < (p.drop (i + 1)).length := fun z => e (decide_eq_true (by omega))
        have hlb : ∀ l, longer p (i + 1) = some l ↔ (p.drop (i + 1)) <+: (p.take (i + 1)) ∧ l = (p.take (i + 1)) := fun l => by
          have := hlb l
          rw [if_neg e'] at this
          exact this
        refine ⟨sV (p.take (i + 1)), rfl, sV (p.drop (i + 1)), rfl, tS (p.drop (i + 1)), rfl, len_ok hd, _, rfl, tS (p.take (i + 1)), rfl, len_ok ht, sV (p.drop (i + 1)), rfl, rfl, _, rfl, ?_⟩
        rw [tS_len, cutE_to]
        by_cases hpre : (p.drop (i + 1)) <+: (p.take (i + 1))
        · rw [decide_eq_true (congrArg sV (List.prefix_iff_eq_take.mp hpre).symm)]
          refine iteT ⟨sV (p.take (i + 1)), rfl, .ref a, rfl, a, _, rfl, .inl (same_at eK), rfl, flat_texts ks, _, rfl, ?_⟩
          show if inV (sV (p.take (i + 1))) (ks.map sV) = true then _ else _
          rw [in_texts]
          by_cases hin : (p.take (i + 1)) ∈ ks
          · rw [decide_eq_true hin]
            exact iteT (q H' true (Same.refl _) ⟨fun _ => ⟨i + 1, (p.take (i + 1)), by omega, by omega, (hlb _).mpr ⟨hpre, rfl⟩, hin⟩, fun _ => rfl⟩)
          · rw [decide_eq_false hin]
            refine iteF ⟨⟨_, _, _, rfl⟩, rfl, fun c l h1 h2 h3 => ?_⟩
            by_cases hc : c = i + 1
            · subst hc
              obtain ⟨_, rfl⟩ := (hlb l).mp h3
              exact hin
            · exact hno c l h1 (by omega) h3
        · rw [decide_eq_false (fun z => hpre (List.prefix_iff_eq_take.mpr (tS_inj (V.str.inj z)).symm))]
          refine iteF (iteF ⟨⟨_, _, _, rfl⟩, rfl, fun c l h1 h2 h3 => ?_⟩)
          by_cases hc : c = i + 1
          · subst hc
            exact absurd ((hlb l).mp h3).1 hpre
          · exact hno c l h1 (by omega) h3
    · obtain ⟨_, rfl, hno⟩ := hh
      refine q H' false (Same.refl _) ⟨fun z => (by cases z), fun z => ?_⟩
      obtain ⟨c, l, h1, h2, h3, h4⟩ := z
      exact absurd h4 (hno c l h1 (by omega) h3)
end Ow
set_option Elab.async false
set_option linter.all false
set_option maxRecDepth 100000
set_option maxHeartbeats 4000000
namespace Ow
open PySem PySem.Spec PyProof.Rows L2 OwR OwM
theorem nats_inj : ∀ {as bs : List Nat}, as.map nV = bs.map nV → as = bs
  | [], [], _ => rfl
  | [], _ :: _, h => by cases h
  | _ :: _, [], h => by cases h
  | a :: as, b :: bs, h => by
    rw [List.map_cons, List.map_cons, List.cons.injEq] at h
    have e : a = b := Int.ofNat.inj (V.int.inj h.1)
    rw [e, nats_inj h.2]
theorem nodup_ix : ∀ {l : List Addr}, l.Nodup → ∀ {i j : Nat} {x : Addr}, l[i]? = some x → l[j]? = some x → i = j
  | [], _, _, _, _, h1, _ => by simp at h1
  | a :: l, _, 0, 0, _, _, _ => rfl
  | a :: l, h, 0, j + 1, x, h1, h2 => by
    rw [List.getElem?_cons_zero] at h1
    rw [List.getElem?_cons_succ] at h2
    exact absurd (List.mem_of_getElem? h2) (Option.some.inj h1 ▸ (List.nodup_cons.mp h).1)
  | a :: l, h, i + 1, 0, x, h1, h2 => by
    rw [List.getElem?_cons_zero] at h2
    rw [List.getElem?_cons_succ] at h1
    exact absurd (List.mem_of_getElem? h1) (Option.some.inj h2 ▸ (List.nodup_cons.mp h).1)
  | a :: l, h, i + 1, j + 1, x, h1, h2 => by
    rw [List.getElem?_cons_succ] at h1 h2
    rw [nodup_ix (List.nodup_cons.mp h).2 h1 h2]
theorem okLawApart {P : Program} {w : World} {K : PySem.W.Frag} {mg : PySem.Str → Option Value} {base : Heap} {k : Nat} (T : Tx0 K mg) : FnOk P w K mg base CX0 (k + 1) T.dLawApart.f T.dLawApart.fd ["_law_told", "_law_lines"] spLawApart := by
  refine FunD.ok T.dLawApart.F scLawApart (fun vs H Q E h => ?len) (fun cdv A outer s H vs Q E hr h => ?run)
  case len =>
    obtain ⟨_, _, _, _, _, _, rfl, _⟩ := h
    rfl
  case run =>
    obtain ⟨a, c, rs, ys, ls, H0, rfl, h⟩ := h
    refine ⟨_, PSs.nox (pss_cons (ps_for PassesOwn.never rfl (pi_range1 (by rfl) T.m_range (pa_cons (pe_callB call_len_seq (by rfl) T.m_len (by decide +kernel) (pa_cons (pv 1) pa_nil)) pa_nil)) (pg_name (i := 2) scLawApart.nd rfl (.inl rfl))
        (pss_cons (ps_asg (pe_ix ix_list (pv 0) (pv 2) (fun _ _ => rfl)) (pg_tup (by rfl) (pgs_cons (pg_name (i := 3) scLawApart.nd rfl (.inl rfl)) (pgs_cons (pg_name (i := 4) scLawApart.nd rfl (.inl rfl)) pgs_nil))))
        (pss_cons (ps_expr (pe_bm PySem.F.plainAttrs_list PySem.F.slot_list_append PySem.F.type_list_append mt_append (pv 3) (pa_cons pe_int pa_nil)))
        (pss_cons (ps_expr (pe_bm PySem.F.plainAttrs_list PySem.F.slot_list_append PySem.F.type_list_append mt_append (pv 4) (pa_cons pe_str pa_nil)))
        (pss_one (ps_if (PW.pt (pw_or (pt_cmpR (op_neD hr.units) (pv 3) (pe_op op_cat (pe_ix ix_tup (pe_ix ix_list (pv 1) (pv 2) (fun _ _ => rfl)) pe_int (fun _ _ => rfl)) (pe_lst (pa_cons pe_int pa_nil))) (nomark _)) (pw_or (pt_cmpR (op_neD hr.units) (pv 4) (pe_op op_cat (pe_ix ix_tup (pe_ix ix_list (pv 1) (pv 2) (fun _ _ => rfl)) pe_int (fun _ _ => rfl)) (pe_lst (pa_cons pe_str pa_nil))) (nomark _)) (pw_or1 (pt_cmpR (op_neD hr.units) (pe_slice sl_list (pv 0) (po_some (pe_op op_add (pv 2) pe_int)) po_none) (pe_slice sl_list (pv 1) (po_some (pe_op op_add (pv 2) pe_int)) po_none) (nomark _))))))
          (pss_one (ps_ret pe_bl))
          pss_nil))))))
      (pss_one (ps_ret pe_bl))), ?_⟩
    obtain ⟨ea, ec, hT, hL, sm, hb, hl, q⟩ := h
    have hrl := hT.1
    have hyl := paired_len hL
    generalize hSP : rs.map (·.2.1) ++ rs.map (·.2.2) = SP at q
    have inS : ∀ {i : Nat} {tu s p : Addr}, rs[i]? = some (tu, s, p) → s ∈ rs.map (·.2.1) ∧ p ∈ rs.map (·.2.2) := fun {i tu s p} e => ⟨List.mem_map.mpr ⟨_, List.mem_of_getElem? e, rfl⟩, List.mem_map.mpr ⟨_, List.mem_of_getElem? e, rfl⟩⟩
    have inSP : ∀ {i : Nat} {tu s p : Addr}, rs[i]? = some (tu, s, p) → s ∈ SP ∧ p ∈ SP := fun e => by
      rw [← hSP]
      exact ⟨List.mem_append_left _ (inS e).1, List.mem_append_right _ (inS e).2⟩
    have ofSP : ∀ o ∈ SP, H0 o = none ∧ ((∃ st : List Nat, H o = some (.lst (st.map nV))) ∨ ∃ ps : List OwM.Tx, H o = some (.lst (ps.map sV))) := fun o ho => by
      rw [← hSP] at ho
      rcases List.mem_append.mp ho with ho | ho
      · obtain ⟨⟨tu, s, p⟩, hx, rfl⟩ := List.mem_map.mp ho
        obtain ⟨i, hi⟩ := List.getElem?_of_mem hx
        obtain ⟨st, ps, _, _, _, b3, b4, _, _⟩ := hT.at hi
        exact ⟨b3, .inl ⟨st, b4⟩⟩
      · obtain ⟨⟨tu, s, p⟩, hx, rfl⟩ := List.mem_map.mp ho
        obtain ⟨i, hi⟩ := List.getElem?_of_mem hx
        obtain ⟨st, ps, _, _, _, _, _, b5, b6⟩ := hT.at hi
        exact ⟨b5, .inr ⟨ps, b6⟩⟩
    have refs : ∀ (zs : List V) (o : Addr), H o = some (.lst zs) → (∃ x, V.ref x ∈ zs) → o ∉ SP := fun zs o e ⟨x, hx⟩ ho => by
      rcases (ofSP o ho).2 with ⟨st, e2⟩ | ⟨ps, e2⟩
      · have z := Option.some.inj (e.symm.trans e2)
        injection z with z
        rw [z] at hx
        obtain ⟨n, _, w⟩ := List.mem_map.mp hx
        cases w
      · have z := Option.some.inj (e.symm.trans e2)
        injection z with z
        rw [z] at hx
        obtain ⟨n, _, w⟩ := List.mem_map.mp hx
        cases w
    have old : ∀ {H'}, KeptBut SP H H' → Same H0 H' := fun {H'} kk o x e => kk o x (fun ho => by rw [(ofSP o ho).1] at e; cases e) (sm _ _ e)
    refine ⟨.ref c, rfl, c, ys, rfl, .inl (same_at ec), ys.length, rfl, by omega, by omega, ?_⟩
    rw [Int.toNat_natCast]
    refine for_rangeN (n := ys.length) 0 rfl (fun i σ H' => ∃ y2 y3 y4, σ = [some (.ref a), some (.ref c), y2, y3, y4] ∧ KeptBut SP H H' ∧ ∀ (j : Nat) tu s p st ps, i ≤ j → rs[j]? = some (tu, s, p) → ls[j]? = some (st, ps) → H' s = some (.lst (st.map nV)) ∧ H' p = some (.lst (ps.map sV))) ⟨none, none, none, rfl, .refl _ _, fun j tu s p st ps _ e1 e2 => ⟨(hT.2.2.2.2 j tu s p st ps e1 e2).2.2.2.1, (hT.2.2.2.2 j tu s p st ps e1 e2).2.2.2.2.2⟩⟩ (fun i σ H' hi hh => ?_) (fun σ H' hh => ?_)
    · obtain ⟨y2, y3, y4, rfl, k1, hj⟩ := hh
      obtain ⟨⟨tu, s, p⟩, er⟩ : ∃ r, rs[i]? = some r := ⟨_, List.getElem?_eq_getElem (by omega)⟩
      obtain ⟨st, ps, el, _, b2, _, _, _, _⟩ := hT.at er
      obtain ⟨es, ep⟩ := hj i tu s p st ps (Nat.le_refl _) er el
      have hlm := List.mem_of_getElem? el
      obtain ⟨hb1, hb2, hb3⟩ := hb _ hlm
      have hb1 : st.length ≤ 64 := hb1
      have hb2 : ps.length ≤ 100000 := hb2
      have hb3 : ∀ p ∈ ps, Lo p := hb3
      have sp : s ≠ p := hT.2.2.2.1 s (inS er).1 p (inS er).2
      have tuS : tu ∉ SP := fun ho => by
        rcases (ofSP tu ho).2 with ⟨st, e2⟩ | ⟨ps, e2⟩
        · rw [b2] at e2
          cases e2
        · rw [b2] at e2
          cases e2
      have ear : (rs.map fun x => V.ref x.1)[i]? = some (.ref tu) := by
        rw [List.getElem?_map, er]
        rfl
      have aS : a ∉ SP := refs _ a ea ⟨tu, List.mem_of_getElem? ear⟩
      obtain ⟨l2, el2, tu', s', p', ey, c1, c2, c3⟩ : ∃ l, ls[i]? = some l ∧ Ln H0 (ys[i]'hi) l := paired_at hL (List.getElem?_eq_getElem hi)
      have el2' : l2 = (st, ps) := Option.some.inj (el2.symm.trans el)
      subst el2'
      have eyi : ys[i]? = some (.ref tu') := by
        rw [← ey]
        exact List.getElem?_eq_getElem hi
      have cS : c ∉ SP := refs _ c ec ⟨tu', List.mem_of_getElem? eyi⟩
      refine ⟨.ref a, rfl, nV (i + 0), rfl, a, _, i, _, rfl, rfl, same_at (k1 a _ aS ea), atI_nat ear, tu, _, rfl, tup_at (k1 tu _ tuS b2), rfl, _, [_], rfl, _, [], rfl, rfl, ?_⟩
      refine ⟨.ref s, rfl, .inl ⟨rfl, _, same_at es⟩, s, _, nV 0, rfl, rfl, es, (by rw [List.length_map]; have := big_line; omega), ?_⟩
      have ep' : (upd H' s (.lst (st.map nV ++ [nV 0]))) p = some (.lst (ps.map sV)) := by
        rw [upd_ne sp.symm]
        exact ep
      refine ⟨.ref p, rfl, .inl ⟨rfl, _, same_at ep'⟩, p, _, sV zz, rfl, congrArg (fun z => [V.str z]) zz_eq, ep', (by rw [List.length_map]; have := big_line; omega), ?_⟩
      have k2 : KeptBut SP H (upd (upd H' s (.lst (st.map nV ++ [nV 0]))) p (.lst (ps.map sV ++ [sV zz]))) := kept_upd (kept_upd k1 (inSP er).1) (inSP er).2
      have es2 : (upd (upd H' s (.lst (st.map nV ++ [nV 0]))) p (.lst (ps.map sV ++ [sV zz]))) s = some (.lst ((st ++ [0]).map nV)) := by
        rw [upd_ne sp, upd_same, List.map_append]
        rfl
      have ep2 : (upd (upd H' s (.lst (st.map nV ++ [nV 0]))) p (.lst (ps.map sV ++ [sV zz]))) p = some (.lst ((ps ++ [zz]).map sV)) := by
        rw [upd_same, List.map_append]
        rfl
      have hj2 : ∀ (j : Nat) tu s' p' st' ps', i + 1 ≤ j → rs[j]? = some (tu, s', p') → ls[j]? = some (st', ps') → (upd (upd H' s (.lst (st.map nV ++ [nV 0]))) p (.lst (ps.map sV ++ [sV zz]))) s' = some (.lst (st'.map nV)) ∧ (upd (upd H' s (.lst (st.map nV ++ [nV 0]))) p (.lst (ps.map sV ++ [sV zz]))) p' = some (.lst (ps'.map sV)) := fun j tu2 s2 p2 st2 ps2 hij e1 e2 => by
        obtain ⟨d1, d2⟩ := hj j tu2 s2 p2 st2 ps2 (by omega) e1 e2
        have n1 : s2 ≠ s := fun z => by
          have a1 : (rs.map (·.2.1))[j]? = some s := by
            rw [List.getElem?_map, e1, ← z]
            rfl
          have a2 : (rs.map (·.2.1))[i]? = some s := by
            rw [List.getElem?_map, er]
            rfl
          have := nodup_ix hT.2.1 a1 a2
          omega
        have n2 : p2 ≠ p := fun z => by
          have a1 : (rs.map (·.2.2))[j]? = some p := by
            rw [List.getElem?_map, e1, ← z]
            rfl
          have a2 : (rs.map (·.2.2))[i]? = some p := by
            rw [List.getElem?_map, er]
            rfl
          have := nodup_ix hT.2.2.1 a1 a2
          omega
        have n3 : s2 ≠ p := hT.2.2.2.1 s2 (inS e1).1 p (inS er).2
        have n4 : p2 ≠ s := fun z => hT.2.2.2.1 s (inS er).1 p2 (inS e1).2 z.symm
        exact ⟨by rw [upd_ne n3, upd_ne n1]; exact d1, by rw [upd_ne n2, upd_ne n4]; exact d2⟩
      dsimp only
      generalize upd (upd H' s (.lst (st.map nV ++ [nV 0]))) p (.lst (ps.map sV ++ [sV zz])) = H2 at k2 es2 ep2 hj2
      have S2 := old k2
      have c1' := S2 _ _ c1
      have c2' := S2 _ _ c2
      have c3' := S2 _ _ c3
      have ea2 := k2 a _ aS ea
      have ec2 := k2 c _ cS ec
      have eD1 : (st.map nV ++ [V.int 0]) = (st ++ [0]).map nV := by
        rw [List.map_append]
        rfl
      have eD2 : (ps.map sV ++ [V.str "zz"]) = (ps ++ [zz]).map sV := by
        rw [List.map_append, zz_eq]
        rfl
      have lo2 : ∀ x ∈ ps ++ [zz], Lo x := fun x hx => (List.mem_append.mp hx).elim (hb3 x) fun z => by
        rw [List.mem_singleton] at z
        subst z
        exact zz_lo
      refine ⟨.ref s, rfl, .ref c, rfl, nV (i + 0), rfl, c, _, i, _, rfl, rfl, same_at ec2, atI_nat eyi, tu', _, 0, _, rfl, rfl, tup_at c1', atI_nat (j := 0) rfl, (by show 1 ≤ sizeLine; decide), fun e1 ne1 => ?_⟩
      have c2e := ne_of_none c2' ne1
      refine ⟨s', e1, _, _, rfl, rfl, by rw [upd_ne c2e]; exact c2', upd_same, (by rw [List.length_map]; show st.length + 1 ≤ _; have := big_line; omega), fun e2 ne2 => ?_⟩
      rw [eD1]
      have S3 : Same H2 (upd (upd H2 e1 (.lst [V.int 0])) e2 (.lst ((st ++ [0]).map nV))) := (same_upd ne1).trans (same_upd ne2)
      refine ⟨_, _, dp_natL (ns := st ++ [0]) (same_at (S3 _ _ es2)), dp_natL (ns := st ++ [0]) (same_at upd_same), shaped_nats _, shaped_nats _, _, rfl, ?_⟩
      rw [eqv_self _ (shaped_nats (st ++ [0]))]
      refine iteF ?_
      generalize upd (upd H2 e1 (.lst [V.int 0])) e2 (.lst ((st ++ [0]).map nV)) = H3 at S3
      refine ⟨.ref p, rfl, .ref c, rfl, nV (i + 0), rfl, c, _, i, _, rfl, rfl, same_at (S3 _ _ ec2), atI_nat eyi, tu', _, 1, _, rfl, rfl, tup_at (S3 _ _ c1'), atI_nat (j := 1) rfl, (by show 1 ≤ sizeLine; decide), fun e3 ne3 => ?_⟩
      have c3e := ne_of_none (S3 _ _ c3') ne3
      refine ⟨p', e3, _, _, rfl, rfl, by rw [upd_ne c3e]; exact S3 _ _ c3', upd_same, (by rw [List.length_map]; show ps.length + 1 ≤ _; have := big_line; omega), fun e4 ne4 => ?_⟩
      rw [eD2]
      have S4 : Same H2 (upd (upd H3 e3 (.lst [V.str "zz"])) e4 (.lst ((ps ++ [zz]).map sV))) := S3.trans ((same_upd ne3).trans (same_upd ne4))
      refine ⟨_, _, dp_textL (ps := ps ++ [zz]) (same_at (S4 _ _ ep2)), dp_textL (ps := ps ++ [zz]) (same_at upd_same), shaped_texts lo2, shaped_texts lo2, _, rfl, ?_⟩
      rw [eqv_self _ (shaped_texts lo2)]
      refine iteF ?_
      generalize upd (upd H3 e3 (.lst [V.str "zz"])) e4 (.lst ((ps ++ [zz]).map sV)) = H4 at S4
      refine ⟨.ref a, rfl, nV (i + 0), rfl, _, 1, rfl, rfl, _, rfl, a, _, rfl, same_at (S4 _ _ ea2), fun e5 ne5 => ⟨.ref c, rfl, nV (i + 0), rfl, _, 1, rfl, rfl, _, rfl, c, _, rfl, same_at ((same_upd ne5) _ _ (S4 _ _ ec2)), fun e6 ne6 => ?_⟩⟩
      rw [show (((i + 0 : Nat) : Int) + 1) = ((i + 1 : Nat) : Int) from rfl, cutV_from, cutV_from]
      rw [show (((i + 0 : Nat) : Int) + 1) = ((i + 1 : Nat) : Int) from rfl, cutV_from] at ne6
      have S5 : Same H2 (upd (upd H4 e5 (.lst ((rs.map fun x => V.ref x.1).drop (i + 1)))) e6 (.lst (ys.drop (i + 1)))) := S4.trans ((same_upd ne5).trans (same_upd ne6))
      have e56 : e5 ≠ e6 := ne_of_none upd_same ne6
      have L1 : Lns (upd (upd H4 e5 (.lst ((rs.map fun x => V.ref x.1).drop (i + 1)))) e6 (.lst (ys.drop (i + 1)))) ((rs.map fun x => V.ref x.1).drop (i + 1)) (ls.drop (i + 1)) := by
        refine paired_of (by rw [List.length_drop, List.length_drop, List.length_map, hrl]) fun j x y ex ey => ?_
        rw [List.getElem?_drop] at ex ey
        rw [List.getElem?_map] at ex
        cases er2 : rs[i + 1 + j]? with
        | none =>
          rw [er2] at ex
          cases ex
        | some rr =>
          rw [er2] at ex
          obtain ⟨tu2, s2, p2⟩ := rr
          cases ex
          obtain ⟨st2, ps2⟩ := y
          obtain ⟨d1, d2⟩ := hj2 (i + 1 + j) tu2 s2 p2 st2 ps2 (by omega) er2 ey
          obtain ⟨st3, ps3, _, _, t2, _⟩ := hT.at er2
          have tuS2 : tu2 ∉ SP := fun ho => by
            rcases (ofSP tu2 ho).2 with ⟨st, e2⟩ | ⟨ps, e2⟩
            · rw [t2] at e2
              cases e2
            · rw [t2] at e2
              cases e2
          exact ⟨tu2, s2, p2, rfl, S5 _ _ (k2 _ _ tuS2 t2), S5 _ _ d1, S5 _ _ d2⟩
      have L2' : Lns (upd (upd H4 e5 (.lst ((rs.map fun x => V.ref x.1).drop (i + 1)))) e6 (.lst (ys.drop (i + 1)))) (ys.drop (i + 1)) (ls.drop (i + 1)) := paired_imp (fun _ _ z => z.mono (S2.trans S5)) (paired_drop (i + 1) hL)
      have lo5 : ∀ l ∈ ls.drop (i + 1), ∀ p ∈ l.2, Lo p := fun l hl => (hb l (List.mem_of_mem_drop hl)).2.2
      refine ⟨_, _, dp_tbl (same_at (by rw [upd_ne e56]; exact upd_same)) L1, dp_tbl (same_at upd_same) L2', shaped_tbl lo5, shaped_tbl lo5, _, rfl, ?_⟩
      rw [eqv_self _ (shaped_tbl lo5)]
      refine iteF ⟨_, _, _, rfl, k2.then S5, fun j tu s' p' st' ps' hij e1 e2 => ?_⟩
      obtain ⟨d1, d2⟩ := hj2 j tu s' p' st' ps' hij e1 e2
      exact ⟨S5 _ _ d1, S5 _ _ d2⟩
    · obtain ⟨y2, y3, y4, rfl, k1, _⟩ := hh
      exact q H' k1
end Ow
set_option Elab.async false
set_option linter.all false
set_option maxRecDepth 100000
set_option maxHeartbeats 4000000
namespace Ow
open PySem PySem.Spec PyProof.Rows L2 OwR OwM
theorem okIsBetween {P : Program} {w : World} {K : PySem.W.Frag} {mg : PySem.Str → Option Value} {base : Heap} {k : Nat} (T : Tx0 K mg) : FnOk P w K mg base CX0 (k + 2) T.dIsBetween.f T.dIsBetween.fd ["thing", "least", "greatest"] spIsBetween := by
  refine FunD.ok T.dIsBetween.F scIsBetween (fun vs H Q E h => ?len) (fun cdv A outer s H vs Q E hr h => ?run)
  case len =>
    obtain ⟨_, _, _, rfl, _⟩ := h
    rfl
  case run =>
    obtain ⟨n, lo, hi, rfl, h⟩ := h
    refine ⟨_, PSs.nox (pss_one (ps_ret (pe_and (pe_call (okIsInteger T) hr (by rfl) T.dIsInteger.g T.dIsInteger.F.kp T.dIsInteger.b .nil pass0 (pa_cons (pv 0) pa_nil)) (pe_one (pe_chain op_le op_le (pv 1) (pv 0) (pv 2)))))), ?_⟩
    obtain ⟨h1, h2, q⟩ := h
    refine ⟨.int n, rfl, n, rfl, true, rfl, iteT ?_⟩
    refine ⟨.int lo, rfl, .int n, rfl, lo, n, rfl, rfl, decide (lo ≤ n), rfl, ?_⟩
    rw [decide_eq_true h1]
    refine iteT ⟨.int hi, rfl, n, hi, rfl, rfl, ?_⟩
    show Q (.bl (decide (n ≤ hi))) H
    rw [decide_eq_true h2]
    exact q
end Ow
set_option Elab.async false
set_option linter.all false
set_option maxRecDepth 100000
set_option maxHeartbeats 4000000
namespace Ow
open PySem PySem.Spec PyProof.Rows L2 OwR OwM
theorem okFinalRow {P : Program} {w : World} {K : PySem.W.Frag} {mg : PySem.Str → Option Value} {base : Heap} {k : Nat} (T : Tx0 K mg) : FnOk P w K mg base CX0 (k + 2) T.dFinalRow.f T.dFinalRow.fd ["row", "story"] (spFinalRow K) := by
  refine FunD.ok T.dFinalRow.F scFinalRow (fun vs H Q E h => ?len) (fun cdv A outer s H vs Q E hr h => ?run)
  case len =>
    obtain ⟨_, _, _, rfl, _⟩ := h
    rfl
  case run =>
    obtain ⟨r, ps, a, rfl, h⟩ := h
    refine ⟨_, PSs.nox (pss_cons (ps_for PassesOwn.never rfl (pi_list (pv 1)) (pg_name (i := 2) scFinalRow.nd rfl (.inl rfl))
        (pss_one (ps_set (i := 0) scFinalRow.nd rfl (.inl rfl) (pe_call (okMade T) hr (by rfl) T.dMade.g T.dMade.F.kp T.dMade.b .nil pass0 (pa_cons (pv 0) (pa_cons (pv 2) pa_nil))))))
      (pss_one (ps_ret (pv 0)))), ?_⟩
    obtain ⟨hS, hr0, hi, hl, q⟩ := h
    refine ⟨.ref a, rfl, a, rfl, ⟨_, hS⟩, ?_⟩
    refine for_list (xs := ps.map nV) (fun i σ H' => ∃ y, σ = [some (sV (follow r (ps.take i))), some (.ref a), y] ∧ H' = H) ⟨_, rfl, rfl⟩ (fun i σ H' _ hh => ?_) (fun i x σ H' hx hh => ?_) (fun σ H' hh => ?_)
    · obtain ⟨_, _, rfl⟩ := hh
      exact hS
    · obtain ⟨_, rfl, rfl⟩ := hh
      obtain ⟨p, e, rfl, _⟩ := take_nV hx
      have hl2 := follow_len hr0 (story_take i hi)
      have hp := story_at hi e
      have hz := last_take (r.length - 1) ps i
      refine ⟨sV (follow r (ps.take i)), rfl, nV p, rfl, follow r (ps.take i), p, rfl, by omega, by omega, ?_⟩
      exact ⟨_, by rw [follow_next e]; rfl, rfl⟩
    · obtain ⟨_, rfl, rfl⟩ := hh
      refine ⟨_, rfl, ?_⟩
      rw [List.length_map, List.take_length]
      exact q
end Ow
set_option Elab.async false
set_option linter.all false
set_option maxRecDepth 100000
set_option maxHeartbeats 4000000
namespace Ow
open PySem PySem.Spec PyProof.Rows L2 OwR OwM
theorem okBeginnings {P : Program} {w : World} {K : PySem.W.Frag} {mg : PySem.Str → Option Value} {base : Heap} {k : Nat} (T : Tx0 K mg) : FnOk P w K mg base CX0 (k + 2) T.dBeginnings.f T.dBeginnings.fd ["base", "text"] spBeginnings := by
  refine FunD.ok T.dBeginnings.F scBeginnings (fun vs H Q E h => ?len) (fun cdv A outer s H vs Q E hr h => ?run)
  case len =>
    obtain ⟨_, _, rfl, _⟩ := h
    rfl
  case run =>
    obtain ⟨b, t, rfl, h⟩ := h
    refine ⟨_, PSs.nox (pss_cons (ps_set (i := 2) scBeginnings.nd rfl (.inr rfl) pe_dnewK)
      (pss_cons (ps_for PassesOwn.never rfl (pi_list (pe_call (okPartsOf T) hr (by rfl) T.dPartsOf.g T.dPartsOf.F.kp T.dPartsOf.b .nil pass0 (pa_cons (pv 1) pa_nil))) (pg_name (i := 3) scBeginnings.nd rfl (.inr rfl))
        (pss_cons (ps_setLc (i := 4) (own := [("cut", 5)]) (by rfl) scBeginnings.nd rfl rfl (sw_true rfl rfl rfl (by decide +kernel)) (pi_range2 (by rfl) T.m_range (pa_cons pe_int (pa_cons (pe_callB call_len_str (by rfl) T.m_len (by decide +kernel) (pa_cons (pv 3) pa_nil)) pa_nil))) (blkOk_by (own := [("cut", 5)]) (N := nBeginnings) (sc := defScope sBeginnings) (by decide +kernel)) (fun _ _ _ _ _ => pg_name (i := 5) scBeginnings.nd rfl (.inl rfl)) (fun _ _ _ _ _ => pts_one (pt_cmp (pc_dinN (hu_of hr) (pe_call (okLongerOf T) hr (by rfl) T.dLongerOf.g T.dLongerOf.F.kp T.dLongerOf.b .nil pass0 (pa_cons (pv 3) (pa_cons (pv 5) pa_nil))) (pv 2)))) (fun _ _ _ _ _ => (pv 5)))
        (pss_one (ps_if (pt_val (pe_m1 PySem.F.slot_str_startswith PySem.F.type_str_startswith mt_startswith (pv 0) (pv 3)))
          (pss_one (ps_dput (hu_of hr) (pv 2) (pv 3) pe_non rfl))
          (pss_one (ps_if (pt_cmpR (op_neD hr.units) (pv 4) (pe_lst pa_nil) (nomark _))
            (pss_one (ps_dput (hu_of hr) (pv 2) (pv 3) (pe_ix ix_list (pv 4) pe_int (fun _ _ => rfl)) rfl))
            pss_nil))))))
      (pss_one (ps_ret (pv 2))))), ?_⟩
    obtain ⟨htl, hbl, q⟩ := h
    refine fun d nd => ?_
    refine ⟨sV t, rfl, t, rfl, htl, fun H1 p ps hps s1 np ep => ?_⟩
    have ed1 : H1 d = some (.dK []) := s1 _ _ upd_same
    have sm1 : Same H H1 := (same_upd nd).trans s1
    have hpl : ps.length ≤ 1600 := nodup_len hps.1 (fun k hk => (hps.2.1 k).mp hk) htl
    refine ⟨p, rfl, ⟨_, same_at ep⟩, ?_⟩
    refine for_list (xs := ps.map sV) (fun i σ H' => ∃ es y3 y4, σ = [some (sV b), some (sV t), some (.ref d), y3, y4, none] ∧ Same H H' ∧ H' p = some (.lst (ps.map sV)) ∧ H' d = some (.dK (dKv es)) ∧ es.length ≤ i ∧ FoundOn b (ps.take i) es) ⟨[], none, none, rfl, sm1, ep, ed1, Nat.le_refl _, List.nodup_nil, fun k => ⟨fun z => (by cases z), fun z => (by rw [List.take_zero] at z; cases z.1)⟩, fun k o z => (by cases z)⟩ (fun i σ H' _ hh => ?_) (fun i x σ H' hx hh => ?_) (fun σ H' hh => ?_)
    · obtain ⟨_, _, _, _, _, e, _⟩ := hh
      exact same_at e
    · obtain ⟨es, y3, y4, rfl, sm, ep', ed, hel, hF⟩ := hh
      obtain ⟨k, e, rfl, hlt⟩ := take_sV hx
      have hk := (hps.2.1 k).mp (List.mem_of_getElem? e)
      have hkl := infix_le hk.2
      have hk0 := List.length_pos_iff.mpr hk.1
      refine ⟨sV k, rfl, tS k, rfl, len_ok (by omega), 1, _, rfl, ⟨by decide, by decide, by rw [tS_len]; omega, by rw [tS_len]; omega⟩, fun D nD => ?_⟩
      have nDH : H D = none := sm.free nD
      have pD : p ≠ D := ne_of_none ep' nD
      have dD : d ≠ D := ne_of_none ed nD
      have en : (((tS k).length : Int) - 1).toNat = k.length - 1 := by
        rw [tS_len]
        omega
      rw [en]
      refine itr_by 1 rfl (fun j H2 => Same H' H2 ∧ H2 D = some (.lst ((cutsOf (es.map (·.1)) k j).map nV))) ⟨same_upd nD, upd_same⟩ (fun j H2 hj hh => ?_) (fun H2 hh => ?_)
      · obtain ⟨s2, eD⟩ := hh
        have ed2 := s2 _ _ ed
        refine ⟨rfl, sV k, rfl, nV (j + 1), rfl, k, j + 1, rfl, by omega, .ref d, rfl, ?_⟩
        have more : ∀ bb, bb = hasL (es.map (·.1)) k (j + 1) → (if bb = true then ∃ acc, H2 D = some (.lst acc) ∧ acc.length < sizeLine ∧ (Same H' (upd H2 D (.lst (acc ++ [nV (j + 1)]))) ∧ (upd H2 D (.lst (acc ++ [nV (j + 1)]))) D = some (.lst ((cutsOf (es.map (·.1)) k (j + 1)).map nV))) else (Same H' H2 ∧ H2 D = some (.lst ((cutsOf (es.map (·.1)) k (j + 1)).map nV)))) := by
          rintro _ rfl
          rw [cuts_next]
          refine ite2 (fun e => ?_) (fun e => ?_)
          · refine ⟨_, eD, ?_, same_upd2 s2 nD, ?_⟩
            · rw [List.length_map]
              have h1 : (cutsOf (es.map (·.1)) k j).length ≤ j := by
                unfold cutsOf
                refine Nat.le_trans (List.length_filter_le _ _) ?_
                rw [List.length_map, List.length_range]
                exact Nat.le_refl _
              have := big_line
              omega
            · rw [upd_same, if_pos e, List.map_append]
              rfl
          · rw [if_neg e, List.append_nil]
            exact ⟨s2, eD⟩
        unfold hasL at more
        cases el : longer k (j + 1) with
        | none =>
          rw [el] at more
          refine .inr ⟨d, dKv es, rfl, rfl, .inl ed2, _, rfl, ?_⟩
          have := more _ rfl
          exact iteF (by rw [if_neg (by intro z; cases z)] at this; exact this)
        | some l =>
          rw [el] at more
          refine .inl ⟨d, valV (dKv es) (Sum.inr (tS l)), rfl, DGet.k (k := Sum.inr (tS l)) ed2, _, rfl, ?_⟩
          have := more _ (dKv_has es l)
          by_cases hb : (valV (dKv es) (Sum.inr (tS l))).isSome = true
          · rw [hb] at this ⊢
            rw [if_pos rfl] at this
            obtain ⟨acc, a1, a2, a3⟩ := this
            exact iteT ⟨_, rfl, acc, a1, a2, a3⟩
          · rw [Bool.eq_false_iff.mpr hb] at this ⊢
            rw [if_neg (by intro z; cases z)] at this
            exact iteF this
      · obtain ⟨s2, eD⟩ := hh
        have ed2 := s2 _ _ ed
        have ep2 := s2 _ _ ep'
        have hput : ∀ o, putK (dKv es) (Sum.inr (tS k)) (oN o) = dKv (es ++ [(k, o)]) := fun o => dKv_put o (found_new hps hF e)
        have hdl : (dKv es).length < sizeLine := by
          unfold dKv
          rw [List.length_map]
          have := big_line
          omega
        have fin : ∀ (o : Option Nat) (H3 : Hp), Same H' H3 → EntryOk b (es.map (·.1)) k o → Same H (upd H3 d (.dK (putK (dKv es) (Sum.inr (tS k)) (oN o)))) ∧ (upd H3 d (.dK (putK (dKv es) (Sum.inr (tS k)) (oN o)))) p = some (.lst (ps.map sV)) ∧ (upd H3 d (.dK (putK (dKv es) (Sum.inr (tS k)) (oN o)))) d = some (.dK (dKv (es ++ [(k, o)]))) ∧ (es ++ [(k, o)]).length ≤ i + 1 ∧ FoundOn b (ps.take (i + 1)) (es ++ [(k, o)]) := by
          intro o H3 s3 ho
          have pd : p ≠ d := ne_of ep' ed (by intro z; cases z)
          refine ⟨same_upd2 (sm.trans s3) nd, ?_, ?_, ?_, found_add hps hF e ho⟩
          · rw [upd_ne pd]
            exact s3 _ _ ep'
          · rw [upd_same, hput]
          · rw [List.length_append]
            show _ + 1 ≤ _
            omega
        refine ⟨sV b, rfl, ⟨_, rfl⟩, sV k, rfl, tS b, tS k, rfl, rfl, _, rfl, ?_⟩
        rw [starts_eq]
        by_cases hpre : k <+: b
        · rw [List.isPrefixOf_iff_prefix.mpr hpre]
          refine iteT ⟨.ref d, rfl, sV k, rfl, d, _, rfl, DPut.k (k := Sum.inr (tS k)) ed2 hdl, ?_⟩
          exact ⟨_, _, _, rfl, fin none H2 s2 hpre⟩
        · rw [Bool.eq_false_iff.mpr (fun z => hpre (List.isPrefixOf_iff_prefix.mp z))]
          refine iteF ?_
          refine ⟨.ref D, rfl, Nat.zero_le _, fun z nz => ?_⟩
          have s3 : Same H' (upd H2 z (.lst [])) := s2.trans (same_upd nz)
          have eD3 : (upd H2 z (.lst [])) D = some (.lst ((cutsOf (es.map (·.1)) k (k.length - 1)).map nV)) := by
            rw [upd_ne (ne_of_none eD nz)]
            exact eD
          refine ⟨_, _, dp_natL (same_at eD3), dp_nil (same_at upd_same), shaped_nats _, rfl, _, rfl, ?_⟩
          rw [eqv_nil]
          have hcf := cuts_follows (keys := es.map (·.1)) hk.1
          cases hc : cutsOf (es.map (·.1)) k (k.length - 1) with
          | nil =>
            refine iteF ?_
            refine ⟨es, _, _, rfl, sm.trans s3, s3 _ _ ep', s3 _ _ ed, by omega, found_skip hps hF e hpre fun z => ?_⟩
            exact (hcf.mp z) hc
          | cons c cs =>
            rw [hc] at eD3
            obtain ⟨⟨c1, c2⟩, l, c3, c4⟩ := mem_cuts.mp (show c ∈ cutsOf (es.map (·.1)) k (k.length - 1) by rw [hc]; exact List.mem_cons_self ..)
            refine iteT ⟨.ref D, rfl, D, _, 0, nV c, rfl, rfl, same_at eD3, atI_nat (j := 0) rfl, ?_⟩
            refine ⟨.ref d, rfl, sV k, rfl, d, _, rfl, DPut.k (k := Sum.inr (tS k)) (s3 _ _ ed) hdl, ?_⟩
            exact ⟨_, _, _, rfl, fin (some c) _ s3 ⟨c1, by omega, l, c3, c4⟩⟩
    · obtain ⟨es, y3, y4, rfl, sm, ep', ed, hel, hF⟩ := hh
      rw [List.length_map, List.take_length] at hF
      exact ⟨.ref d, rfl, q H' d es (hF.ok hps) sm nd ed⟩
end Ow
set_option Elab.async false
set_option linter.all false
set_option maxRecDepth 100000
set_option maxHeartbeats 4000000
namespace Ow
open PySem PySem.Spec PyProof.Rows L2 OwR OwM
theorem okBeginningCalls {P : Program} {w : World} {K : PySem.W.Frag} {mg : PySem.Str → Option Value} {base : Heap} {k : Nat} (T : Tx0 K mg) : FnOk P w K mg base CX0 (k + 2) T.dBeginningCalls.f T.dBeginningCalls.fd ["found", "part"] spBeginningCalls := by
  refine FunD.ok T.dBeginningCalls.F scBeginningCalls (fun vs H Q E h => ?len) (fun cdv A outer s H vs Q E hr h => ?run)
  case len =>
    obtain ⟨_, _, _, _, _, rfl, _⟩ := h
    rfl
  case run =>
    obtain ⟨b, t, p, es, a, rfl, h⟩ := h
    refine ⟨_, PSs.nox (pss_cons (ps_set (i := 2) scBeginningCalls.nd rfl (.inl rfl) (pe_lst pa_nil))
      (pss_cons (ps_while PassesOwn.never (pt_cmpR op_notN (pe_dget (hu_of hr) (pv 0) (pv 1) (fun _ _ => rfl)) pe_non (nomark _))
        (pss_cons (ps_expr (pe_bm PySem.F.plainAttrs_list PySem.F.slot_list_append PySem.F.type_list_append mt_append (pv 2) (pa_cons (pe_dget (hu_of hr) (pv 0) (pv 1) (fun _ _ => rfl)) pa_nil)))
        (pss_one (ps_set (i := 1) scBeginningCalls.nd rfl (.inl rfl) (pe_call (okLongerOf T) hr (by rfl) T.dLongerOf.g T.dLongerOf.F.kp T.dLongerOf.b .nil pass0 (pa_cons (pv 1) (pa_cons (pe_dget (hu_of hr) (pv 0) (pv 1) (fun _ _ => rfl)) pa_nil)))))))
      (pss_one (ps_ret (pe_revL (pv 2)))))), ?_⟩
    obtain ⟨eA, hF, hp, htl, ht, hb, q⟩ := h
    refine ⟨Nat.zero_le _, fun o no => ?_⟩
    have ao : a ≠ o := ne_of_none eA no
    refine ⟨fun m σ H' => ∃ cur cs, m = cur.length ∧ σ = [some (.ref a), some (sV cur), some (.ref o)] ∧ cur ∈ es.map (·.1) ∧ Same H H' ∧ H' o = some (.lst (cs.map nV)) ∧ cur.length + cs.length ≤ p.length ∧ ∀ gs, Good b gs cur → Good b (gs ++ cs.reverse) p, ⟨p.length, p, [], rfl, rfl, hp, same_upd no, upd_same, Nat.le_refl _, fun gs g => by rw [List.reverse_nil, List.append_nil]; exact g⟩, fun m σ H' hh => ?_⟩
    obtain ⟨cur, cs, rfl, rfl, hc, sm, eo, hlen, hg⟩ := hh
    obtain ⟨⟨k, oc⟩, he, ek⟩ := List.mem_map.mp hc
    cases ek
    have hv := dKv_val hF.1 he
    have eA' := sm _ _ eA
    have hcu := (hF.2.1 k).mp hc
    have hent := hF.entry he
    refine ⟨.ref a, rfl, sV k, rfl, a, oN oc, rfl, hv ▸ DGet.k (k := Sum.inr (tS k)) eA', rfl, _, rfl, ?_⟩
    cases oc with
    | none =>
      refine iteF ?_
      refine ⟨.ref o, rfl, o, _, rfl, same_at eo, fun r nr => ?_⟩
      have nrH : H r = none := sm.free nr
      refine q _ r cs.reverse (sm.trans (same_upd nr)) nrH ?_ ?_ ?_
      · rw [upd_same, List.map_reverse]
      · have := hg [] ⟨trivial, hent⟩
        exact this
      · rw [List.length_reverse]
        omega
    | some c =>
      refine iteT ?_
      obtain ⟨h1, h2, l, h3, h4⟩ := hent
      have hkl := infix_le hcu.2.1
      have hlen : k.length + cs.length ≤ p.length := hlen
      obtain ⟨l1, l2, l3⟩ := longer_part hcu.2.1 h1 h2 h3
      refine ⟨_, fun σ' H'' z => ⟨l.length, l3, z⟩, ?_⟩
      refine ⟨.ref o, rfl, .inl ⟨rfl, _, same_at eo⟩, .ref a, rfl, sV k, rfl, a, oN (some c), rfl, hv ▸ DGet.k (k := Sum.inr (tS k)) eA', o, _, _, rfl, rfl, eo, ?_, ?_⟩
      · rw [List.length_map]
        have := big_line
        have := infix_le ((hF.2.1 p).mp hp).2.1
        omega
      · have eA2 : upd H' o (.lst (cs.map nV ++ [oN (some c)])) a = some (.dK (dKv es)) := by
          rw [upd_ne ao]
          exact eA'
        refine ⟨sV k, rfl, .ref a, rfl, sV k, rfl, a, oN (some c), rfl, hv ▸ DGet.k (k := Sum.inr (tS k)) eA2, k, c, rfl, by omega, ?_⟩
        rw [h3]
        refine ⟨l, cs ++ [c], rfl, rfl, h4, same_upd2 sm no, ?_, (by rw [List.length_append]; show l.length + (cs.length + 1) ≤ _; omega), fun gs g => ?_⟩
        · rw [upd_same, List.map_append]
          rfl
        · have := hg (gs ++ [c]) (one_call (p := k) hb h1 h2 (by omega) h3 g)
          rw [List.append_assoc] at this
          rw [List.reverse_append]
          exact this
end Ow
set_option Elab.async false
set_option linter.all false
set_option maxRecDepth 100000
set_option maxHeartbeats 4000000
namespace Ow
open PySem PySem.Spec PyProof.Rows L2 OwR OwM
theorem okAreParts {P : Program} {w : World} {K : PySem.W.Frag} {mg : PySem.Str → Option Value} {base : Heap} {k : Nat} (T : Tx0 K mg) : FnOk P w K mg base CX0 (k + 2) T.dAreParts.f T.dAreParts.fd ["text", "thing"] spAreParts := by
  refine FunD.ok T.dAreParts.F scAreParts (fun vs H Q E h => ?len) (fun cdv A outer s H vs Q E hr h => ?run)
  case len =>
    obtain ⟨_, _, _, rfl, _⟩ := h
    rfl
  case run =>
    obtain ⟨t, a, ps, rfl, h⟩ := h
    refine ⟨_, PSs.nox (pss_cons (ps_if (PW.pt (pw_or (pt_not (pt_val (pe_callB call_isi (by rfl) T.m_isinstance (by decide +kernel) (pa_cons (pv 1) (pa_cons (pe_bltn (v := .ty "list") (by rfl) T.m_list (by decide +kernel) rfl) pa_nil))))) (pw_or1 (pt_not (pt_val (pe_callB (cr_all rfl) (by rfl) T.m_all (by decide +kernel) (pa_cons (pe_lc (own := [("part", 2)]) (by rfl) scAreParts.nd (pi_list (pv 1)) (blkOk_by (own := [("part", 2)]) (N := nAreParts) (sc := defScope sAreParts) (by decide +kernel)) (fun _ _ _ _ _ => pg_name (i := 2) scAreParts.nd rfl (.inl rfl)) (fun _ _ _ _ _ => pts_nil) (fun _ _ _ _ _ => (pe_callB (call_isiK (K := K) rfl) (by rfl) T.m_isinstance (by decide +kernel) (pa_cons (pv 2) (pa_cons (pe_bltn (v := .ty "str") (by rfl) T.m_str (by decide +kernel) rfl) pa_nil))))) pa_nil)))))))
        (pss_one (ps_ret pe_bl))
        pss_nil)
      (pss_cons (ps_if (pt_not (pt_val (pe_callB (cr_all rfl) (by rfl) T.m_all (by decide +kernel) (pa_cons (pe_lc (own := [("part", 2)]) (by rfl) scAreParts.nd (pi_list (pv 1)) (blkOk_by (own := [("part", 2)]) (N := nAreParts) (sc := defScope sAreParts) (by decide +kernel)) (fun _ _ _ _ _ => pg_name (i := 2) scAreParts.nd rfl (.inl rfl)) (fun _ _ _ _ _ => pts_nil) (fun _ _ _ _ _ => (pe_and (pe_chain op_lt op_lt pe_int (pe_callB call_len_str (by rfl) T.m_len (by decide +kernel) (pa_cons (pv 2) pa_nil)) (pe_callB call_len_str (by rfl) T.m_len (by decide +kernel) (pa_cons (pv 0) pa_nil))) (pe_one (pe_cmpR op_in_str (pv 2) (pv 0) (by rfl)))))) pa_nil))))
        (pss_one (ps_ret pe_bl))
        pss_nil)
      (pss_one (ps_ret (pe_call (okAreAscending T) hr (by rfl) T.dAreAscending.g T.dAreAscending.F.kp T.dAreAscending.b .nil pass0 (pa_cons (pv 1) pa_nil)))))), ?_⟩
    obtain ⟨ea, ⟨hA, hP⟩, htl, hz, q⟩ := h
    refine ⟨.ref a, rfl, .ref a, .ty "list", .type "list", .type "list", true, rfl, .ty _, tyx_seq (same_at ea), kit_ty (by decide +kernel), true, rfl, iteF ?_⟩
    refine ⟨.ref a, rfl, a, rfl, ⟨_, same_at ea⟩, fun D nD => ?_⟩
    refine itl_by (K := K) (xs := ps.map sV) (fun i H2 => Same H H2 ∧ H2 D = some (.lst ((List.replicate i true).map V.bl))) ⟨same_upd nD, upd_same⟩ (fun i H2 _ hh => hh.1.seq (same_at ea)) (fun i x H2 hx hh => ?_) (fun H2 hh => ?_)
    · obtain ⟨s2, eD⟩ := hh
      obtain ⟨k, e1, rfl, hk⟩ := take_sV hx
      refine ⟨rfl, sV k, rfl, sV k, .ty "str", .type "str", .type "str", true, rfl, .ty _, .base (.str _), kit_ty (by decide +kernel), _, eD, ?_, same_upd2 s2 nD, ?_⟩
      · rw [List.length_map, List.length_replicate]
        have := big_line
        omega
      · rw [upd_same, List.replicate_succ', List.map_append]
        rfl
    obtain ⟨s2, eD⟩ := hh
    refine ⟨D, _, rfl, same_at eD, _, rfl, ?_⟩
    rw [all_true]
    refine iteF ?_
    have ea2 := s2 _ _ ea
    refine ⟨.ref a, rfl, a, rfl, ⟨_, same_at ea2⟩, fun D2 nD2 => ?_⟩
    refine itl_by (K := K) (xs := ps.map sV) (fun i H3 => Same H2 H3 ∧ H3 D2 = some (.lst ((List.replicate i true).map V.bl))) ⟨same_upd nD2, upd_same⟩ (fun i H3 _ hh => hh.1.seq (same_at ea2)) (fun i x H3 hx hh => ?_) (fun H3 hh => ?_)
    · obtain ⟨s3, eD2⟩ := hh
      obtain ⟨k, e1, rfl, hk⟩ := take_sV hx
      obtain ⟨p1, p2, p3⟩ := hP k (List.mem_of_getElem? e1)
      refine ⟨rfl, sV k, rfl, tS k, rfl, len_ok (by omega), 0, _, rfl, rfl, _, rfl, ?_⟩
      rw [tS_len, decide_eq_true (show (0 : Int) < (k.length : Int) by omega)]
      refine iteT ⟨sV t, rfl, tS t, rfl, len_ok (by omega), _, _, rfl, rfl, ?_⟩
      have eb : decide (((tS k).length : Int) < ((tS t).length : Int)) = true := by
        rw [tS_len, tS_len]
        exact decide_eq_true (by omega)
      refine ⟨_, congrArg V.bl eb, iteT ?_⟩
      refine ⟨sV k, rfl, sV t, rfl, tS k, tS t, rfl, rfl, ?_⟩
      rw [in_of_infix p3]
      refine ⟨_, eD2, ?_, same_upd2 s3 nD2, ?_⟩
      · rw [List.length_map, List.length_replicate]
        have := big_line
        omega
      · rw [upd_same, List.replicate_succ', List.map_append]
        rfl
    obtain ⟨s3, eD2⟩ := hh
    refine ⟨D2, _, rfl, same_at eD2, _, rfl, ?_⟩
    rw [all_true]
    refine iteF ?_
    refine ⟨.ref a, rfl, a, ps, rfl, s3 _ _ ea2, hA, hz, fun p hp => ?_, fun H4 s4 => q H4 (s2.trans (s3.trans s4))⟩
    have := hP p hp
    omega
end Ow
set_option Elab.async false
set_option linter.all false
set_option maxRecDepth 100000
set_option maxHeartbeats 4000000
namespace Ow
open PySem PySem.Spec PyProof.Rows L2 OwR OwM
theorem okAreClosed {P : Program} {w : World} {K : PySem.W.Frag} {mg : PySem.Str → Option Value} {base : Heap} {k : Nat} (T : Tx0 K mg) : FnOk P w K mg base CX0 (k + 2) T.dAreClosed.f T.dAreClosed.fd ["base", "text", "parts"] spAreClosed := by
  refine FunD.ok T.dAreClosed.F scAreClosed (fun vs H Q E h => ?len) (fun cdv A outer s H vs Q E hr h => ?run)
  case len =>
    obtain ⟨_, _, _, _, rfl, _⟩ := h
    rfl
  case run =>
    obtain ⟨b, t, a, ps, rfl, h⟩ := h
    refine ⟨_, PSs.nox (pss_cons (ps_for PassesOwn.never rfl (pi_list (pe_call (okPartsOf T) hr (by rfl) T.dPartsOf.g T.dPartsOf.F.kp T.dPartsOf.b .nil pass0 (pa_cons (pv 1) pa_nil))) (pg_name (i := 3) scAreClosed.nd rfl (.inr rfl))
        (pss_cons (ps_set (i := 4) scAreClosed.nd rfl (.inl rfl) (pe_callB (cr_any rfl) (by rfl) T.m_any (by decide +kernel) (pa_cons (pe_lc (own := [("cut", 5)]) (by rfl) scAreClosed.nd (pi_range2 (by rfl) T.m_range (pa_cons pe_int (pa_cons (pe_callB call_len_str (by rfl) T.m_len (by decide +kernel) (pa_cons (pv 3) pa_nil)) pa_nil))) (blkOk_by (own := [("cut", 5)]) (N := nAreClosed) (sc := defScope sAreClosed) (by decide +kernel)) (fun _ _ _ _ _ => pg_name (i := 5) scAreClosed.nd rfl (.inl rfl)) (fun _ _ _ _ _ => pts_nil) (fun _ _ _ _ _ => (pe_cmpR (op_in_seqK (K := K) rfl) (pe_call (okLongerOf T) hr (by rfl) T.dLongerOf.g T.dLongerOf.F.kp T.dLongerOf.b .nil pass0 (pa_cons (pv 3) (pa_cons (pv 5) pa_nil))) (pv 2) (by rfl)))) pa_nil)))
        (pss_one (ps_if (PW.pt (pw_and (pt_cmpR op_notIn_seq (pv 3) (pv 2) (by rfl)) (pw_and1 (PW.pt (pw_or (pt_val (pv 4)) (pw_or1 (pt_val (pe_m1 PySem.F.slot_str_startswith PySem.F.type_str_startswith mt_startswith (pv 0) (pv 3)))))))))
          (pss_one (ps_ret pe_bl))
          pss_nil))))
      (pss_one (ps_ret pe_bl))), ?_⟩
    obtain ⟨ea, htl, hbl, q⟩ := h
    refine ⟨sV t, rfl, t, rfl, htl, fun H1 p qs hps s1 np ep => ?_⟩
    have hql : qs.length ≤ 1600 := nodup_len hps.1 (fun k hk => (hps.2.1 k).mp hk) htl
    refine ⟨p, rfl, ⟨_, same_at ep⟩, ?_⟩
    refine for_list (xs := qs.map sV) (fun i σ H' => ∃ y3 y4, σ = [some (sV b), some (sV t), some (.ref a), y3, y4, none] ∧ Same H1 H' ∧ ∀ k ∈ qs.take i, (k <+: b ∨ Follows ps k) → k ∈ ps) ⟨none, none, rfl, .refl _, fun k z => (by rw [List.take_zero] at z; cases z)⟩ (fun i σ H' _ hh => ?_) (fun i x σ H' hx hh => ?_) (fun σ H' hh => ?_)
    · obtain ⟨_, _, _, s2, _⟩ := hh
      exact s2.seq (same_at ep)
    · obtain ⟨y3, y4, rfl, s2, hcl⟩ := hh
      obtain ⟨k, e, rfl, hlt⟩ := take_sV hx
      have hk := (hps.2.1 k).mp (List.mem_of_getElem? e)
      have hkl := infix_le hk.2
      have hk0 := List.length_pos_iff.mpr hk.1
      have ea' := s2 _ _ (s1 _ _ ea)
      refine ⟨sV k, rfl, tS k, rfl, len_ok (by omega), 1, _, rfl, ⟨by decide, by decide, by rw [tS_len]; omega, by rw [tS_len]; omega⟩, fun D nD => ?_⟩
      have en : (((tS k).length : Int) - 1).toNat = k.length - 1 := by
        rw [tS_len]
        omega
      rw [en]
      refine itr_by 1 rfl (fun j H2 => Same H' H2 ∧ ∃ bs : List Bool, H2 D = some (.lst (bs.map V.bl)) ∧ bs.length ≤ j ∧ (bs.any id = true ↔ ∃ c l, 1 ≤ c ∧ c ≤ j ∧ longer k c = some l ∧ l ∈ ps)) ⟨same_upd nD, [], upd_same, Nat.le_refl _, ⟨fun z => (by cases z), fun z => (by obtain ⟨c, l, h1, h2, _⟩ := z; omega)⟩⟩ (fun j H2 hj hh => ?_) (fun H2 hh => ?_)
      · obtain ⟨s3, bs, eD, hbs, hany⟩ := hh
        have ea2 := s3 _ _ ea'
        refine ⟨rfl, sV k, rfl, nV (j + 1), rfl, k, j + 1, rfl, by omega, .ref a, rfl, a, _, rfl, .inl (same_at ea2), ?_, flat_texts ps, _, eD, ?_, same_upd2 s3 nD, bs ++ [hasL ps k (j + 1)], ?_, ?_, ?_⟩
        · cases longer k (j + 1) with
          | none => rfl
          | some l => rfl
        · rw [List.length_map]
          have := big_line
          omega
        · rw [upd_same, List.map_append]
          have ei : inV (oV (longer k (j + 1))) (ps.map sV) = hasL ps k (j + 1) := by
            unfold hasL
            cases longer k (j + 1) with
            | none => exact in_none ps
            | some l => exact in_texts l ps
          show some (HO.lst (_ ++ [V.bl (inV (oV (longer k (j + 1))) (ps.map sV))])) = _
          rw [ei]
          rfl
        · rw [List.length_append]
          show _ + 1 ≤ _
          omega
        · rw [List.any_append, Bool.or_eq_true, hany]
          have e1 : ([hasL ps k (j + 1)].any id = true) ↔ hasL ps k (j + 1) = true := by
            show ((hasL ps k (j + 1) || false) = true) ↔ _
            rw [Bool.or_false]
          rw [e1, hasL_iff]
          constructor
          · rintro (⟨c, l, h1, h2, h3, h4⟩ | ⟨l, h3, h4⟩)
            · exact ⟨c, l, h1, by omega, h3, h4⟩
            · exact ⟨j + 1, l, by omega, Nat.le_refl _, h3, h4⟩
          · rintro ⟨c, l, h1, h2, h3, h4⟩
            by_cases hc : c = j + 1
            · subst hc
              exact .inr ⟨l, h3, h4⟩
            · exact .inl ⟨c, l, h1, by omega, h3, h4⟩
      · obtain ⟨s3, bs, eD, hbs, hany⟩ := hh
        have ea2 := s3 _ _ ea'
        have hfo : bs.any id = true ↔ Follows ps k := by
          rw [hany]
          constructor
          · rintro ⟨c, l, h1, h2, h3, h4⟩
            exact ⟨c, l, h1, by omega, h3, h4⟩
          · rintro ⟨c, l, h1, h2, h3, h4⟩
            exact ⟨c, l, h1, by omega, h3, h4⟩
        refine ⟨D, bs, rfl, same_at eD, ?_⟩
        refine ⟨sV k, rfl, .ref a, rfl, a, _, rfl, .inl (same_at ea2), rfl, flat_texts ps, _, rfl, ?_⟩
        show if (!inV (sV k) (ps.map sV)) = true then _ else _
        rw [in_texts]
        have next : (k ∈ ps ∨ ¬ (k <+: b ∨ Follows ps k)) → ∀ x ∈ qs.take (i + 1), (x <+: b ∨ Follows ps x) → x ∈ ps := fun hor x hx hxx => by
          rcases (mem_take_next e).mp hx with hx | rfl
          · exact hcl x hx hxx
          · rcases hor with z | z
            · exact z
            · exact absurd hxx z
        have bad : k ∉ ps → (k <+: b ∨ Follows ps k) → Q (.bl false) H2 := fun h1 h2 => q H2 false (s1.trans (s2.trans s3)) ⟨fun z => (by cases z), fun z => absurd (z k hk.1 hk.2 h2) h1⟩
        by_cases hin : k ∈ ps
        · rw [decide_eq_true hin]
          exact iteF (iteF ⟨_, _, rfl, s2.trans s3, next (.inl hin)⟩)
        · rw [decide_eq_false hin]
          refine iteT ⟨.bl (bs.any id), rfl, _, rfl, ?_⟩
          refine ite2 (fun e1 => ?_) (fun e1 => ?_)
          · exact iteT (bad hin (.inr (hfo.mp e1)))
          · refine ⟨sV b, rfl, ⟨_, rfl⟩, sV k, rfl, tS b, tS k, rfl, rfl, _, rfl, ?_⟩
            rw [starts_eq]
            refine ite2 (fun e2 => ?_) (fun e2 => ?_)
            · exact bad hin (.inl (List.isPrefixOf_iff_prefix.mp e2))
            · refine ⟨_, _, rfl, s2.trans s3, next (.inr fun z => ?_)⟩
              rcases z with z | z
              · exact e2 (List.isPrefixOf_iff_prefix.mpr z)
              · exact e1 (hfo.mpr z)
    · obtain ⟨y3, y4, rfl, s2, hcl⟩ := hh
      rw [List.length_map, List.take_length] at hcl
      exact q H' true (s1.trans s2) ⟨fun _ x h1 h2 h3 => hcl x ((hps.2.1 x).mpr ⟨h1, h2⟩) h3, fun _ => rfl⟩
end Ow
set_option Elab.async false
set_option linter.all false
set_option maxRecDepth 100000
set_option maxHeartbeats 4000000
namespace Ow
open PySem PySem.Spec PyProof.Rows L2 OwR OwM
theorem four {w u : OwM.Tx} {v : Nat} (hv : v < 4) : ∃ z, (z = w ∨ z = u) ∧ [sV w, sV w, sV w, sV u][v]? = some (sV z) := by
  match v, hv with
  | 0, _ => exact ⟨w, .inl rfl, rfl⟩
  | 1, _ => exact ⟨w, .inl rfl, rfl⟩
  | 2, _ => exact ⟨w, .inl rfl, rfl⟩
  | 3, _ => exact ⟨u, .inr rfl, rfl⟩
theorem two_of {x y : Nat} (c : Bool) : ∃ z, (z = x ∨ z = y) ∧ atI [nV x, nV y] (if c = true then 1 else 0) = some (nV z) := by
  cases c
  · exact ⟨x, .inl rfl, rfl⟩
  · exact ⟨y, .inr rfl, rfl⟩
theorem okLawAnyWord {P : Program} {w : World} {K : PySem.W.Frag} {mg : PySem.Str → Option Value} {base : Heap} {k : Nat} (T : Tx0 K mg) : FnOk P w K mg base CX0 (k + 2) T.dLawAnyWord.f T.dLawAnyWord.fd ["_law_bag_here", "_law_most"] spLawAnyWord := by
  refine FunD.ok T.dLawAnyWord.F scLawAnyWord (fun vs H Q E h => ?len) (fun cdv A outer s H vs Q E hr h => ?run)
  case len =>
    obtain ⟨_, _, _, rfl, _⟩ := h
    rfl
  case run =>
    obtain ⟨b, bc, m, rfl, h⟩ := h
    refine ⟨_, PSs.nox (pss_cons (ps_asg (pe_tup (pa_cons (pe_call (okLawTake T) hr (by rfl) T.dLawTake.g T.dLawTake.F.kp T.dLawTake.b .nil pass0 (pa_cons (pv 0) (pa_cons pe_int pa_nil))) (pa_cons (pe_op op_add pe_int (pe_call (okLawTake T) hr (by rfl) T.dLawTake.g T.dLawTake.F.kp T.dLawTake.b .nil pass0 (pa_cons (pv 0) (pa_cons pe_int pa_nil)))) pa_nil))) (pg_tup (by rfl) (pgs_cons (pg_name (i := 2) scLawAnyWord.nd rfl (.inl rfl)) (pgs_cons (pg_name (i := 3) scLawAnyWord.nd rfl (.inr rfl)) pgs_nil))))
      (pss_cons (ps_if (pt_cmpR op_eq (pe_call (okLawTake T) hr (by rfl) T.dLawTake.g T.dLawTake.F.kp T.dLawTake.b .nil pass0 (pa_cons (pv 0) (pa_cons pe_int pa_nil))) pe_int (nomark _))
        (pss_one (ps_asg (pe_tup (pa_cons pe_int (pa_cons pe_int pa_nil))) (pg_tup (by rfl) (pgs_cons (pg_name (i := 2) scLawAnyWord.nd rfl (.inl rfl)) (pgs_cons (pg_name (i := 3) scLawAnyWord.nd rfl (.inr rfl)) pgs_nil)))))
        pss_nil)
      (pss_cons (ps_set (i := 4) scLawAnyWord.nd rfl (.inr rfl) (pe_slice sl_str pe_str (po_some (pv 2)) (po_some (pe_op op_add (pv 2) (pv 3)))))
      (pss_cons (ps_par (i := 5) (j := 6) (by rfl) scLawAnyWord.nd rfl rfl (by decide) rfl rfl (pa_cons (pe_call (okLawTake T) hr (by rfl) T.dLawTake.g T.dLawTake.F.kp T.dLawTake.b .nil pass0 (pa_cons (pv 0) (pa_cons pe_int pa_nil))) (pa_cons (pe_op op_add pe_int (pe_call (okLawTake T) hr (by rfl) T.dLawTake.g T.dLawTake.F.kp T.dLawTake.b .nil pass0 (pa_cons (pv 0) (pa_cons (pv 1) pa_nil)))) pa_nil)) (by rfl))
      (pss_cons (ps_set (i := 7) scLawAnyWord.nd rfl (.inl rfl) (pe_ix ix_list (pe_lst (pa_cons (pv 6) (pa_cons (pe_op op_add pe_int (pe_call (okLawTake T) hr (by rfl) T.dLawTake.g T.dLawTake.F.kp T.dLawTake.b .nil pass0 (pa_cons (pv 0) (pa_cons pe_int pa_nil)))) pa_nil))) (pe_callTy call_int1 (by rfl) T.m_int (by decide +kernel) (pa_cons (pe_cmpR op_gt (pv 5) pe_int (nomark _)) pa_nil)) (fun _ _ => rfl)))
      (pss_cons (ps_set (i := 8) scLawAnyWord.nd rfl (.inl rfl) (pe_join pe_str (pe_lc (own := [("_law_k", 9)]) (by rfl) scLawAnyWord.nd (pi_range1 (by rfl) T.m_range (pa_cons (pv 7) pa_nil)) (blkOk_by (own := [("_law_k", 9)]) (N := nLawAnyWord) (sc := defScope sLawAnyWord) (by decide +kernel)) (fun _ _ _ _ _ => pg_name (i := 9) scLawAnyWord.nd rfl (.inl rfl)) (fun _ _ _ _ _ => pts_nil) (fun _ _ _ _ _ => (pe_ix ix_str (pv 4) (pe_call (okLawTake T) hr (by rfl) T.dLawTake.g T.dLawTake.F.kp T.dLawTake.b .nil pass0 (pa_cons (pv 0) (pa_cons (pv 3) pa_nil))) (fun _ _ => rfl))))))
      (pss_cons (ps_set (i := 8) scLawAnyWord.nd rfl (.inl rfl) (pe_slice sl_str (pe_op op_mul_str (pv 8) (pe_op op_add (pe_op op_fdiv (pv 6) (pv 7)) pe_int)) po_none (po_some (pv 6))))
      (pss_one (ps_ret (pe_ix ix_list (pe_lst (pa_cons (pv 8) (pa_cons (pv 8) (pa_cons (pv 8) (pa_cons (pe_step (pv 8) (pe_un un_neg pe_int)) pa_nil))))) (pv 5) (fun _ _ => rfl))))))))))), ?_⟩
    obtain ⟨h1, hm, hB, q⟩ := h
    refine ⟨.ref b, rfl, b, bc, 24, rfl, by decide, by decide, hB, fun H1 v1 hv1 hB1 k1 => ⟨.ref b, rfl, b, bc, 3, rfl, by decide, by decide, hB1, fun H2 v2 hv2 hB2 k2 => ⟨1, v2, rfl, rfl, (by show 2 ≤ sizeLine; decide), fun tu ntu => ?_⟩⟩⟩
    refine ⟨tu, _, rfl, tup_at upd_same, rfl, _, [_], rfl, _, [], rfl, rfl, ?_⟩
    dsimp only
    refine seq_rest (fun σ H3 => ∃ st few : Nat, 1 ≤ few ∧ st + few ≤ 26 ∧ σ = [some (.ref b), some (nV m), some (nV st), some (nV few), none, none, none, none, none, none] ∧ BagOk H3 b bc ∧ KeptBut [b] H H3) (fun σ H3 hh => ?_) (fun R hR => ?_)
    · obtain ⟨st, few, hf1, hf2, rfl, hB3, k3⟩ := hh
      have ecut : V.str (cutS "abcdefghijklmnopqrstuvwxyz" (some (st : Int)) (some ((st : Int) + (few : Int)))) = sV ((alpha.drop st).take few) := by
        have e := cutE_mid alpha st (st + few)
        rw [Nat.add_sub_cancel_left, ← alpha_eq] at e
        exact e
      have hll : ((alpha.drop st).take few).length = few := by
        rw [List.length_take, List.length_drop, alpha_len]
        omega
      have hlo : Lo ((alpha.drop st).take few) := Lo.take (Lo.drop alpha_lo st) few
      refine ⟨nV st, rfl, st, rfl, nV st, rfl, nV few, rfl, _, _, rfl, rfl, _, rfl, _, rfl, (by decide +kernel), ?_⟩
      rw [ecut]
      generalize (alpha.drop st).take few = ltr at hll hlo
      refine ⟨.ref b, rfl, b, bc, 4, rfl, by decide, by decide, hB3, fun H4 way hw hB4 k4 => ⟨.ref b, rfl, nV m, rfl, b, bc, m, rfl, h1, by omega, hB4, fun H5 v5 hv5 hB5 k5 => ⟨1, v5, rfl, rfl, _, _, rfl, ?_⟩⟩⟩
      refine ⟨nV (1 + v5), rfl, .ref b, rfl, b, bc, 4, rfl, by decide, by decide, hB5, fun H6 v6 hv6 hB6 k6 => ⟨1, v6, rfl, rfl, (by show 2 ≤ sizeLine; decide), fun s ns => ?_⟩⟩
      obtain ⟨many, hmany, eat⟩ := two_of (x := 1 + v5) (y := 1 + v6) (decide ((1 : Int) < (way : Int)))
      refine ⟨nV way, rfl, way, 1, rfl, rfl, .inr ⟨_, rfl, s, _, _, _, rfl, rfl, same_at upd_same, eat, ?_⟩⟩
      have hB7 := hB6.new ns (o := .lst [nV (1 + v5), nV (1 + v6)])
      have k7 : KeptBut [b] H (upd H6 s (.lst [nV (1 + v5), nV (1 + v6)])) := k3.trans (k4.trans (k5.trans (k6.trans (.of (same_upd ns)))))
      have hmany1 : 1 ≤ many ∧ many ≤ 104 := by
        rcases hmany with rfl | rfl <;> omega
      have hsz : 1 + v5 ≤ m := by omega
      have hsz1 : 1 ≤ 1 + v5 := by omega
      dsimp only
      rw [show V.int (1 + (v5 : Int)) = nV (1 + v5) from rfl, show V.int (1 + (v6 : Int)) = nV (1 + v6) from rfl]
      generalize (upd H6 s (.lst [nV (1 + v5), nV (1 + v6)])) = H7 at hB7 k7
      clear hmany eat
      generalize 1 + v5 = size at hsz hsz1
      refine ⟨⟨_, rfl⟩, nV many, rfl, many, rfl, by omega, by omega, fun D nD => ?_⟩
      rw [Int.toNat_natCast]
      have hf := hB7.free nD
      refine lc_range (fun n H' => ∃ w : OwM.Tx, w.length = n ∧ Lo w ∧ BagOk H' b bc ∧ KeptBut [b] H7 H' ∧ H' D = some (.lst (w.map fun x => sV [x]))) ⟨[], rfl, fun c hc => (by cases hc), hB7.new nD, kept_new (.refl _ _) nD, upd_same⟩ (fun n H' hn hh => ?_) (fun H' hh => ?_)
      · obtain ⟨w, hwl, hwo, hB8, k8, eD⟩ := hh
        refine ⟨rfl, sV ltr, rfl, .ref b, rfl, nV few, rfl, b, bc, few, rfl, hf1, by omega, hB8, fun H9 v hv hB9 k9 => ?_⟩
        obtain ⟨c, ec, hc⟩ := get_mem (t := ltr) (i := v) (by omega)
        have eD9 := k9.at hf.1.symm eD
        refine ⟨tS ltr, v, c, rfl, rfl, len_ok (by omega), ix_tx ec, _, eD9, ?_, w ++ [c], ?_, hwo.app (Lo.one (hlo c hc)), hB9.put hf, kept_new (k8.trans k9) nD, ?_⟩
        · rw [List.length_map, hwl]
          have := big_line
          omega
        · rw [List.length_append, hwl]
          rfl
        · rw [upd_same, List.map_append]
          rfl
      · obtain ⟨w, hwl, hwo, hB8, k8, eD⟩ := hh
        refine ⟨tS [], D, w.map (fun x => tS [x]), rfl, rfl, .inl (.inl (.inl ?_)), ?_, ?_⟩
        · rw [List.map_map]
          exact eD
        · rw [letters_sum]
          omega
        · rw [join_letters]
          have hp1 : size / many * many ≤ size := Nat.div_mul_le_self size many
          have hp2 : size < many * (size / many + 1) := Nat.lt_mul_div_succ size hmany1.1
          have hp3 : size / many ≤ size := Nat.div_le_self _ _
          have hp4 : w.length * (size / many + 1) ≤ 1000 := by
            rw [hwl, Nat.mul_add, Nat.mul_one, Nat.mul_comm]
            omega
          refine ⟨sV w, rfl, nV size, rfl, nV many, rfl, size, many, rfl, rfl, ⟨by omega, by omega⟩, _, 1, rfl, rfl, w, size / many + 1, rfl, rfl, by omega, by omega, Nat.le_trans hp4 (by decide), nV size, rfl, _, rfl, tS _, rfl, len_ok (by rw [rep_len, Nat.mul_comm]; omega), ?_⟩
          rw [cutE_to]
          have hll2 : ((List.replicate (size / many + 1) w).flatten.take size).length = size := by
            rw [List.length_take, rep_len, hwl, Nat.mul_comm]
            omega
          have hlo2 : Lo ((List.replicate (size / many + 1) w).flatten.take size) := Lo.take (hwo.rep _) _
          generalize (List.replicate (size / many + 1) w).flatten.take size = w2 at hll2 hlo2
          refine ⟨sV w2, rfl, sV w2, rfl, sV w2, rfl, sV w2, rfl, 1, rfl, w2, -1, rfl, rfl, len_ok (by omega), .inr rfl, (by show 4 ≤ sizeLine; decide), fun p np => ?_⟩
          obtain ⟨z, hz, ez⟩ := four (w := w2) (u := w2.reverse) hw
          have hzz : Lo z ∧ z.length = size := by
            rcases hz with rfl | rfl
            · exact ⟨hlo2, hll2⟩
            · exact ⟨hlo2.rev, by rw [List.length_reverse]; exact hll2⟩
          refine ⟨nV way, rfl, p, _, way, sV z, rfl, rfl, same_at upd_same, atI_nat ez, ?_⟩
          exact q _ z hzz.1 (by omega) (by omega) (hB8.new np) ((k7.trans k8).trans (.of (same_upd np)))
    · refine ⟨.ref b, rfl, b, bc, 6, rfl, by decide, by decide, hB2.new ntu, fun H4 v4 hv4 hB4 k4 => ⟨rfl, _, rfl, ite2 (fun e => ?_) (fun e => ?_)⟩⟩
      · refine ⟨(by show 2 ≤ sizeLine; decide), fun tz ntz => ⟨tz, _, rfl, tup_at upd_same, rfl, _, [_], rfl, _, [], rfl, rfl, hR _ _ ⟨0, 26, by decide, by decide, rfl, hB4.new ntz, k1.trans (k2.trans ((KeptBut.of (same_upd ntu)).trans (k4.trans (.of (same_upd ntz)))))⟩⟩⟩
      · exact hR _ _ ⟨v1, 1 + v2, by omega, by omega, rfl, hB4, k1.trans (k2.trans ((KeptBut.of (same_upd ntu)).trans k4))⟩
end Ow
set_option Elab.async false
set_option linter.all false
set_option maxRecDepth 100000
set_option maxHeartbeats 4000000
namespace Ow
open PySem PySem.Spec PyProof.Rows L2 OwR OwM
theorem six {L g v1 v2 v : Nat} (hg : g ≤ L) (h1 : v1 ≤ L) (h2 : v2 ≤ L) (hv : v < 6) : ∃ z, z ≤ L ∧ [nV 0, nV L, V.int ((L : Int) / 2), nV g, nV v1, nV v2][v]? = some (nV z) := by
  match v, hv with
  | 0, _ => exact ⟨0, Nat.zero_le _, rfl⟩
  | 1, _ => exact ⟨L, Nat.le_refl _, rfl⟩
  | 2, _ => exact ⟨L / 2, Nat.div_le_self _ _, rfl⟩
  | 3, _ => exact ⟨g, hg, rfl⟩
  | 4, _ => exact ⟨v1, h1, rfl⟩
  | 5, _ => exact ⟨v2, h2, rfl⟩
theorem okLawStory {P : Program} {w : World} {K : PySem.W.Frag} {mg : PySem.Str → Option Value} {base : Heap} {k : Nat} (T : Tx0 K mg) : FnOk P w K mg base CX0 (k + 2) T.dLawStory.f T.dLawStory.fd ["_law_bag_here", "_law_last_here", "_law_calls"] spLawStory := by
  refine FunD.ok T.dLawStory.F scLawStory (fun vs H Q E h => ?len) (fun cdv A outer s H vs Q E hr h => ?run)
  case len =>
    obtain ⟨_, _, _, _, rfl, _⟩ := h
    rfl
  case run =>
    obtain ⟨b, bc, last, n, rfl, h⟩ := h
    refine ⟨_, PSs.nox (pss_cons (ps_set (i := 3) scLawStory.nd rfl (.inl rfl) (pe_lst pa_nil))
      (pss_cons (ps_for PassesOwn.never rfl (pi_range1 (by rfl) T.m_range (pa_cons (pv 2) pa_nil)) (pg_name (i := 4) scLawStory.nd rfl (.inl rfl))
        (pss_cons (ps_set (i := 5) scLawStory.nd rfl (.inl rfl) (pe_ifExp (pt_cmpR (op_neD hr.units) (pv 3) (pe_lst pa_nil) (nomark _)) (pe_op op_mul pe_int (pe_ix ix_list (pv 3) (pe_un un_neg pe_int) (fun _ _ => rfl))) pe_int))
        (pss_cons (ps_set (i := 6) scLawStory.nd rfl (.inl rfl) (pe_lst (pa_cons pe_int (pa_cons (pv 1) (pa_cons (pe_op op_fdiv (pv 1) pe_int) (pa_cons (pv 5) (pa_cons (pe_call (okLawTake T) hr (by rfl) T.dLawTake.g T.dLawTake.F.kp T.dLawTake.b .nil pass0 (pa_cons (pv 0) (pa_cons (pe_op op_add (pv 1) pe_int) pa_nil))) (pa_cons (pe_call (okLawTake T) hr (by rfl) T.dLawTake.g T.dLawTake.F.kp T.dLawTake.b .nil pass0 (pa_cons (pv 0) (pa_cons (pe_op op_add (pv 1) pe_int) pa_nil))) pa_nil))))))))
        (pss_cons (ps_expr (pe_bm PySem.F.plainAttrs_list PySem.F.slot_list_append PySem.F.type_list_append mt_append (pv 3) (pa_cons (pe_ix ix_list (pv 6) (pe_call (okLawTake T) hr (by rfl) T.dLawTake.g T.dLawTake.F.kp T.dLawTake.b .nil pass0 (pa_cons (pv 0) (pa_cons pe_int pa_nil))) (fun _ _ => rfl)) pa_nil)))
        (pss_one (ps_set (i := 1) scLawStory.nd rfl (.inl rfl) (pe_op op_mul pe_int (pv 1))))))))
      (pss_one (ps_ret (pv 3))))), ?_⟩
    obtain ⟨hB, hla, hn, q⟩ := h
    refine ⟨Nat.zero_le _, fun o no => ?_⟩
    refine ⟨nV n, rfl, (n : Int), rfl, by omega, by omega, ?_⟩
    rw [Int.toNat_natCast]
    have hf := hB.free no
    refine for_rangeN (n := n) 0 rfl (fun i σ H' => ∃ ps y4 y5 y6, σ = [some (.ref b), some (nV (lastOf last ps)), some (nV n), some (.ref o), y4, y5, y6] ∧ BagOk H' b bc ∧ KeptBut [b] H H' ∧ H' o = some (.lst (ps.map nV)) ∧ IsStory last ps ∧ ps.length = i ∧ (∀ p, ps.getLast? = some p → 2 * p ≤ lastOf last ps)) ⟨[], none, none, none, ?_, hB.new no, kept_new (.refl _ _) no, upd_same, trivial, rfl, fun p z => (by cases z)⟩ (fun i σ H' hi hh => ?_) (fun σ H' hh => ?_)
    · unfold lastOf
      rw [List.length_nil, Nat.pow_zero, Nat.mul_one]
      rfl
    · obtain ⟨ps, y4, y5, y6, rfl, hB1, k1, eo, hs, hlen, hlast⟩ := hh
      have hL : lastOf last ps ≤ 16000 := by
        unfold lastOf
        have h1 : last * 2 ^ ps.length ≤ 1000 * 2 ^ 4 := Nat.mul_le_mul hla (Nat.pow_le_pow_right (by decide) (by omega))
        omega
      have hne : ∀ p, H' p = none → o ≠ p := fun p np => ne_of_none eo np
      generalize hLL : lastOf last ps = L at hL hlast
      refine seq_rest (fun σ H1 => ∃ g : Nat, g ≤ L ∧ σ = [some (.ref b), some (nV L), some (nV n), some (.ref o), some (nV (i + 0)), some (nV g), y6] ∧ BagOk H1 b bc ∧ KeptBut [b] H H1 ∧ H1 o = some (.lst (ps.map nV))) (fun σ H1 hh => ?_) (fun R hR => ?_)
      · obtain ⟨g, hg, rfl, hB2, k2, eo2⟩ := hh
        refine ⟨nV L, rfl, nV L, rfl, L, 2, rfl, rfl, ⟨by decide, by decide⟩, nV g, rfl, .ref b, rfl, nV L, rfl, L, 1, rfl, rfl, b, bc, L + 1, rfl, by omega, by omega, hB2, fun H3 v1 hv1 hB3 k3 => ?_⟩
        have eo3 := k3.at hf.1.symm eo2
        refine ⟨.ref b, rfl, nV L, rfl, L, 1, rfl, rfl, b, bc, L + 1, rfl, by omega, by omega, hB3, fun H4 v2 hv2 hB4 k4 => ?_⟩
        have eo4 := k4.at hf.1.symm eo3
        refine ⟨(by show 6 ≤ sizeLine; decide), fun s ns => ?_⟩
        have os : o ≠ s := ne_of_none eo4 ns
        have hfs := hB4.free ns
        refine ⟨.ref o, rfl, .inl ⟨rfl, _, same_at (by rw [upd_ne os]; exact eo4)⟩, .ref s, rfl, .ref b, rfl, b, bc, 6, rfl, by decide, by decide, hB4.new ns, fun H5 v hv hB5 k5 => ?_⟩
        obtain ⟨z, hz, ez⟩ := six hg (Nat.le_of_lt_succ hv1) (Nat.le_of_lt_succ hv2) hv
        have es := k5.at hfs.1.symm upd_same
        have eo5 := k5.at hf.1.symm (show (upd H4 s _) o = some (.lst (ps.map nV)) by rw [upd_ne os]; exact eo4)
        refine ⟨s, _, v, _, rfl, rfl, same_at es, atI_nat ez, o, _, nV z, rfl, rfl, eo5, ?_, ?_⟩
        · rw [List.length_map]
          have := big_line
          omega
        refine ⟨nV L, rfl, 2, L, rfl, rfl, .inl ⟨by decide, by decide⟩, ps ++ [z], some (nV (i + 0)), some (nV g), some (.ref s), ?_, hB5.put hf, ?_, ?_, ?_, ?_, ?_⟩
        · rw [lastOf_app, hLL]
          have e : lastOf L [z] = 2 * L := by
            unfold lastOf
            show L * 2 ^ 1 = _
            omega
          rw [e]
          rfl
        · exact kept_new (k2.trans (k3.trans (k4.trans ((KeptBut.of (same_upd ns)).trans k5)))) no
        · rw [upd_same, List.map_append]
          rfl
        · exact isStory_app.mpr ⟨hs, by rw [hLL]; exact hz, trivial⟩
        · rw [List.length_append, hlen]
          rfl
        · intro p hp
          rw [List.getLast?_append] at hp
          have hp : z = p := by
            simpa using hp
          rw [← hp, lastOf_app, hLL]
          unfold lastOf
          show 2 * z ≤ L * 2 ^ 1
          omega
      · refine ⟨.ref o, rfl, Nat.zero_le _, fun e0 ne0 => ⟨_, _, dp_natL (ns := ps) (same_at (by rw [upd_ne (hne _ ne0)]; exact eo)), dp_nil (same_at upd_same), shaped_nats ps, rfl, _, rfl, ?_⟩⟩
        rw [show PyData.eqv (.list (ps.map nD)) (.list []) = ps.isEmpty from eqv_nil nD ps]
        have hB2 := hB1.new ne0 (o := .lst [])
        have eo2 : (upd H' e0 (.lst [])) o = some (.lst (ps.map nV)) := by
          rw [upd_ne (hne _ ne0)]
          exact eo
        have k2 : KeptBut [b] H (upd H' e0 (.lst [])) := k1.trans (.of (same_upd ne0))
        rcases List.eq_nil_or_concat ps with rfl | ⟨ps', p, rfl⟩
        · refine iteF (hR _ _ ⟨0, Nat.zero_le _, ?_, hB2, k2, eo2⟩)
          rfl
        · rw [show (!(ps'.concat p).isEmpty) = true by simp]
          have hp := hlast p (by simp)
          have hg : (((ps'.concat p).map nV)[ps'.length]?) = some (nV p) := by simp
          have ha : atI ((ps'.concat p).map nV) (-1) = some (nV p) := by
            unfold atI ixN
            rw [if_neg (by decide), if_pos (by rw [List.length_map, List.length_concat]; omega)]
            show ((ps'.concat p).map nV)[((-1 : Int) + (((ps'.concat p).map nV).length : Nat)).toNat]? = _
            rw [show ((-1 : Int) + (((ps'.concat p).map nV).length : Nat)).toNat = ps'.length by rw [List.length_map, List.length_concat]; omega]
            exact hg
          refine iteT ⟨.ref o, rfl, 1, rfl, o, _, -1, _, rfl, rfl, same_at eo2, ha, 2, p, rfl, rfl, .inl ⟨by decide, by decide⟩, hR _ _ ⟨2 * p, hp, ?_, hB2, k2, eo2⟩⟩
          rfl
    · obtain ⟨ps, y4, y5, y6, rfl, hB1, k1, eo, hs, hlen, hlast⟩ := hh
      exact ⟨.ref o, rfl, q H' o ps hB1 k1 no eo hs hlen⟩
end Ow
set_option Elab.async false
set_option linter.all false
set_option maxRecDepth 100000
set_option maxHeartbeats 4000000
namespace Ow
open PySem PySem.Spec PyProof.Rows L2 OwR OwM
theorem okLawMade {P : Program} {w : World} {K : PySem.W.Frag} {mg : PySem.Str → Option Value} {base : Heap} {k : Nat} (T : Tx0 K mg) : FnOk P w K mg base CX0 (k + 2) T.dLawMade.f T.dLawMade.fd ["_law_row_here", "_law_story_here"] (spLawMade K) := by
  refine FunD.ok T.dLawMade.F scLawMade (fun vs H Q E h => ?len) (fun cdv A outer s H vs Q E hr h => ?run)
  case len =>
    obtain ⟨_, _, _, rfl, _⟩ := h
    rfl
  case run =>
    obtain ⟨r, ps, a, rfl, h⟩ := h
    refine ⟨_, PSs.nox (pss_cons (ps_for PassesOwn.never rfl (pi_list (pv 1)) (pg_name (i := 2) scLawMade.nd rfl (.inl rfl))
        (pss_one (ps_set (i := 0) scLawMade.nd rfl (.inl rfl) (pe_call (okLawCalled T) hr (by rfl) T.dLawCalled.g T.dLawCalled.F.kp T.dLawCalled.b .nil pass0 (pa_cons (pv 0) (pa_cons (pv 2) pa_nil))))))
      (pss_one (ps_ret (pv 0)))), ?_⟩
    obtain ⟨hS, hr0, hi, hl, q⟩ := h
    refine ⟨.ref a, rfl, a, rfl, ⟨_, hS⟩, ?_⟩
    refine for_list (xs := ps.map nV) (fun i σ H' => ∃ y, σ = [some (sV (follow r (ps.take i))), some (.ref a), y] ∧ H' = H) ⟨_, rfl, rfl⟩ (fun i σ H' _ hh => ?_) (fun i x σ H' hx hh => ?_) (fun σ H' hh => ?_)
    · obtain ⟨_, _, rfl⟩ := hh
      exact hS
    · obtain ⟨_, rfl, rfl⟩ := hh
      obtain ⟨p, e, rfl, _⟩ := take_nV hx
      have hl2 := follow_len hr0 (story_take i hi)
      have hp := story_at hi e
      have hz := last_take (r.length - 1) ps i
      refine ⟨sV (follow r (ps.take i)), rfl, nV p, rfl, follow r (ps.take i), p, rfl, by omega, by omega, ?_⟩
      exact ⟨_, by rw [follow_next e]; rfl, rfl⟩
    · obtain ⟨_, rfl, rfl⟩ := hh
      refine ⟨_, rfl, ?_⟩
      rw [List.length_map, List.take_length]
      exact q
end Ow
set_option Elab.async false
set_option linter.all false
set_option maxRecDepth 100000
set_option maxHeartbeats 4000000
namespace Ow
open PySem PySem.Spec PyProof.Rows L2 OwR OwM
theorem pow40 {ns : List Nat} {L : Nat} (hl : ns.length ≤ 40) (h : L ≤ 100000) : lastOf L ns < 2 ^ 60 := by
  unfold lastOf
  have h1 : 2 ^ ns.length ≤ 2 ^ 40 := Nat.pow_le_pow_right (by decide) hl
  have h2 : L * 2 ^ ns.length ≤ 100000 * 2 ^ 40 := Nat.mul_le_mul h h1
  exact Nat.lt_of_le_of_lt h2 (by decide)
theorem okLawPiece {P : Program} {w : World} {K : PySem.W.Frag} {mg : PySem.Str → Option Value} {base : Heap} {k : Nat} (T : Tx0 K mg) : FnOk P w K mg base CX0 (k + 2) T.dLawPiece.f T.dLawPiece.fd ["_law_row_here", "_law_story_here", "_law_start", "_law_stop"] (spLawPiece K) := by
  refine FunD.ok T.dLawPiece.F scLawPiece (fun vs H Q E h => ?len) (fun cdv A outer s H vs Q E hr h => ?run)
  case len =>
    obtain ⟨_, _, _, _, _, rfl, _⟩ := h
    rfl
  case run =>
    obtain ⟨r, ns, a, i, j, rfl, h⟩ := h
    refine ⟨_, PSs.nox (pss_one (ps_ret (pe_join pe_str (pe_lc (own := [("_law_place", 4)]) (by rfl) scLawPiece.nd (pi_range2 (by rfl) T.m_range (pa_cons (pv 2) (pa_cons (pv 3) pa_nil))) (blkOk_by (own := [("_law_place", 4)]) (N := nLawPiece) (sc := defScope sLawPiece) (by decide +kernel)) (fun _ _ _ _ _ => pg_name (i := 4) scLawPiece.nd rfl (.inl rfl)) (fun _ _ _ _ _ => pts_nil) (fun _ _ _ _ _ => (pe_call (okLawLetter T) hr (by rfl) T.dLawLetter.g T.dLawLetter.F.kp T.dLawLetter.b .nil pass0 (pa_cons (pv 0) (pa_cons (pv 1) (pa_cons (pv 4) pa_nil))))))))), ?_⟩
    obtain ⟨hS, hr0, hrl, hi, hl, hij, hj, hm, q⟩ := h
    have hlen := follow_len hr0 hi
    have hpow := pow40 hl (show r.length - 1 ≤ 100000 by omega)
    refine ⟨⟨_, rfl⟩, nV i, rfl, nV j, rfl, i, j, rfl, ⟨by omega, by omega, by omega, by omega⟩, fun D nD => ?_⟩
    have en : ((j : Int) - (i : Int)).toNat = j - i := by omega
    rw [en]
    refine lc_range (fun n H' => Same H H' ∧ H' D = some (.lst ((((follow r ns).drop i).take n).map fun x => sV [x]))) ⟨same_upd nD, upd_same⟩ (fun n H' hn hh => ?_) (fun H' hh => ?_)
    · obtain ⟨sm, eD⟩ := hh
      obtain ⟨x, hx⟩ : ∃ x, (follow r ns)[i + n]? = some x := ⟨_, List.getElem?_eq_getElem (by omega)⟩
      refine ⟨rfl, sV r, rfl, .ref a, rfl, nV (i + n), rfl, r, ns, a, i + n, x, rfl, sm.seq hS, hr0, hrl, hi, by omega, hx, fun H2 sm2 => ?_⟩
      refine ⟨_, sm2 _ _ eD, ?_, same_upd2 (sm.trans sm2) nD, ?_⟩
      · rw [List.length_map, List.length_take]
        have := big_line
        omega
      · rw [upd_same, take_next (x := x) (by rw [List.getElem?_drop]; exact hx), List.map_append]
        rfl
    · obtain ⟨sm, eD⟩ := hh
      refine ⟨tS [], D, (((follow r ns).drop i).take (j - i)).map (fun x => tS [x]), rfl, rfl, .inl (.inl (.inl ?_)), ?_, ?_⟩
      · rw [List.map_map]
        exact eD
      · rw [letters_sum, List.length_take]
        omega
      · rw [join_letters]
        exact q H' sm
end Ow
set_option Elab.async false
set_option linter.all false
set_option maxRecDepth 100000
set_option maxHeartbeats 4000000
namespace Ow
open PySem PySem.Spec PyProof.Rows L2 OwR OwM
/-- as Bs, away from q -/
def BsX (q : Addr) (r : OwM.Tx) (H : Hp) (v : V) (s : List Nat) : Prop := ∃ tu a, v = .ref tu ∧ tu ≠ q ∧ a ≠ q ∧ H tu = some (.tup [.ref a, sV (follow r s)]) ∧ H a = some (.lst (s.map nV))
theorem BsX.mono {q : Addr} {r : OwM.Tx} {H H' : Hp} {v : V} {s : List Nat} (m : ∀ c o, c ≠ q → H c = some o → H' c = some o) : BsX q r H v s → BsX q r H' v s := fun ⟨tu, a, e, n1, n2, e1, e2⟩ => ⟨tu, a, e, n1, n2, m _ _ n1 e1, m _ _ n2 e2⟩
theorem BsX.bs {q : Addr} {r : OwM.Tx} {H : Hp} {v : V} {s : List Nat} : BsX q r H v s → Bs r H v s := fun ⟨tu, a, e, _, _, e1, e2⟩ => ⟨tu, a, e, e1, e2⟩
theorem okLawBases {P : Program} {w : World} {K : PySem.W.Frag} {mg : PySem.Str → Option Value} {base : Heap} {k : Nat} (T : Tx0 K mg) : FnOk P w K mg base CX0 (k + 2) T.dLawBases.f T.dLawBases.fd ["_law_row_here", "_law_size"] spLawBases := by
  refine FunD.ok T.dLawBases.F scLawBases (fun vs H Q E h => ?len) (fun cdv A outer s H vs Q E hr h => ?run)
  case len =>
    obtain ⟨_, _, rfl, _⟩ := h
    rfl
  case run =>
    obtain ⟨r, n, rfl, h⟩ := h
    refine ⟨_, PSs.nox (pss_cons (ps_set (i := 2) scLawBases.nd rfl (.inl rfl) (pe_lst (pa_cons (pe_tup (pa_cons (pe_lst pa_nil) (pa_cons (pv 0) pa_nil))) pa_nil)))
      (pss_cons (ps_while PassesOwn.never (pt_cmpR op_lt (pe_op op_sub (pe_callB call_len_str (by rfl) T.m_len (by decide +kernel) (pa_cons (pe_ix ix_tup (pe_ix ix_list (pv 2) pe_int (fun _ _ => rfl)) pe_int (fun _ _ => rfl)) pa_nil)) pe_int) (pv 1) (nomark _))
        (pss_cons (ps_set (i := 3) scLawBases.nd rfl (.inl rfl) (pe_lst pa_nil))
        (pss_cons (ps_for PassesOwn.never rfl (pi_list (pv 2)) (pg_tup (by rfl) (pgs_cons (pg_name (i := 4) scLawBases.nd rfl (.inr rfl)) (pgs_cons (pg_name (i := 5) scLawBases.nd rfl (.inr rfl)) pgs_nil)))
          (pss_one (ps_expr (pe_bm PySem.F.plainAttrs_list PySem.F.slot_list_extend PySem.F.type_list_extend mt_extend (pv 3) (pa_cons (pe_lc (own := [("_law_place", 6)]) (by rfl) scLawBases.nd (pi_range1 (by rfl) T.m_range (pa_cons (pe_callB call_len_str (by rfl) T.m_len (by decide +kernel) (pa_cons (pv 5) pa_nil)) pa_nil)) (blkOk_by (own := [("_law_place", 6)]) (N := nLawBases) (sc := defScope sLawBases) (by decide +kernel)) (fun _ _ _ _ _ => pg_name (i := 6) scLawBases.nd rfl (.inl rfl)) (fun _ _ _ _ _ => pts_nil) (fun _ _ _ _ _ => (pe_tup (pa_cons (pe_op op_cat (pv 4) (pe_lst (pa_cons (pv 6) pa_nil))) (pa_cons (pe_call (okLawCalled T) hr (by rfl) T.dLawCalled.g T.dLawCalled.F.kp T.dLawCalled.b .nil pass0 (pa_cons (pv 5) (pa_cons (pv 6) pa_nil))) pa_nil))))) pa_nil)))))
        (pss_one (ps_set (i := 2) scLawBases.nd rfl (.inl rfl) (pv 3))))))
      (pss_one (ps_ret (pv 2))))), ?_⟩
    obtain ⟨h2, hrl, hn, q⟩ := h
    have hr0 : r ≠ [] := List.ne_nil_of_length_pos (by omega)
    refine ⟨Nat.zero_le _, fun e0 ne0 => ⟨_, rfl, (by show 2 ≤ sizeLine; decide), fun tu ntu => ⟨(by show 1 ≤ sizeLine; decide), fun p0 np0 => ?_⟩⟩⟩
    have ntu' : H tu = none := (same_upd ne0).free ntu
    have np0' : H p0 = none := (same_upd ne0).free ((same_upd ntu).free np0)
    have e0tu : e0 ≠ tu := ne_of_none upd_same ntu
    have e0p0 : e0 ≠ p0 := ne_of_none (by rw [upd_ne e0tu]; exact upd_same) np0
    have tup0 : tu ≠ p0 := ne_of_none upd_same np0
    refine ⟨fun f σ H' => ∃ last ss p xs y3 y4 y5 y6, σ = [some (sV r), some (nV n), some (.ref p), y3, y4, y5, y6] ∧ n ≤ last + f ∧ 1 ≤ last ∧ last ≤ 100 ∧ ss.length ≤ last ^ 4 ∧ (∀ s ∈ ss, s.length ≤ last ∧ IsStory (r.length - 1) s ∧ lastOf (r.length - 1) s = last) ∧ ss ≠ [] ∧ storiesN f last n ss = stories (r.length - 1) n ∧ Same H H' ∧ H p = none ∧ H' p = some (.lst xs) ∧ Paired (Bs r H') xs ss, ⟨n, r.length - 1, [[]], p0, [.ref tu], none, none, none, none, rfl, by omega, by omega, by omega, Nat.one_le_pow _ _ (by omega), ?_, by simp, rfl, ?_, np0', upd_same, ?_⟩, fun f σ H' hh => ?_⟩
    · intro s hs
      rw [List.mem_singleton] at hs
      subst hs
      refine ⟨Nat.zero_le _, trivial, ?_⟩
      unfold lastOf
      rw [List.length_nil, Nat.pow_zero, Nat.mul_one]
    · exact (same_upd ne0).trans ((same_upd ntu).trans (same_upd np0))
    · refine .cons ⟨tu, e0, rfl, ?_, ?_⟩ .nil
      · rw [upd_ne tup0]
        exact upd_same
      · rw [upd_ne e0p0, upd_ne e0tu]
        exact upd_same
    obtain ⟨last, ss, p, xs, y3, y4, y5, y6, rfl, hf, h1, hl100, hz, hs, hne, hst, sm, np, ep, hP⟩ := hh
    obtain ⟨s0, s1, rfl⟩ : ∃ s0 s1, ss = s0 :: s1 := by
      cases ss with
      | nil => exact absurd rfl hne
      | cons s0 s1 => exact ⟨s0, s1, rfl⟩
    obtain ⟨v0, xs1, rfl, hB, hP1⟩ : ∃ v0 xs1, xs = v0 :: xs1 ∧ Bs r H' v0 s0 ∧ Paired (Bs r H') xs1 s1 := by
      cases hP with
      | cons a b => exact ⟨_, _, rfl, a, b⟩
    have hP : Paired (Bs r H') (v0 :: xs1) (s0 :: s1) := .cons hB hP1
    obtain ⟨t0, a0, rfl, et0, ea0⟩ := hB
    obtain ⟨_, hi0, hl0⟩ := hs s0 (List.mem_cons_self ..)
    have hfl := follow_len hr0 hi0
    refine ⟨.ref p, rfl, p, _, 0, _, rfl, rfl, same_at ep, atI_nat (j := 0) rfl, t0, _, 1, _, rfl, rfl, tup_at et0, atI_nat (j := 1) rfl, tS (follow r s0), rfl, ?_, _, 1, rfl, rfl, nV n, rfl, _, _, rfl, rfl, _, rfl, ite2 (fun e => ?_) (fun e => ?_)⟩
    · exact len_ok (by omega)
    · have hlt : last < n := by
        have z := of_decide_eq_true e
        rw [tS_len, hfl, hl0] at z
        omega
      obtain ⟨f, rfl⟩ : ∃ g, f = g + 1 := ⟨f - 1, by omega⟩
      rw [storiesN_step hlt] at hst
      generalize hxs : V.ref t0 :: xs1 = xs at ep hP
      generalize hss : s0 :: s1 = ss at hz hs hst hP hne
      have hss : ss.length ≤ 20736 := Nat.le_trans hz (Nat.pow_le_pow_left (show last ≤ 12 by omega) 4)
      have hxl := paired_len hP
      refine ⟨_, fun σ' H'' z => ⟨f, Nat.lt_succ_self f, z⟩, ?_⟩
      refine ⟨Nat.zero_le _, fun q nq => ?_⟩
      have nq' : H q = none := sm.free nq
      have pq : p ≠ q := ne_of_none ep nq
      refine ⟨.ref p, rfl, p, rfl, ⟨_, (same_upd nq).seq (same_at ep)⟩, ?_⟩
      refine for_list (xs := xs) (fun i σ H2 => ∃ zs y4 y5 y6, σ = [some (sV r), some (nV n), some (.ref p), some (.ref q), y4, y5, y6] ∧ Same H' H2 ∧ H2 q = some (.lst zs) ∧ Paired (BsX q r H2) zs (stepS last (ss.take i))) ⟨[], y4, y5, y6, rfl, same_upd nq, upd_same, .nil⟩ (fun i σ H2 _ hh => ?_) (fun i x σ H2 hx hh => ?_) (fun σ H2 hh => ?_)
      · obtain ⟨_, _, _, _, _, s2, _⟩ := hh
        exact s2.seq (same_at ep)
      · obtain ⟨zs, y4, y5, y6, rfl, s2, eq2, hZ⟩ := hh
        obtain ⟨s, es, tu, a, rfl, etu, ea⟩ := paired_at hP hx
        obtain ⟨hsl, hsi, hsL⟩ := hs s (List.mem_of_getElem? es)
        have hfs := follow_len hr0 hsi
        have etu2 := s2 _ _ etu
        have hzl := paired_len hZ
        refine ⟨tu, _, rfl, tup_at etu2, rfl, _, [_], rfl, _, [], rfl, rfl, ?_⟩
        refine ⟨.ref q, rfl, .inl ⟨rfl, _, same_at eq2⟩, sV (follow r s), rfl, tS (follow r s), rfl, len_ok (by omega), _, rfl, by rw [tS_len]; omega, by rw [tS_len]; omega, fun D nD => ?_⟩
        have nDp : H' D = none := s2.free nD
        have qD : q ≠ D := ne_of_none eq2 nD
        have en : (((tS (follow r s)).length : Nat) : Int).toNat = last + 1 := by
          rw [tS_len, hfs, hsL]
          omega
        rw [en]
        refine itr_by 0 rfl (fun j H3 => ∃ ds, Same H' H3 ∧ H3 q = some (.lst zs) ∧ H3 D = some (.lst ds) ∧ (∀ c o, c ≠ D → H2 c = some o → H3 c = some o) ∧ Paired (BsX D r H3) ds ((List.range j).map fun p => s ++ [p]) ∧ Paired (BsX q r H3) ds ((List.range j).map fun p => s ++ [p])) ⟨[], s2.trans (same_upd nD), by rw [upd_ne qD]; exact eq2, upd_same, fun c o hc e => by rw [upd_ne hc]; exact e, .nil, .nil⟩ (fun j H3 hj hh => ?_) (fun H3 hh => ?_)
        · obtain ⟨ds, s3, eq3, eD3, k3, hD, hQ⟩ := hh
          have ea3 := s3 _ _ ea
          have hdl := paired_len hD
          rw [List.length_map, List.length_range] at hdl
          refine ⟨rfl, .ref a, rfl, nV (j + 0), rfl, (by show 1 ≤ sizeLine; decide), fun c1 nc1 => ?_⟩
          have ac1 : a ≠ c1 := ne_of_none ea3 nc1
          refine ⟨a, c1, s.map nV, [nV (j + 0)], rfl, rfl, by rw [upd_ne ac1]; exact ea3, upd_same, ?_, fun c2 nc2 => ?_⟩
          · rw [List.length_map]
            have := big_line
            show s.length + 1 ≤ _
            omega
          · refine ⟨sV (follow r s), rfl, nV (j + 0), rfl, follow r s, j, rfl, by omega, by omega, ?_⟩
            refine ⟨(by show 2 ≤ sizeLine; decide), fun tn ntn => ?_⟩
            have nc2' : H3 c2 = none := (same_upd nc1).free nc2
            have ntn' : H3 tn = none := (same_upd nc1).free ((same_upd nc2).free ntn)
            have Dc1 : D ≠ c1 := ne_of_none eD3 nc1
            have Dc2 : D ≠ c2 := ne_of_none eD3 nc2'
            have Dtn : D ≠ tn := ne_of_none eD3 ntn'
            have qc1 : q ≠ c1 := ne_of_none eq3 nc1
            have qc2 : q ≠ c2 := ne_of_none eq3 nc2'
            have qtn : q ≠ tn := ne_of_none eq3 ntn'
            have c2tn : c2 ≠ tn := ne_of_none upd_same ntn
            have ev : s.map nV ++ [nV (j + 0)] = (s ++ [j]).map nV := by
              rw [List.map_append]
              rfl
            have ef : follow r (s ++ [j]) = call (follow r s) j := by
              rw [follow_app]
              rfl
            rw [ev]
            have er : (List.range (j + 1)).map (fun p => s ++ [p]) = (List.range j).map (fun p => s ++ [p]) ++ [s ++ [j]] := by
              rw [List.range_succ, List.map_append]
              rfl
            have keep : ∀ c o, c ≠ D → H3 c = some o → upd (upd (upd (upd H3 c1 (.lst [nV (j + 0)])) c2 (.lst ((s ++ [j]).map nV))) tn (.tup [.ref c2, sV (call (follow r s) j)])) D (.lst (ds ++ [.ref tn])) c = some o := fun c o hc e => by
              rw [upd_ne hc, upd_ne (ne_of_none e ntn'), upd_ne (ne_of_none e nc2'), upd_ne (ne_of_none e nc1)]
              exact e
            have newB : ∀ z, z ≠ tn → z ≠ c2 → BsX z r (upd (upd (upd (upd H3 c1 (.lst [nV (j + 0)])) c2 (.lst ((s ++ [j]).map nV))) tn (.tup [.ref c2, sV (call (follow r s) j)])) D (.lst (ds ++ [.ref tn]))) (.ref tn) (s ++ [j]) := fun z z1 z2 => by
              refine ⟨tn, c2, rfl, z1.symm, z2.symm, ?_, ?_⟩
              · rw [upd_ne Dtn.symm, upd_same, ef]
              · rw [upd_ne Dc2.symm, upd_ne c2tn, upd_same]
            refine ⟨ds, ?_, ?_, ds ++ [.ref tn], ?_, ?_, upd_same, ?_, ?_, ?_⟩
            · rw [upd_ne Dtn, upd_ne Dc2, upd_ne Dc1]
              exact eD3
            · have := big_line
              omega
            · intro c o e
              exact keep c o (ne_of_none e nDp) (s3 _ _ e)
            · exact keep q _ qD eq3
            · intro c o hc e
              exact keep c o hc (k3 c o hc e)
            · rw [er]
              exact paired_app (Paired.mono (fun v s' h => h.mono keep) hD) (.cons (newB D Dtn Dc2) .nil)
            · rw [er]
              refine paired_app ?_ (.cons (newB q qtn qc2) .nil)
              have both : ∀ {ds : List V} {l : List (List Nat)}, Paired (BsX D r H3) ds l → Paired (BsX q r H3) ds l → Paired (fun v s' => BsX D r H3 v s' ∧ BsX q r H3 v s') ds l := by
                intro ds l p1
                induction p1 with
                | nil => exact fun _ => .nil
                | cons a _ ih =>
                  intro p2
                  cases p2 with
                  | cons b p2 => exact .cons ⟨a, b⟩ (ih p2)
              refine Paired.mono (fun v s' h => ?_) (both hD hQ)
              obtain ⟨⟨tu', a', e1, n1, n2, e3, e4⟩, ⟨tu'', a'', e5, n3, n4, e6, e7⟩⟩ := h
              subst e1
              cases e5
              rw [e3] at e6
              cases e6
              exact ⟨tu', a', rfl, n3, n4, keep _ _ n1 e3, keep _ _ n2 e4⟩
        · obtain ⟨ds, s3, eq3, eD3, k3, hD, hQ⟩ := hh
          have hdl := paired_len hQ
          rw [List.length_map, List.length_range] at hdl
          have hz2 : zs.length ≤ 500000 := by
            rw [hzl, stepS_len]
            have h5 : (ss.take i).length ≤ 20736 := by
              rw [List.length_take]
              omega
            have h6 : (ss.take i).length * (last + 1) ≤ 20736 * 13 := Nat.mul_le_mul h5 (by omega)
            omega
          refine ⟨q, D, zs, ds, rfl, rfl, eq3, eD3, ?_, ?_⟩
          · have := big_line
            omega
          · have keep : ∀ c o, c ≠ q → H3 c = some o → upd H3 q (.lst (zs ++ ds)) c = some o := fun c o hc e => by
              rw [upd_ne hc]
              exact e
            refine ⟨zs ++ ds, _, _, y6, rfl, ?_, upd_same, ?_⟩
            · intro c o e
              exact keep c o (ne_of_none e nq) (s3 _ _ e)
            · rw [stepS_next es]
              refine paired_app (Paired.mono (fun v s' h => ?_) hZ) (Paired.mono (fun v s' h => h.mono keep) hQ)
              obtain ⟨tu', a', e1, n1, n2, e3, e4⟩ := h
              refine ⟨tu', a', e1, n1, n2, keep _ _ n1 (k3 _ _ (ne_of_none e3 nD) e3), keep _ _ n2 (k3 _ _ (ne_of_none e4 nD) e4)⟩
      · obtain ⟨zs, y4, y5, y6, rfl, s2, eq2, hZ⟩ := hh
        rw [hxl, List.take_length] at hZ
        refine ⟨.ref q, rfl, 2 * last, stepS last ss, q, zs, _, _, _, _, rfl, by omega, by omega, by omega, ?_, ?_, ?_, hst, sm.trans s2, nq', eq2, Paired.mono (fun v s' h => h.bs) hZ⟩
        · rw [stepS_len, Nat.mul_pow]
          have h7 : ss.length * (last + 1) ≤ last ^ 4 * 16 := Nat.mul_le_mul hz (by omega)
          omega
        · intro x hx
          obtain ⟨s, p', hs', hp', rfl⟩ := mem_stepS.mp hx
          obtain ⟨a1, a2, a3⟩ := hs s hs'
          refine ⟨?_, isStory_app.mpr ⟨a2, by rw [a3]; exact hp', trivial⟩, ?_⟩
          · rw [List.length_append]
            show s.length + 1 ≤ _
            omega
          · rw [lastOf_app, a3]
            show last * 2 ^ 1 = _
            omega
        · intro z
          have := congrArg List.length z
          rw [stepS_len] at this
          have h8 : 0 < ss.length := List.length_pos_iff.mpr hne
          have h9 : 0 < ss.length * (last + 1) := Nat.mul_pos h8 (by omega)
          simp only [List.length_nil] at this
          omega
    · have hge : ¬ last < n := fun z => e (decide_eq_true (by rw [tS_len, hfl, hl0]; omega))
      rw [storiesN_end hge] at hst
      rw [hst] at hP
      exact ⟨.ref p, rfl, q H' p _ sm np ep hP⟩
end Ow
set_option Elab.async false
set_option linter.all false
set_option maxRecDepth 100000
set_option maxHeartbeats 4000000
namespace Ow
open PySem PySem.Spec PyProof.Rows L2 OwR OwM
theorem okLawCan {P : Program} {w : World} {K : PySem.W.Frag} {mg : PySem.Str → Option Value} {base : Heap} {k : Nat} (T : Tx0 K mg) : FnOk P w K mg base CX0 (k + 2) T.dLawCan.f T.dLawCan.fd ["_law_base", "_law_text_here"] spLawCan := by
  refine FunD.ok T.dLawCan.F scLawCan (fun vs H Q E h => ?len) (fun cdv A outer s H vs Q E hr h => ?run)
  case len =>
    obtain ⟨_, _, rfl, _⟩ := h
    rfl
  case run =>
    obtain ⟨b, t, rfl, h⟩ := h
    refine ⟨_, PSs.nox (pss_cons (ps_set (i := 2) scLawCan.nd rfl (.inl rfl) (pe_lst pa_nil))
      (pss_cons (ps_for PassesOwn.never rfl (pi_range2 (by rfl) T.m_range (pa_cons pe_int (pa_cons (pe_op op_add (pe_callB call_len_str (by rfl) T.m_len (by decide +kernel) (pa_cons (pv 1) pa_nil)) pe_int) pa_nil))) (pg_name (i := 3) scLawCan.nd rfl (.inl rfl))
        (pss_one (ps_for PassesOwn.never rfl (pi_range1 (by rfl) T.m_range (pa_cons (pe_op op_sub (pe_op op_add (pe_callB call_len_str (by rfl) T.m_len (by decide +kernel) (pa_cons (pv 1) pa_nil)) pe_int) (pv 3)) pa_nil)) (pg_name (i := 4) scLawCan.nd rfl (.inl rfl))
          (pss_cons (ps_set (i := 5) scLawCan.nd rfl (.inl rfl) (pe_slice sl_str (pv 1) (po_some (pv 4)) (po_some (pe_op op_add (pv 4) (pv 3)))))
          (pss_one (ps_if (PW.pt (pw_and (pt_cmpR op_notIn_seq (pv 5) (pv 2) (by rfl)) (pw_and1 (PW.pt (pw_or (pt_cmpR op_eq (pe_slice sl_str (pv 0) po_none (po_some (pv 3))) (pv 5) (nomark _)) (pw_or1 (pt_val (pe_call (okLawFollows T) hr (by rfl) T.dLawFollows.g T.dLawFollows.F.kp T.dLawFollows.b .nil pass0 (pa_cons (pv 5) (pa_cons (pv 2) pa_nil))))))))))
            (pss_one (ps_expr (pe_bm PySem.F.plainAttrs_list PySem.F.slot_list_append PySem.F.type_list_append mt_append (pv 2) (pa_cons (pv 5) pa_nil))))
            pss_nil))))))
      (pss_one (ps_ret (pe_callB (cr_sortT hr) (by rfl) T.m_sorted (by decide +kernel) (pa_cons (pv 2) pa_nil)))))), ?_⟩
    obtain ⟨htl, hbl, q⟩ := h
    refine ⟨Nat.zero_le _, fun o no => ?_⟩
    refine ⟨sV t, rfl, tS t, rfl, len_ok (by omega), _, 1, rfl, rfl, 1, _, rfl, ⟨by decide, by decide, by rw [tS_len]; omega, by rw [tS_len]; omega⟩, ?_⟩
    have en : (((tS t).length : Int) + 1 - 1).toNat = t.length := by
      rw [tS_len]
      omega
    rw [en]
    refine for_rangeN 1 rfl (fun i σ H' => ∃ ks y3 y4 y5, σ = [some (sV b), some (sV t), some (.ref o), y3, y4, y5] ∧ Same H H' ∧ H' o = some (.lst (ks.map sV)) ∧ ks.Nodup ∧ ∀ k, k ∈ ks ↔ (k ≠ [] ∧ k <:+: t ∧ can b k = true) ∧ k.length ≤ i) ⟨[], none, none, none, rfl, same_upd no, upd_same, List.nodup_nil, fun k => ⟨fun z => (by cases z), fun z => absurd (List.eq_nil_of_length_eq_zero (by omega)) z.1.1⟩⟩ (fun i σ H' hi hh => ?_) (fun σ H' hh => ?_)
    · obtain ⟨ks, y3, y4, y5, rfl, sm, eo, nd, hm⟩ := hh
      refine ⟨sV t, rfl, tS t, rfl, len_ok (by omega), _, 1, rfl, rfl, nV (i + 1), rfl, _, _, rfl, rfl, _, rfl, by rw [tS_len]; omega, by rw [tS_len]; omega, ?_⟩
      have en : (((tS t).length : Int) + 1 - ((i + 1 : Nat) : Int)).toNat = t.length - i := by
        rw [tS_len]
        omega
      rw [en]
      refine for_rangeN 0 rfl (fun j σ H' => ∃ ks y4 y5, σ = [some (sV b), some (sV t), some (.ref o), some (nV (i + 1)), y4, y5] ∧ Same H H' ∧ H' o = some (.lst (ks.map sV)) ∧ ks.Nodup ∧ ∀ k, k ∈ ks ↔ (k ≠ [] ∧ k <:+: t ∧ can b k = true) ∧ (k.length ≤ i ∨ ∃ a, a < j ∧ k = sub t a (a + (i + 1)))) ⟨ks, y4, y5, rfl, sm, eo, nd, fun k => ?_⟩ (fun j σ H' hj hh => ?_) (fun σ H' hh => ?_)
      · rw [hm]
        refine and_congr Iff.rfl ⟨.inl, fun z => z.elim id fun y => ?_⟩
        obtain ⟨_, z, _⟩ := y
        omega
      · obtain ⟨ks, y4, y5, rfl, sm, eo, nd, hm⟩ := hh
        refine ⟨sV t, rfl, nV (j + 0), rfl, _, rfl, nV (j + 0), rfl, nV (i + 1), rfl, _, _, rfl, rfl, _, rfl, tS t, rfl, len_ok (by omega), ?_⟩
        have ec : V.str (cutS (tS t) (some ((j + 0 : Nat) : Int)) (some (((j + 0 : Nat) : Int) + ((i + 1 : Nat) : Int)))) = sV (sub t j (j + (i + 1))) := by
          rw [show (((j + 0 : Nat) : Int) + ((i + 1 : Nat) : Int)) = ((j + (i + 1) : Nat) : Int) from by omega, cutE_mid]
          rfl
        rw [ec]
        have hpl : (sub t j (j + (i + 1))).length = i + 1 := by
          rw [sub_len (by omega)]
          omega
        have hpn : sub t j (j + (i + 1)) ≠ [] := List.length_pos_iff.mp (by omega)
        have hpi := sub_infix t j (j + (i + 1))
        generalize hgp : sub t j (j + (i + 1)) = p at hpl hpn hpi
        have hks : ks.length ≤ 1600 := nodup_len nd (fun k hk' => ⟨((hm k).mp hk').1.1, ((hm k).mp hk').1.2.1⟩) htl
        have hcf := can_follows (b := b) (ks := ks) hpn hpi fun k k1 k2 k3 => by
          rw [hm]
          exact ⟨fun z => z.1.2.2, fun z => ⟨⟨k1, k2, z⟩, .inl (by omega)⟩⟩
        have stay : p ∈ ks ∨ ¬ can b p = true → ∀ k, k ∈ ks ↔ (k ≠ [] ∧ k <:+: t ∧ can b k = true) ∧ (k.length ≤ i ∨ ∃ a, a < j + 1 ∧ k = sub t a (a + (i + 1))) := by
          intro hh k
          rw [hm]
          refine and_congr_right fun hk => ⟨fun z => ?_, fun z => ?_⟩
          · rcases z with z | ⟨a, h1, h2⟩
            · exact .inl z
            · exact .inr ⟨a, by omega, h2⟩
          · rcases z with z | ⟨a, h1, h2⟩
            · exact .inl z
            · by_cases haj : a = j
              · subst haj
                rw [hgp] at h2
                subst h2
                rcases hh with z | z
                · exact ((hm _).mp z).2
                · exact absurd hk.2.2 z
              · exact .inr ⟨a, by omega, h2⟩
        refine ⟨sV p, rfl, .ref o, rfl, o, _, rfl, .inl (same_at eo), rfl, flat_texts ks, _, rfl, ?_⟩
        show if (!inV (sV p) (ks.map sV)) = true then _ else _
        rw [in_texts]
        by_cases hin : p ∈ ks
        · rw [decide_eq_true hin]
          refine iteF (iteF ?_)
          exact ⟨ks, _, _, rfl, sm, eo, nd, stay (.inl hin)⟩
        rw [decide_eq_false hin]
        have add : ∀ H2, Same H' H2 → ∀ H3, Same H H3 → H3 o = some (.lst (ks.map sV ++ [sV p])) → can b p = true → ∃ ks2 : List OwM.Tx, H3 o = some (.lst (ks2.map sV)) ∧ ks2.Nodup ∧ ∀ k, k ∈ ks2 ↔ (k ≠ [] ∧ k <:+: t ∧ can b k = true) ∧ (k.length ≤ i ∨ ∃ a, a < j + 1 ∧ k = sub t a (a + (i + 1))) := by
          intro _ _ H3 _ e3 hc
          refine ⟨ks ++ [p], by rw [e3, List.map_append]; rfl, ?_, fun k => ?_⟩
          · rw [List.nodup_append]
            refine ⟨nd, by simp, fun a ha c hc' => ?_⟩
            rw [List.mem_singleton] at hc'
            subst hc'
            exact fun z => hin (z ▸ ha)
          · rw [List.mem_append, List.mem_singleton, hm]
            constructor
            · rintro (⟨h1, h2⟩ | rfl)
              · refine ⟨h1, ?_⟩
                rcases h2 with z | ⟨a, h3, h4⟩
                · exact .inl z
                · exact .inr ⟨a, by omega, h4⟩
              · exact ⟨⟨hpn, hpi, hc⟩, .inr ⟨j, by omega, hgp.symm⟩⟩
            · rintro ⟨h1, z | ⟨a, h3, h4⟩⟩
              · exact .inl ⟨h1, .inl z⟩
              · by_cases haj : a = j
                · subst haj
                  exact .inr (by rw [h4, hgp])
                · exact .inl ⟨h1, .inr ⟨a, by omega, h4⟩⟩
        have hst : (sV (b.take (i + 1)) = sV p) ↔ p <+: b := by
          constructor
          · intro z
            have := tS_inj (V.str.inj z)
            rw [← this]
            exact List.take_prefix _ _
          · intro z
            rw [List.prefix_iff_eq_take.mp z, hpl]
        refine iteT ?_
        refine ⟨sV b, rfl, nV (i + 1), rfl, _, rfl, tS b, rfl, len_ok hbl, sV p, rfl, rfl, _, rfl, ?_⟩
        rw [cutE_to]
        by_cases hpre : p <+: b
        · rw [decide_eq_true (hst.mpr hpre)]
          refine iteT (iteT ?_)
          refine ⟨.ref o, rfl, .inl ⟨rfl, _, same_at eo⟩, sV p, rfl, o, _, _, rfl, rfl, eo, by rw [List.length_map]; have := big_line; omega, ?_⟩
          obtain ⟨ks2, e2, n2, m2⟩ := add H' (Same.refl _) _ (same_upd2 sm no) upd_same (hcf.mpr (.inl hpre))
          exact ⟨ks2, _, _, rfl, same_upd2 sm no, e2, n2, m2⟩
        · rw [decide_eq_false (fun z => hpre (hst.mp z))]
          refine iteF ?_
          refine ⟨sV p, rfl, .ref o, rfl, p, ks, o, rfl, eo, by omega, fun H2 kk s2 hkk => ⟨kk, rfl, ?_⟩⟩
          have eo2 := s2 _ _ eo
          cases kk with
          | true =>
            refine iteT ?_
            refine ⟨.ref o, rfl, .inl ⟨rfl, _, same_at eo2⟩, sV p, rfl, o, _, _, rfl, rfl, eo2, by rw [List.length_map]; have := big_line; omega, ?_⟩
            obtain ⟨ks2, e2, n2, m2⟩ := add H2 s2 _ (same_upd2 (sm.trans s2) no) upd_same (hcf.mpr (.inr (hkk.mp rfl)))
            exact ⟨ks2, _, _, rfl, same_upd2 (sm.trans s2) no, e2, n2, m2⟩
          | false =>
            refine iteF ?_
            refine ⟨ks, _, _, rfl, sm.trans s2, eo2, nd, stay (.inr fun z => ?_)⟩
            rcases hcf.mp z with z | z
            · exact hpre z
            · have := hkk.mpr z
              cases this
      · obtain ⟨ks, y4, y5, rfl, sm, eo, nd, hm⟩ := hh
        refine ⟨ks, _, y4, y5, rfl, sm, eo, nd, fun k => ?_⟩
        rw [hm]
        refine and_congr_right fun hk => ⟨fun z => ?_, fun z => ?_⟩
        · rcases z with z | ⟨a, h1, rfl⟩
          · omega
          · rw [sub_len (by omega)]
            omega
        · by_cases h1 : k.length ≤ i
          · exact .inl h1
          · obtain ⟨a, c, h2, h3, rfl⟩ := infix_iff.mp ⟨hk.1, hk.2.1⟩
            rw [sub_len h3] at z h1
            exact .inr ⟨a, by omega, by congr 1; omega⟩
    · obtain ⟨ks, y3, y4, y5, rfl, sm, eo, nd, hm⟩ := hh
      refine ⟨.ref o, rfl, o, ks, rfl, same_at eo, fun p np => ?_⟩
      refine q _ p _ (sm.trans (same_upd np)) (sm.free np) upd_same ⟨asc_sort nd, fun k => ?_⟩
      rw [mem_sort, hm]
      exact ⟨fun z => z.1, fun z => ⟨z, infix_le z.2.1⟩⟩
end Ow
set_option Elab.async false
set_option linter.all false
set_option maxRecDepth 100000
set_option maxHeartbeats 4000000
namespace Ow
open PySem PySem.Spec PyProof.Rows L2 OwR OwM
theorem okIsStory {P : Program} {w : World} {K : PySem.W.Frag} {mg : PySem.Str → Option Value} {base : Heap} {k : Nat} (T : Tx0 K mg) : FnOk P w K mg base CX0 (k + 3) T.dIsStory.f T.dIsStory.fd ["last", "thing"] (spIsStory K) := by
  refine FunD.ok T.dIsStory.F scIsStory (fun vs H Q E h => ?len) (fun cdv A outer s H vs Q E hr h => ?run)
  case len =>
    obtain ⟨_, _, _, rfl, _⟩ := h
    rfl
  case run =>
    obtain ⟨last, ns, a, rfl, h⟩ := h
    obtain ⟨tM, hMost⟩ := T.m_most
    refine ⟨_, PSs.nox (pss_cons (ps_if (PW.pt (pw_or (pt_not (pt_val (pe_callB call_isi (by rfl) T.m_isinstance (by decide +kernel) (pa_cons (pv 1) (pa_cons (pe_bltn (v := .ty "list") (by rfl) T.m_list (by decide +kernel) rfl) pa_nil))))) (pw_or1 (pt_cmpR op_gt (pe_callB call_len (by rfl) T.m_len (by decide +kernel) (pa_cons (pv 1) pa_nil)) (pe_glob (v := .int 64) (by rfl) hMost ⟨_, rfl⟩) (nomark _)))))
        (pss_one (ps_ret pe_bl))
        pss_nil)
      (pss_cons (ps_for PassesOwn.never rfl (pi_list (pv 1)) (pg_name (i := 2) scIsStory.nd rfl (.inl rfl))
        (pss_cons (ps_if (pt_not (pt_val (pe_call (okIsBetween T) hr (by rfl) T.dIsBetween.g T.dIsBetween.F.kp T.dIsBetween.b .nil pass0 (pa_cons (pv 2) (pa_cons pe_int (pa_cons (pv 0) pa_nil))))))
          (pss_one (ps_ret pe_bl))
          pss_nil)
        (pss_one (ps_set (i := 0) scIsStory.nd rfl (.inl rfl) (pe_op op_mul pe_int (pv 0))))))
      (pss_one (ps_ret pe_bl)))), ?_⟩
    obtain ⟨hS, hi, hl, q⟩ := h
    refine ⟨.ref a, rfl, .ref a, .ty "list", .type "list", .type "list", true, rfl, .ty _, tyx_seq hS, kit_ty (by decide +kernel), true, rfl, ?_⟩
    refine iteF ?_
    refine ⟨.ref a, rfl, .ref a, (ns.map nV).length, rfl, .inl ⟨_, hS, rfl⟩, _, _, rfl, rfl, _, rfl, ?_⟩
    rw [show decide ((((ns.map nV).length : Nat) : Int) > 64) = false by
      rw [List.length_map]
      exact decide_eq_false (by omega)]
    refine iteF ?_
    refine ⟨.ref a, rfl, a, rfl, ⟨_, hS⟩, ?_⟩
    refine for_list (xs := ns.map nV) (fun i σ H' => ∃ y, σ = [some (nV (lastOf last (ns.take i))), some (.ref a), y] ∧ H' = H) ⟨_, by rw [List.take_zero]; unfold lastOf; rw [List.length_nil, Nat.pow_zero, Nat.mul_one]; rfl, rfl⟩ (fun i σ H' _ hh => ?_) (fun i x σ H' hx hh => ?_) (fun σ H' hh => ?_)
    · obtain ⟨_, _, rfl⟩ := hh
      exact hS
    · obtain ⟨_, rfl, rfl⟩ := hh
      obtain ⟨p, e, rfl, _⟩ := take_nV hx
      have hp := story_at hi e
      refine ⟨nV p, rfl, nV (lastOf last (ns.take i)), rfl, p, 0, _, rfl, by omega, by omega, true, rfl, iteF ?_⟩
      refine ⟨_, rfl, 2, _, rfl, rfl, .inl ⟨by decide, by decide⟩, ?_⟩
      refine ⟨some (nV p), ?_, rfl⟩
      rw [last_next e]
      rfl
    · obtain ⟨_, rfl, rfl⟩ := hh
      exact q
end Ow
set_option Elab.async false
set_option linter.all false
set_option maxRecDepth 100000
set_option maxHeartbeats 4000000
namespace Ow
open PySem PySem.Spec PyProof.Rows L2 OwR OwM
theorem okBegins {P : Program} {w : World} {K : PySem.W.Frag} {mg : PySem.Str → Option Value} {base : Heap} {k : Nat} (T : Tx0 K mg) : FnOk P w K mg base CX0 (k + 3) T.dBegins.f T.dBegins.fd ["row", "text"] spBegins := by
  refine FunD.ok T.dBegins.F scBegins (fun vs H Q E h => ?len) (fun cdv A outer s H vs Q E hr h => ?run)
  case len =>
    obtain ⟨_, _, rfl, _⟩ := h
    rfl
  case run =>
    obtain ⟨r, t, rfl, h⟩ := h
    refine ⟨_, PSs.nox (pss_cons (ps_set (i := 2) scBegins.nd rfl (.inl rfl) (pe_lst pa_nil))
      (pss_cons (ps_for PassesOwn.never rfl (pi_list (pe_call (okBaseStories T) hr (by rfl) T.dBaseStories.g T.dBaseStories.F.kp T.dBaseStories.b .nil pass0 (pa_cons (pv 0) (pa_cons (pe_callB call_len_str (by rfl) T.m_len (by decide +kernel) (pa_cons (pv 1) pa_nil)) pa_nil)))) (pg_name (i := 3) scBegins.nd rfl (.inl rfl))
        (pss_cons (ps_set (i := 4) scBegins.nd rfl (.inl rfl) (pe_call (okBeginnings T) hr (by rfl) T.dBeginnings.g T.dBeginnings.F.kp T.dBeginnings.b .nil pass0 (pa_cons (pe_call (okFinalRow T) hr (by rfl) T.dFinalRow.g T.dFinalRow.F.kp T.dFinalRow.b .nil pass0 (pa_cons (pv 0) (pa_cons (pv 3) pa_nil))) (pa_cons (pv 1) pa_nil))))
        (pss_cons (ps_if (pt_cmp (pc_dinN (hu_of hr) (pv 1) (pv 4)))
          (pss_one (ps_ret (pe_tup (pa_cons pe_str (pa_cons (pe_op op_cat (pv 3) (pe_call (okBeginningCalls T) hr (by rfl) T.dBeginningCalls.g T.dBeginningCalls.F.kp T.dBeginningCalls.b .nil pass0 (pa_cons (pv 4) (pa_cons (pv 1) pa_nil)))) pa_nil)))))
          pss_nil)
        (pss_one (ps_expr (pe_bm PySem.F.plainAttrs_list PySem.F.slot_list_append PySem.F.type_list_append mt_append (pv 2) (pa_cons (pe_tup (pa_cons (pv 3) (pa_cons (pe_callB (cr_sortD hr rfl) (by rfl) T.m_sorted (by decide +kernel) (pa_cons (pv 4) pa_nil)) pa_nil))) pa_nil)))))))
      (pss_one (ps_ret (pe_tup (pa_cons pe_str (pa_cons (pv 2) pa_nil))))))), ?_⟩
    obtain ⟨h2, hrl, ht1, htl, q⟩ := h
    have hr0 : r ≠ [] := List.ne_nil_of_length_pos (by omega)
    refine ⟨Nat.zero_le _, fun o no => ?_⟩
    refine ⟨sV r, rfl, sV t, rfl, tS t, rfl, len_ok (by omega), r, t.length, by rw [tS_len]; rfl, h2, hrl, htl, fun H1 p bs s1 np ep hS => ?_⟩
    have eo1 : H1 o = some (.lst []) := s1 _ _ upd_same
    have sm1 : Same H H1 := (same_upd no).trans s1
    have po : p ≠ o := fun z => by
      subst z
      rw [upd_same] at np
      cases np
    refine ⟨p, rfl, ⟨_, same_at ep⟩, ?_⟩
    refine for_list (xs := bs.map V.ref) (fun i σ H' => ∃ xs y3 y4, σ = [some (sV r), some (sV t), some (.ref o), y3, y4] ∧ KeptBut [o] H1 H' ∧ H' o = some (.lst xs) ∧ xs.length ≤ i ∧ ∀ s ∈ (stories (r.length - 1) t.length).take i, ¬ can (follow r s) t = true) ⟨[], none, none, rfl, .refl _ _, eo1, Nat.le_refl _, fun s z => (by rw [List.take_zero] at z; cases z)⟩ (fun i σ H' _ hh => ?_) (fun i x σ H' hx hh => ?_) (fun σ H' hh => ?_)
    · obtain ⟨_, _, _, _, k1, _⟩ := hh
      exact same_at (k1.at po ep)
    · obtain ⟨xs, y3, y4, rfl, k1, eo, hxl, hno⟩ := hh
      obtain ⟨b, eb, rfl, hib⟩ := take_ref hx
      obtain ⟨s, es, nb, hb⟩ := hS.at eb
      have bo : b ≠ o := fun z => by
        subst z
        rw [upd_same] at nb
        cases nb
      have hb' := k1.at bo hb
      obtain ⟨f1, f2, f3, f4⟩ := story_facts (List.mem_of_getElem? es) (by omega)
      have hfl := follow_len hr0 f1
      refine ⟨sV r, rfl, .ref b, rfl, r, s, b, rfl, same_at hb', hr0, f1, by omega, sV t, rfl, follow r s, t, rfl, by omega, by omega, fun H2 d es2 hF s2 nd ed => ?_⟩
      have sm2 : Same H H2 := (k1.same sm1 no).trans s2
      have hb2 := s2 _ _ hb'
      refine ⟨sV t, rfl, .ref d, rfl, .inl ⟨d, _, rfl, DGet.k (k := Sum.inr (tS t)) ed, _, rfl, ?_⟩⟩
      rw [dKv_has]
      by_cases hin : t ∈ es2.map (·.1)
      · rw [decide_eq_true hin]
        refine iteT ?_
        refine ⟨.ref b, rfl, .ref d, rfl, sV t, rfl, follow r s, t, t, es2, d, rfl, ed, hF, hin, by omega, by omega, follow_ne hr0 f1, fun H3 q3 cs s3 nq3 eq3 hG hcl => ?_⟩
        refine ⟨b, q3, _, _, rfl, rfl, s3 _ _ hb2, eq3, ?_, fun c nc => ⟨(by show 2 ≤ sizeLine; decide), fun tu ntu => ?_⟩⟩
        · rw [List.length_map, List.length_map]
          have := big_line
          omega
        have sm3 := sm2.trans s3
        refine q _ tu (.ref c) (sm3.trans ((same_upd nc).trans (same_upd ntu))) (sm3.free ((same_upd nc).free ntu)) ?_
        have hab : ableB r t = true := by
          unfold ableB
          rw [List.any_eq_true]
          exact ⟨s, List.mem_of_getElem? es, ((hF.2.1 t).mp hin).2.2⟩
        rw [upd_same, hab, if_pos rfl]
      · rw [decide_eq_false hin]
        refine iteF ?_
        have eo2 := s2 _ _ eo
        refine ⟨.ref o, rfl, .inl ⟨rfl, _, same_at eo2⟩, .ref b, rfl, .ref d, rfl, d, _, es2.map (·.1), rfl, .inl ed, dKv_keys es2, fun z nz => ⟨(by show 2 ≤ sizeLine; decide), fun tu ntu => ?_⟩⟩
        have oz : o ≠ z := ne_of_none eo2 nz
        have otu : o ≠ tu := ne_of_none (by rw [upd_ne oz]; exact eo2) ntu
        refine ⟨o, xs, _, rfl, rfl, by rw [upd_ne otu, upd_ne oz]; exact eo2, ?_, ?_⟩
        · have := big_line
          have e1 := hS.1
          have := stories_len (last := r.length - 1) (by omega) htl
          omega
        · refine ⟨_, _, _, rfl, ((k1.then s2).then ((same_upd nz).trans (same_upd ntu))).new, upd_same, ?_, fun s' hs' => ?_⟩
          · rw [List.length_append]
            show _ + 1 ≤ _
            omega
          · rcases (mem_take_next es).mp hs' with hs' | rfl
            · exact hno s' hs'
            · exact fun z => hin ((hF.2.1 t).mpr ⟨List.length_pos_iff.mp (by omega), List.infix_rfl, z⟩)
    · obtain ⟨xs, y3, y4, rfl, k1, eo, hxl, hno⟩ := hh
      rw [List.length_map, hS.1, List.take_length] at hno
      refine ⟨.ref o, rfl, (by show 2 ≤ sizeLine; decide), fun tu ntu => ?_⟩
      have sm2 := k1.same sm1 no
      refine q _ tu (.ref o) (sm2.trans (same_upd ntu)) (sm2.free ntu) ?_
      have hab : ¬ ableB r t = true := fun z => by
        unfold ableB at z
        rw [List.any_eq_true] at z
        obtain ⟨s, a, b⟩ := z
        exact hno s a b
      rw [upd_same, if_neg hab]
end Ow
set_option Elab.async false
set_option linter.all false
set_option maxRecDepth 100000
set_option maxHeartbeats 4000000
namespace Ow
open PySem PySem.Spec PyProof.Rows L2 OwR OwM
theorem okEnds {P : Program} {w : World} {K : PySem.W.Frag} {mg : PySem.Str → Option Value} {base : Heap} {k : Nat} (T : Tx0 K mg) : FnOk P w K mg base CX0 (k + 3) T.dEnds.f T.dEnds.fd ["row", "text"] spEnds := by
  refine FunD.ok T.dEnds.F scEnds (fun vs H Q E h => ?len) (fun cdv A outer s H vs Q E hr h => ?run)
  case len =>
    obtain ⟨_, _, rfl, _⟩ := h
    rfl
  case run =>
    obtain ⟨r, t, rfl, h⟩ := h
    refine ⟨_, PSs.nox (pss_cons (ps_set (i := 2) scEnds.nd rfl (.inl rfl) (pe_lst pa_nil))
      (pss_cons (ps_for PassesOwn.never rfl (pi_list (pe_call (okBaseStories T) hr (by rfl) T.dBaseStories.g T.dBaseStories.F.kp T.dBaseStories.b .nil pass0 (pa_cons (pv 0) (pa_cons (pe_callB call_len_str (by rfl) T.m_len (by decide +kernel) (pa_cons (pv 1) pa_nil)) pa_nil)))) (pg_name (i := 3) scEnds.nd rfl (.inl rfl))
        (pss_cons (ps_set (i := 4) scEnds.nd rfl (.inl rfl) (pe_call (okFinalRow T) hr (by rfl) T.dFinalRow.g T.dFinalRow.F.kp T.dFinalRow.b .nil pass0 (pa_cons (pv 0) (pa_cons (pv 3) pa_nil))))
        (pss_cons (ps_set (i := 5) scEnds.nd rfl (.inl rfl) (pe_call (okBeginnings T) hr (by rfl) T.dBeginnings.g T.dBeginnings.F.kp T.dBeginnings.b .nil pass0 (pa_cons (pe_step (pv 4) (pe_un un_neg pe_int)) (pa_cons (pe_step (pv 1) (pe_un un_neg pe_int)) pa_nil))))
        (pss_cons (ps_if (pt_cmp (pc_dinN (hu_of hr) (pe_step (pv 1) (pe_un un_neg pe_int)) (pv 5)))
          (pss_one (ps_ret (pe_tup (pa_cons pe_str (pa_cons (pe_op op_cat (pv 3) (pe_call (okMirrored T) hr (by rfl) T.dMirrored.g T.dMirrored.F.kp T.dMirrored.b .nil pass0 (pa_cons (pe_op op_sub (pe_callB call_len_str (by rfl) T.m_len (by decide +kernel) (pa_cons (pv 4) pa_nil)) pe_int) (pa_cons (pe_call (okBeginningCalls T) hr (by rfl) T.dBeginningCalls.g T.dBeginningCalls.F.kp T.dBeginningCalls.b .nil pass0 (pa_cons (pv 5) (pa_cons (pe_step (pv 1) (pe_un un_neg pe_int)) pa_nil))) pa_nil)))) pa_nil)))))
          pss_nil)
        (pss_one (ps_expr (pe_bm PySem.F.plainAttrs_list PySem.F.slot_list_append PySem.F.type_list_append mt_append (pv 2) (pa_cons (pe_tup (pa_cons (pv 3) (pa_cons (pe_callB (cr_sortT hr) (by rfl) T.m_sorted (by decide +kernel) (pa_cons (pe_lock (pe_lc (own := [("part", 6)]) (by rfl) scEnds.nd (pi_keys (pv 5)) (blkOk_by (own := [("part", 6)]) (N := nEnds) (sc := defScope sEnds) (by decide +kernel)) (fun _ _ _ _ _ => pg_name (i := 6) scEnds.nd rfl (.inl rfl)) (fun _ _ _ _ _ => pts_nil) (fun _ _ _ _ _ => (pe_step (pv 6) (pe_un un_neg pe_int))))) pa_nil)) pa_nil))) pa_nil))))))))
      (pss_one (ps_ret (pe_tup (pa_cons pe_str (pa_cons (pv 2) pa_nil))))))), ?_⟩
    obtain ⟨h2, hrl, ht1, htl, qA, qN⟩ := h
    have hr0 : r ≠ [] := List.ne_nil_of_length_pos (by omega)
    have ht0 : t ≠ [] := List.ne_nil_of_length_pos (by omega)
    have htr : t.reverse.length = t.length := List.length_reverse
    refine ⟨Nat.zero_le _, fun o no => ?_⟩
    refine ⟨sV r, rfl, sV t, rfl, tS t, rfl, len_ok (by omega), r, t.length, by rw [tS_len]; rfl, h2, hrl, htl, fun H1 p bs s1 np ep hS => ?_⟩
    have eo1 : H1 o = some (.lst []) := s1 _ _ upd_same
    have sm1 : Same H H1 := (same_upd no).trans s1
    have po : p ≠ o := fun z => by
      subst z
      rw [upd_same] at np
      cases np
    refine ⟨p, rfl, ⟨_, same_at ep⟩, ?_⟩
    refine for_list (xs := bs.map V.ref) (fun i σ H' => ∃ rs ls y3 y4 y5, σ = [some (sV r), some (sV t), some (.ref o), y3, y4, y5, none] ∧ KeptBut [o] H1 H' ∧ H' o = some (.lst (rs.map fun x => V.ref x.1)) ∧ Tbl H H' rs ls ∧ rs.map (·.2.1) = bs.take i ∧ (∀ c ∈ rs.map (·.2.2), c ≠ o ∧ c ∉ bs) ∧ ls.map (·.1) = (stories (r.length - 1) t.length).take i ∧ (∀ l ∈ ls, IsCansE (follow r l.1) t l.2) ∧ ∀ s ∈ (stories (r.length - 1) t.length).take i, ¬ can (follow r s).reverse t.reverse = true)
      ⟨[], [], none, none, none, rfl, .refl _ _, eo1, ⟨rfl, List.nodup_nil, List.nodup_nil, fun s z => (by cases z), fun i tu s p st ps z => (by cases z)⟩, rfl, fun c z => (by cases z), rfl, fun l z => (by cases z), fun s z => (by rw [List.take_zero] at z; cases z)⟩ (fun i σ H' _ hh => ?_) (fun i x σ H' hx hh => ?_) (fun σ H' hh => ?_)
    · obtain ⟨_, _, _, _, _, _, k1, _⟩ := hh
      exact same_at (k1.at po ep)
    · obtain ⟨rs, ls, y3, y4, y5, rfl, k1, eo, hT, hrs, hps, hls, hcan, hno⟩ := hh
      obtain ⟨b, eb, rfl, hib⟩ := take_ref hx
      obtain ⟨s, es, nb, hb⟩ := hS.at eb
      have hbm := List.mem_of_getElem? eb
      have bo : b ≠ o := fun z => by
        subst z
        rw [upd_same] at nb
        cases nb
      have nbH : H b = none := (same_upd no).free nb
      have hb' := k1.at bo hb
      have hsm := List.mem_of_getElem? es
      obtain ⟨f1, f2, f3, f4⟩ := story_facts hsm (by omega)
      have hfl := follow_len hr0 f1
      have hfr : (follow r s).reverse.length = (follow r s).length := List.length_reverse
      refine ⟨sV r, rfl, .ref b, rfl, r, s, b, rfl, same_at hb', hr0, f1, by omega, ?_⟩
      refine ⟨sV (follow r s), rfl, 1, rfl, follow r s, -1, rfl, rfl, len_ok (by omega), .inr rfl, sV t, rfl, 1, rfl, t, -1, rfl, rfl, len_ok (by omega), .inr rfl, (follow r s).reverse, t.reverse, rfl, by omega, by omega, fun H2 d es2 hF s2 nd ed => ?_⟩
      have sm2 : Same H H2 := (k1.same sm1 no).trans s2
      have hb2 := s2 _ _ hb'
      refine ⟨sV t, rfl, 1, rfl, t, -1, rfl, rfl, len_ok (by omega), .inr rfl, .ref d, rfl, .inl ⟨d, _, rfl, DGet.k (k := Sum.inr (tS t.reverse)) ed, _, rfl, ?_⟩⟩
      rw [dKv_has]
      by_cases hin : t.reverse ∈ es2.map (·.1)
      · rw [decide_eq_true hin]
        refine iteT ?_
        have hab : ableE r t = true := by
          unfold ableE
          rw [List.any_eq_true]
          exact ⟨s, hsm, ((hF.2.1 _).mp hin).2.2⟩
        refine ⟨.ref b, rfl, sV (follow r s), rfl, tS (follow r s), rfl, len_ok (by omega), _, 1, rfl, rfl, .ref d, rfl, sV t, rfl, 1, rfl, t, -1, rfl, rfl, len_ok (by omega), .inr rfl, (follow r s).reverse, t.reverse, t.reverse, es2, d, rfl, ed, hF, hin, by omega, by omega, fun z => follow_ne hr0 f1 (List.reverse_eq_nil_iff.mp z), fun H3 q3 cs s3 nq3 eq3 hG hcl => ?_⟩
        obtain ⟨g1, g2⟩ := hG
        rw [List.length_reverse] at g1
        refine ⟨(follow r s).length - 1, cs, q3, ?_, same_at eq3, g1, by omega, fun H4 q4 s4 nq4 eq4 => ?_⟩
        · rw [tS_len]
          show [V.int (((follow r s).length : Int) - ((1 : Nat) : Int)), V.ref q3] = [V.int (((follow r s).length - 1 : Nat) : Int), V.ref q3]
          rw [int_sub (by omega)]
        refine ⟨b, q4, _, _, rfl, rfl, s4 _ _ (s3 _ _ hb2), eq4, ?_, fun c nc => ⟨(by show 2 ≤ sizeLine; decide), fun tu ntu => ?_⟩⟩
        · rw [List.length_map, List.length_map, mirror_len]
          have := big_line
          omega
        have sm4 := sm2.trans (s3.trans s4)
        have ctu : c ≠ tu := ne_of_none upd_same ntu
        refine qA hab _ tu c (s ++ mirror ((follow r s).length - 1) cs) (sm4.trans ((same_upd nc).trans (same_upd ntu))) (sm4.free ((same_upd nc).free ntu)) upd_same (sm4.free nc) ?_ ?_
        · rw [upd_ne ctu, upd_same, List.map_append]
        · refine ⟨isStory_app.mpr ⟨f1, ?_⟩, ?_, ?_⟩
          · rw [show lastOf (r.length - 1) s = (follow r s).length - 1 by omega]
            exact mirror_story
          · rw [List.length_append, mirror_len]
            omega
          · rw [follow_app, follow_rev (follow_ne hr0 f1) g1, ← List.reverse_prefix, List.reverse_reverse]
            exact g2
      · rw [decide_eq_false hin]
        refine iteF ?_
        have eo2 := s2 _ _ eo
        refine ⟨.ref o, rfl, .inl ⟨rfl, _, same_at eo2⟩, .ref b, rfl, d, _, ed, trivial, fun od => ⟨.ref d, rfl, d, od, rfl, .inl ⟨_, upd_same, fun D nD => ?_⟩⟩⟩
        have dD : d ≠ D := fun z => by
          subst z
          rw [upd_same] at nD
          cases nD
        have nD2 : H2 D = none := by
          rw [upd_ne dD.symm] at nD
          exact nD
        have hel : es2.length ≤ 1600 := by
          have := nodup_len hF.1 (fun k hk => ⟨((hF.2.1 k).mp hk).1, ((hF.2.1 k).mp hk).2.1⟩) (by omega)
          rw [List.length_map] at this
          exact this
        have hdl : (dKv es2).length = es2.length := by
          unfold dKv
          rw [List.length_map]
        refine itk_by (fun j H3 => (∀ c x, c ≠ d → H2 c = some x → H3 c = some x) ∧ H3 d = some (.frz od (.dK (dKv es2))) ∧ H3 D = some (.lst ((((es2.map (·.1)).take j).map List.reverse).map sV))) ⟨fun c x hc e => by rw [upd_ne (ne_of_none e nD2), upd_ne hc]; exact e, by rw [upd_ne dD]; exact upd_same, upd_same⟩ (fun j H3 hh => hh.2.1) (fun j k v H3 hkv hh => ?_) (fun H3 hh => ?_)
        · obtain ⟨k3, ed3, eD3⟩ := hh
          obtain ⟨⟨k, oc⟩, e1, e2⟩ : ∃ e, es2[j]? = some e ∧ (Sum.inr (tS e.1), oN e.2) = (k, v) := by
            unfold dKv at hkv
            rw [List.getElem?_map] at hkv
            cases e : es2[j]? with
            | none =>
              rw [e] at hkv
              cases hkv
            | some e' =>
              rw [e] at hkv
              exact ⟨e', rfl, Option.some.inj hkv⟩
          cases e2
          rename_i k'
          have hkm : k ∈ es2.map (·.1) := List.mem_map.mpr ⟨_, List.mem_of_getElem? e1, rfl⟩
          have hkl := infix_le ((hF.2.1 _).mp hkm).2.1
          have hje : (es2.map (·.1))[j]? = some k := by
            rw [List.getElem?_map, e1]
            rfl
          refine ⟨rfl, sV k, rfl, 1, rfl, k, -1, rfl, rfl, len_ok (by omega), .inr rfl, _, eD3, ?_, fun c x hc e => ?_, ?_, ?_⟩
          · rw [List.length_map, List.length_map, List.length_take, List.length_map]
            have := big_line
            omega
          · rw [upd_ne (ne_of_none e nD2)]
            exact k3 c x hc e
          · rw [upd_ne dD]
            exact ed3
          · rw [upd_same, take_next hje, List.map_append, List.map_append]
            rfl
        · obtain ⟨k3, ed3, eD3⟩ := hh
          rw [hdl, List.take_of_length_le (by rw [List.length_map]; exact Nat.le_refl _)] at eD3
          refine ⟨ed3, ?_⟩
          have s3 : Same H2 (upd H3 d (.dK (dKv es2))) := fun c x e => by
            by_cases hc : c = d
            · subst hc
              rw [ed] at e
              cases e
              exact upd_same
            · rw [upd_ne hc]
              exact k3 c x hc e
          have eD4 : (upd H3 d (.dK (dKv es2))) D = some (.lst (((es2.map (·.1)).map List.reverse).map sV)) := by
            rw [upd_ne dD.symm]
            exact eD3
          generalize upd H3 d (.dK (dKv es2)) = H4 at s3 eD4
          refine ⟨D, _, rfl, same_at eD4, fun z nz => ⟨(by show 2 ≤ sizeLine; decide), fun tu ntu => ?_⟩⟩
          have eo4 := s3 _ _ eo2
          have hb4 := s3 _ _ hb2
          have oz : o ≠ z := ne_of_none eo4 nz
          have otu : o ≠ tu := ne_of_none (by rw [upd_ne oz]; exact eo4) ntu
          have ztu : z ≠ tu := ne_of_none upd_same ntu
          have nz2 : H2 z = none := s3.free nz
          have nzH' : H' z = none := s2.free nz2
          have bz : b ≠ z := ne_of_none hb4 nz
          have btu : b ≠ tu := ne_of_none (by rw [upd_ne bz]; exact hb4) ntu
          have sm4 := sm2.trans s3
          have keep : ∀ c x, c ≠ o → H' c = some x → upd (upd (upd H4 z (.lst ((((es2.map (·.1)).map List.reverse).mergeSort leT).map sV))) tu (.tup [.ref b, .ref z])) o (.lst (rs.map (fun x => V.ref x.1) ++ [.ref tu])) c = some x := fun c x hc e => by
            have e4 := s3 _ _ (s2 _ _ e)
            rw [upd_ne hc, upd_ne (ne_of_none (by rw [upd_ne (ne_of_none e4 nz)]; exact e4) ntu), upd_ne (ne_of_none e4 nz)]
            exact e4
          have hlen : rs.length ≤ 270 := by
            have e1 := congrArg List.length hrs
            rw [List.length_map, List.length_take] at e1
            have := stories_len (last := r.length - 1) (by omega) htl
            rw [hS.1] at e1
            omega
          refine ⟨o, _, _, rfl, rfl, by rw [upd_ne otu, upd_ne oz]; exact eo4, ?_, ?_⟩
          · rw [List.length_map]
            have := big_line
            omega
          have inS : ∀ x ∈ rs, x.2.1 ∈ bs := fun x hx => by
            have : x.2.1 ∈ rs.map (·.2.1) := List.mem_map.mpr ⟨x, hx, rfl⟩
            rw [hrs] at this
            exact List.mem_of_mem_take this
          refine ⟨rs ++ [(tu, b, z)], ls ++ [(s, ((es2.map (·.1)).map List.reverse).mergeSort leT)], _, _, _, rfl, ?_, ?_, ?_, ?_, ?_, ?_, ?_, ?_⟩
          · exact (k1.then (s2.trans (s3.trans ((same_upd nz).trans (same_upd ntu))))).new
          · rw [upd_same, List.map_append]
            rfl
          · refine Tbl.snoc (hT.mono fun x hx c hc y hy => keep c y ?_ hy) (sm4.free ((same_upd nz).free ntu)) ?_ nbH ?_ (sm4.free nz) ?_ ?_ ?_ ?_ ?_ bz
            · rintro rfl
              rw [eo] at hy
              obtain ⟨j, hj⟩ := List.getElem?_of_mem hx
              obtain ⟨x1, x2, x3⟩ := x
              obtain ⟨st, ps, _, _, e1, _, e2, _, e3⟩ := hT.at hj
              have hx3 := hps x3 (List.mem_map.mpr ⟨_, hx, rfl⟩)
              rcases hc with rfl | rfl | rfl
              · rw [eo] at e1
                cases e1
              · have := inS _ hx
                obtain ⟨j2, hj2⟩ := List.getElem?_of_mem this
                obtain ⟨_, _, n2, _⟩ := hS.at hj2
                have n2' : (upd H c (HO.lst [])) c = none := n2
                rw [upd_same] at n2'
                cases n2'
              · exact hx3.1 rfl
            · rw [upd_ne otu.symm, upd_same]
            · rw [upd_ne bo, upd_ne btu, upd_ne bz]
              exact hb4
            · rw [upd_ne oz.symm, upd_ne ztu, upd_same]
            · rw [hrs]
              exact fun hm => by
                obtain ⟨hi, e2⟩ := List.getElem?_eq_some_iff.mp eb
                have h := hS.2.1
                rw [← List.take_append_drop i bs, List.nodup_append] at h
                refine h.2.2 b hm b ?_ rfl
                rw [← e2, ← List.getElem_cons_drop hi]
                exact List.mem_cons_self ..
            · intro hm
              obtain ⟨x, hx, e⟩ := List.mem_map.mp hm
              obtain ⟨j, hj⟩ := List.getElem?_of_mem hx
              obtain ⟨x1, x2, x3⟩ := x
              obtain ⟨st, ps, _, _, _, _, _, _, e3⟩ := hT.at hj
              have e' : x3 = z := e
              rw [e', nzH'] at e3
              cases e3
            · exact fun x hx z => (hps x hx).2 (z ▸ hbm)
            · intro x hx e
              rw [hrs] at hx
              obtain ⟨j2, hj2⟩ := List.getElem?_of_mem (List.mem_of_mem_take hx)
              obtain ⟨_, _, n2, e2⟩ := hS.at hj2
              subst e
              have xo : x ≠ o := fun w => by
                subst w
                rw [upd_same] at n2
                cases n2
              have := k1.at xo e2
              rw [nzH'] at this
              cases this
          · rw [List.map_append, hrs, take_next eb]
            rfl
          · intro c hc
            rw [List.map_append] at hc
            rcases List.mem_append.mp hc with hc | hc
            · exact hps c hc
            · have hc : c = z := List.mem_singleton.mp hc
              subst hc
              refine ⟨oz.symm, fun hm => ?_⟩
              obtain ⟨j2, hj2⟩ := List.getElem?_of_mem hm
              obtain ⟨_, _, n2, e2⟩ := hS.at hj2
              have := k1.at oz.symm e2
              rw [nzH'] at this
              cases this
          · rw [List.map_append, hls, take_next es]
            rfl
          · intro l hl
            rcases List.mem_append.mp hl with hl | hl
            · exact hcan l hl
            · rw [List.mem_singleton] at hl
              subst hl
              have nd : ((es2.map (·.1)).map List.reverse).Nodup := by
                refine List.Pairwise.map _ (fun a b hab z => hab ?_) hF.1
                rw [← List.reverse_reverse a, z, List.reverse_reverse]
              refine ⟨asc_sort nd, fun k => ?_⟩
              rw [mem_sort, List.mem_map]
              constructor
              · rintro ⟨x, hx, rfl⟩
                obtain ⟨a1, a2, a3⟩ := (hF.2.1 x).mp hx
                refine ⟨fun z => a1 (List.reverse_eq_nil_iff.mp z), ?_, by rw [List.reverse_reverse]; exact a3⟩
                rw [← infix_rev, List.reverse_reverse]
                exact a2
              · rintro ⟨a1, a2, a3⟩
                exact ⟨k.reverse, (hF.2.1 _).mpr ⟨fun z => a1 (List.reverse_eq_nil_iff.mp z), infix_rev.mpr a2, a3⟩, List.reverse_reverse k⟩
          · intro s' hs'
            rcases (mem_take_next es).mp hs' with hs' | rfl
            · exact hno s' hs'
            · exact fun z => hin ((hF.2.1 _).mpr ⟨fun w => ht0 (List.reverse_eq_nil_iff.mp w), List.infix_rfl, z⟩)
    · obtain ⟨rs, ls, y3, y4, y5, rfl, k1, eo, hT, hrs, hps, hls, hcan, hno⟩ := hh
      rw [List.length_map, hS.1, List.take_length] at hno hls
      refine ⟨.ref o, rfl, (by show 2 ≤ sizeLine; decide), fun tu ntu => ?_⟩
      have sm2 := k1.same sm1 no
      have hab : ableE r t = false := by
        rw [Bool.eq_false_iff]
        intro z
        unfold ableE at z
        rw [List.any_eq_true] at z
        obtain ⟨s, a, b⟩ := z
        exact hno s a b
      have otu : o ≠ tu := ne_of_none eo ntu
      refine qN hab _ tu o rs ls (sm2.trans (same_upd ntu)) (sm2.free ntu) upd_same no (by rw [upd_ne otu]; exact eo) ?_ ⟨hls, hcan⟩
      exact hT.mono fun x hx c hc y hy => by
        rw [upd_ne (ne_of_none hy ntu)]
        exact hy
end Ow
set_option Elab.async false
set_option linter.all false
set_option maxRecDepth 100000
set_option maxHeartbeats 4000000
namespace Ow
open PySem PySem.Spec PyProof.Rows L2 OwR OwM
theorem two_left (d : Nat) : ∀ v < 2, ∃ x, ([97, 98, 99].filter fun c => !decide (c = d))[v]? = some x ∧ x < 1114112 := by
  intro v hv
  by_cases h1 : d = 97
  · subst h1
    match v, hv with
    | 0, _ => exact ⟨98, rfl, by decide⟩
    | 1, _ => exact ⟨99, rfl, by decide⟩
  · by_cases h2 : d = 98
    · subst h2
      match v, hv with
      | 0, _ => exact ⟨97, rfl, by decide⟩
      | 1, _ => exact ⟨99, rfl, by decide⟩
    · have e : ([97, 98, 99].filter fun c => !decide (c = d)) = 97 :: 98 :: [99].filter fun c => !decide (c = d) := by
        rw [List.filter_cons_of_pos, List.filter_cons_of_pos]
        · simp [Ne.symm h2]
        · simp [Ne.symm h1]
      rw [e]
      match v, hv with
      | 0, _ => exact ⟨97, rfl, by decide⟩
      | 1, _ => exact ⟨98, rfl, by decide⟩
theorem three {w u : OwM.Tx} {v : Nat} (hv : v < 3) : ∃ z, (z = w ∨ z = u) ∧ [sV w, sV w, sV u][v]? = some (sV z) := by
  match v, hv with
  | 0, _ => exact ⟨w, .inl rfl, rfl⟩
  | 1, _ => exact ⟨w, .inl rfl, rfl⟩
  | 2, _ => exact ⟨u, .inr rfl, rfl⟩
theorem okLawRow {P : Program} {w : World} {K : PySem.W.Frag} {mg : PySem.Str → Option Value} {base : Heap} {k : Nat} (T : Tx0 K mg) : FnOk P w K mg base CX0 (k + 3) T.dLawRow.f T.dLawRow.fd ["_law_bag_here", "_law_most"] spLawRow := by
  refine FunD.ok T.dLawRow.F scLawRow (fun vs H Q E h => ?len) (fun cdv A outer s H vs Q E hr h => ?run)
  case len =>
    obtain ⟨_, _, _, rfl, _⟩ := h
    rfl
  case run =>
    obtain ⟨b, bc, m, rfl, h⟩ := h
    refine ⟨_, PSs.nox (pss_cons (ps_set (i := 2) scLawRow.nd rfl (.inr rfl) (pe_call (okLawAnyWord T) hr (by rfl) T.dLawAnyWord.g T.dLawAnyWord.F.kp T.dLawAnyWord.b .nil pass0 (pa_cons (pv 0) (pa_cons (pv 1) pa_nil))))
      (pss_cons (ps_if (pt_cmpR op_lt (pe_callB call_len_str (by rfl) T.m_len (by decide +kernel) (pa_cons (pv 2) pa_nil)) pe_int (nomark _))
        (pss_one (ps_set (i := 2) scLawRow.nd rfl (.inr rfl) (pe_op op_add_str (pv 2) (pv 2))))
        pss_nil)
      (pss_cons (ps_par (i := 3) (j := 4) (by rfl) scLawRow.nd rfl rfl (by decide) rfl rfl (pa_cons (pe_call (okLawTake T) hr (by rfl) T.dLawTake.g T.dLawTake.F.kp T.dLawTake.b .nil pass0 (pa_cons (pv 0) (pa_cons pe_int pa_nil))) (pa_cons (pe_call (okLawTake T) hr (by rfl) T.dLawTake.g T.dLawTake.F.kp T.dLawTake.b .nil pass0 (pa_cons (pv 0) (pa_cons pe_int pa_nil))) pa_nil)) (by rfl))
      (pss_cons (ps_if (pt_cmpR op_eq (pv 3) pe_int (nomark _))
        (pss_one (ps_ret (pe_op op_add_str (pe_slice sl_str (pv 2) po_none (po_some (pe_un un_neg pe_int))) (pe_ix ix_list (pe_lc (own := [("_law_letter_here", 5)]) (by rfl) scLawRow.nd (pi_str pe_str) (blkOk_by (own := [("_law_letter_here", 5)]) (N := nLawRow) (sc := defScope sLawRow) (by decide +kernel)) (fun _ _ _ _ _ => pg_name (i := 5) scLawRow.nd rfl (.inl rfl)) (fun _ _ _ _ _ => pts_one (pt_cmpR op_ne (pv 5) (pe_ix ix_str (pv 2) pe_int (fun _ _ => rfl)) (nomark _))) (fun _ _ _ _ _ => (pv 5))) (pv 4) (fun _ _ => rfl)))))
        pss_nil)
      (pss_one (ps_ret (pe_ix ix_list (pe_lst (pa_cons (pv 2) (pa_cons (pv 2) (pa_cons (pe_op op_add_str (pe_slice sl_str (pv 2) po_none (po_some (pe_un un_neg pe_int))) (pe_ix ix_str (pv 2) pe_int (fun _ _ => rfl))) pa_nil)))) (pv 3) (fun _ _ => rfl)))))))), ?_⟩
    obtain ⟨h1, hm, hB, q⟩ := h
    refine ⟨.ref b, rfl, nV m, rfl, b, bc, m, rfl, by omega, hm, hB, fun H1 w0 wo0 wl0 wm0 hB1 k1 => ?_⟩
    dsimp only
    refine seq_rest (fun σ H3 => ∃ w : OwM.Tx, Lo w ∧ 2 ≤ w.length ∧ w.length ≤ m ∧ σ = [some (.ref b), some (nV m), some (sV w), none, none, none] ∧ BagOk H3 b bc ∧ KeptBut [b] H H3) (fun σ H3 hh => ?_) (fun R hR => ?_)
    · obtain ⟨w, hwo, hw2, hwm, rfl, hB3, k3⟩ := hh
      obtain ⟨d, ed, hd⟩ := get_mem (t := w) (i := 0) (by omega)
      have hdl : (w.dropLast).length = w.length - 1 := List.length_dropLast ..
      refine ⟨.ref b, rfl, b, bc, 3, rfl, by decide, by decide, hB3, fun H4 way hw3 hB4 k4 => ⟨.ref b, rfl, b, bc, 2, rfl, by decide, by decide, hB4, fun H5 turn ht hB5 k5 => ⟨_, _, rfl, ?_⟩⟩⟩
      have k5' : KeptBut [b] H H5 := k3.trans (k4.trans k5)
      refine ⟨nV way, rfl, rfl, _, rfl, ite2 (fun e => ?_) (fun e => ?_)⟩
      · refine ⟨sV w, rfl, 1, rfl, _, rfl, tS w, rfl, len_ok (by omega), "abc", rfl, fun D nD => ?_⟩
        rw [show ("abc" : PySem.Str) = tS [97, 98, 99] by decide +kernel]
        refine its_by (fun i H' => Same H5 H' ∧ H' D = some (.lst ((([97, 98, 99].take i).filter fun c => !decide (c = d)).map fun x => sV [x]))) ⟨same_upd nD, upd_same⟩ (fun i c H' ec hh => ?_) (fun H' hh => ?_)
        · obtain ⟨s2, eD⟩ := hh
          refine ⟨rfl, sV [c], rfl, sV w, rfl, tS w, 0, d, rfl, rfl, len_ok (by omega), ix_tx ed, rfl, _, rfl, ?_⟩
          rw [one_tx, one_eq]
          have en := filter_next (p := fun c => !decide (c = d)) ec
          cases hc : (!decide (c = d)) with
          | true =>
            rw [if_pos hc] at en
            refine iteT ⟨sV [c], rfl, _, eD, ?_, same_upd2 s2 nD, ?_⟩
            · rw [List.length_map]
              have h3 := List.length_filter_le (fun c => !decide (c = d)) ([97, 98, 99].take i)
              rw [List.length_take] at h3
              have h4 : ([97, 98, 99] : List Nat).length = 3 := rfl
              have := big_line
              omega
            · rw [upd_same, en, List.map_append]
              rfl
          | false =>
            rw [hc, if_neg (by decide), List.append_nil] at en
            refine iteF ⟨s2, ?_⟩
            rw [en]
            exact eD
        · obtain ⟨s2, eD⟩ := hh
          obtain ⟨x, ex, hx⟩ := two_left d turn ht
          refine ⟨nV turn, rfl, D, _, turn, sV [x], rfl, rfl, same_at eD, atI_nat ?_, tS w.dropLast, tS [x], cutE_last w, rfl, cat_ok (l := w.dropLast) (m := [x]) (a := 100) (b := 1) (by omega) (Nat.le_refl _) (by decide), ?_⟩
          · rw [List.getElem?_map]
            show Option.map _ (([97, 98, 99].filter fun c => !decide (c = d))[turn]?) = _
            rw [ex]
            rfl
          · rw [tS_app]
            have hl : (w.dropLast ++ [x]).length = w.length := by
              rw [List.length_append, hdl]
              show w.length - 1 + 1 = _
              omega
            exact q _ _ (hwo.dropLast.app (Lo.one hx)) (by omega) (by omega) (hB5.same s2) (k5'.trans (.of s2))
      · refine ⟨sV w, rfl, sV w, rfl, sV w, rfl, 1, rfl, _, rfl, tS w, rfl, len_ok (by omega), sV w, rfl, tS w, 0, d, rfl, rfl, len_ok (by omega), ix_tx ed, tS w.dropLast, tS [d], cutE_last w, rfl, cat_ok (l := w.dropLast) (m := [d]) (a := 100) (b := 1) (by omega) (Nat.le_refl _) (by decide), (by show 3 ≤ sizeLine; decide), fun p np => ?_⟩
        rw [tS_app]
        have hl : (w.dropLast ++ [d]).length = w.length := by
          rw [List.length_append, hdl]
          show w.length - 1 + 1 = _
          omega
        obtain ⟨z, hz, ez⟩ := three (w := w) (u := w.dropLast ++ [d]) hw3
        have hzz : Lo z ∧ z.length = w.length := by
          rcases hz with rfl | rfl
          · exact ⟨hwo, rfl⟩
          · exact ⟨hwo.dropLast.app (Lo.one (hwo d hd)), hl⟩
        refine ⟨nV way, rfl, p, _, way, sV z, rfl, rfl, same_at upd_same, atI_nat ez, ?_⟩
        exact q _ z hzz.1 (by omega) (by omega) (hB5.new np) (k5'.trans (.of (same_upd np)))
    · refine ⟨sV w0, rfl, tS w0, rfl, len_ok (by omega), _, 2, rfl, rfl, _, rfl, ite2 (fun e => ?_) (fun e => ?_)⟩
      · have hw0 := of_decide_eq_true e
        rw [tS_len] at hw0
        refine ⟨sV w0, rfl, sV w0, rfl, _, _, rfl, rfl, cat_ok (l := w0) (m := w0) (a := 100) (b := 100) (by omega) (by omega) (by decide), hR _ _ ⟨w0 ++ w0, wo0.app wo0, ?_, ?_, ?_, hB1, k1⟩⟩
        · rw [List.length_append]
          omega
        · rw [List.length_append]
          omega
        · rw [tS_app]
          rfl
      · have hw0 := of_decide_eq_false (Bool.eq_false_iff.mpr e)
        rw [tS_len] at hw0
        exact hR _ _ ⟨w0, wo0, by omega, wm0, rfl, hB1, k1⟩
end Ow
set_option Elab.async false
set_option linter.all false
set_option maxRecDepth 100000
set_option maxHeartbeats 4000000
namespace Ow
open PySem PySem.Spec PyProof.Rows L2 OwR OwM
theorem okLawCloses {P : Program} {w : World} {K : PySem.W.Frag} {mg : PySem.Str → Option Value} {base : Heap} {k : Nat} (T : Tx0 K mg) : FnOk P w K mg base CX0 (k + 3) T.dLawCloses.f T.dLawCloses.fd ["_law_row_here", "_law_story_here", "_law_text_here"] (spLawCloses K) := by
  refine FunD.ok T.dLawCloses.F scLawCloses (fun vs H Q E h => ?len) (fun cdv A outer s H vs Q E hr h => ?run)
  case len =>
    obtain ⟨_, _, _, _, rfl, _⟩ := h
    rfl
  case run =>
    obtain ⟨r, t, ns, a, rfl, h⟩ := h
    refine ⟨_, PSs.nox (pss_cons (ps_set (i := 3) scLawCloses.nd rfl (.inl rfl) (pe_call (okLawLast T) hr (by rfl) T.dLawLast.g T.dLawLast.F.kp T.dLawLast.b .nil pass0 (pa_cons (pv 0) (pa_cons (pv 1) pa_nil))))
      (pss_cons (ps_if (pt_cmpR op_lt (pe_op op_add (pv 3) pe_int) (pe_callB call_len_str (by rfl) T.m_len (by decide +kernel) (pa_cons (pv 2) pa_nil)) (nomark _))
        (pss_one (ps_ret pe_bl))
        pss_nil)
      (pss_one (ps_ret (pe_cmpR op_eq (pe_call (okLawPiece T) hr (by rfl) T.dLawPiece.g T.dLawPiece.F.kp T.dLawPiece.b .nil pass0 (pa_cons (pv 0) (pa_cons (pv 1) (pa_cons (pe_op op_sub (pe_op op_add (pv 3) pe_int) (pe_callB call_len_str (by rfl) T.m_len (by decide +kernel) (pa_cons (pv 2) pa_nil))) (pa_cons (pe_op op_add (pv 3) pe_int) pa_nil))))) (pv 2) (nomark _)))))), ?_⟩
    obtain ⟨hS, hr0, hrl, htl, ⟨hi, hl, ⟨m, hm⟩⟩, q⟩ := h
    have hlen := follow_len hr0 hi
    have hml := congrArg List.length hm
    rw [List.length_append] at hml
    refine ⟨sV r, rfl, .ref a, rfl, r, ns, a, rfl, hS, hr0, by omega, by omega, ?_⟩
    refine ⟨_, rfl, _, 1, rfl, rfl, sV t, rfl, tS t, rfl, len_ok (by omega), _, _, rfl, rfl, _, rfl, ?_⟩
    rw [show decide (((lastOf (r.length - 1) ns : Nat) : Int) + 1 < ((tS t).length : Int)) = false by
      rw [tS_len]
      exact decide_eq_false (by omega)]
    refine iteF ?_
    refine ⟨sV r, rfl, .ref a, rfl, _, rfl, _, 1, rfl, rfl, sV t, rfl, tS t, rfl, len_ok (by omega), _, _, rfl, rfl, _, rfl, _, 1, rfl, rfl, r, ns, a, lastOf (r.length - 1) ns + 1 - t.length, lastOf (r.length - 1) ns + 1, ?_, hS, hr0, by omega, hi, hl, by omega, by omega, by omega, fun H' sm => ?_⟩
    · have e : ((lastOf (r.length - 1) ns : Nat) : Int) + 1 - ((t.length : Nat) : Int) = ((lastOf (r.length - 1) ns + 1 - t.length : Nat) : Int) := by omega
      rw [tS_len]
      show [sV r, V.ref a, V.int (((lastOf (r.length - 1) ns : Nat) : Int) + 1 - ((t.length : Nat) : Int)), V.int (((lastOf (r.length - 1) ns : Nat) : Int) + 1)] = _
      rw [e]
      rfl
    · have e : ((follow r ns).drop (lastOf (r.length - 1) ns + 1 - t.length)).take (lastOf (r.length - 1) ns + 1 - (lastOf (r.length - 1) ns + 1 - t.length)) = t := by
        have e1 : lastOf (r.length - 1) ns + 1 - t.length = m.length := by omega
        have e2 : lastOf (r.length - 1) ns + 1 - m.length = t.length := by omega
        rw [e1, e2, ← hm, List.drop_left, List.take_length]
      refine ⟨_, rfl, rfl, ?_⟩
      show Q (.bl (decide (sV _ = sV t))) H'
      rw [e, decide_eq_true rfl]
      exact q H' sm
end Ow
set_option Elab.async false
set_option linter.all false
set_option maxRecDepth 100000
set_option maxHeartbeats 4000000
namespace Ow
open PySem PySem.Spec PyProof.Rows L2 OwR OwM
theorem okLawCanEnd {P : Program} {w : World} {K : PySem.W.Frag} {mg : PySem.Str → Option Value} {base : Heap} {k : Nat} (T : Tx0 K mg) : FnOk P w K mg base CX0 (k + 3) T.dLawCanEnd.f T.dLawCanEnd.fd ["_law_base", "_law_text_here"] spLawCanEnd := by
  refine FunD.ok T.dLawCanEnd.F scLawCanEnd (fun vs H Q E h => ?len) (fun cdv A outer s H vs Q E hr h => ?run)
  case len =>
    obtain ⟨_, _, rfl, _⟩ := h
    rfl
  case run =>
    obtain ⟨b, t, rfl, h⟩ := h
    refine ⟨_, PSs.nox (pss_one (ps_ret (pe_callB (cr_sortT hr) (by rfl) T.m_sorted (by decide +kernel) (pa_cons (pe_lc (own := [("_law_part", 2)]) (by rfl) scLawCanEnd.nd (pi_list (pe_call (okLawCan T) hr (by rfl) T.dLawCan.g T.dLawCan.F.kp T.dLawCan.b .nil pass0 (pa_cons (pe_step (pv 0) (pe_un un_neg pe_int)) (pa_cons (pe_step (pv 1) (pe_un un_neg pe_int)) pa_nil)))) (blkOk_by (own := [("_law_part", 2)]) (N := nLawCanEnd) (sc := defScope sLawCanEnd) (by decide +kernel)) (fun _ _ _ _ _ => pg_name (i := 2) scLawCanEnd.nd rfl (.inl rfl)) (fun _ _ _ _ _ => pts_nil) (fun _ _ _ _ _ => (pe_step (pv 2) (pe_un un_neg pe_int)))) pa_nil)))), ?_⟩
    obtain ⟨htl, hbl, q⟩ := h
    refine ⟨sV b, rfl, 1, rfl, b, -1, rfl, rfl, len_ok hbl, .inr rfl, ?_⟩
    refine ⟨sV t, rfl, 1, rfl, t, -1, rfl, rfl, len_ok (by omega), .inr rfl, ?_⟩
    refine ⟨b.reverse, t.reverse, rfl, by rw [List.length_reverse]; exact htl, by rw [List.length_reverse]; exact hbl, fun H1 p ks s1 np ep hk => ?_⟩
    refine ⟨p, rfl, ⟨_, same_at ep⟩, fun D nD => ?_⟩
    have hks : ks.length ≤ 1600 := nodup_len (asc_nodup hk.1) (fun k hk' => ⟨((hk.2 k).mp hk').1, ((hk.2 k).mp hk').2.1⟩) (by rw [List.length_reverse]; exact htl)
    refine lc_list (xs := ks.map sV) (fun i H2 => Same H1 H2 ∧ H2 D = some (.lst (((ks.take i).map List.reverse).map sV))) ⟨same_upd nD, upd_same⟩ (fun i H2 _ hh => hh.1.seq (same_at ep)) (fun i x H2 hx hh => ?_) (fun H2 hh => ?_)
    · obtain ⟨s2, eD⟩ := hh
      obtain ⟨k, e, rfl, hlt⟩ := take_sV hx
      have hkk := (hk.2 k).mp (List.mem_of_getElem? e)
      have hkl := infix_le hkk.2.1
      rw [List.length_reverse] at hkl
      refine ⟨rfl, sV k, rfl, 1, rfl, k, -1, rfl, rfl, len_ok (by omega), .inr rfl, _, eD, ?_, same_upd2 s2 nD, ?_⟩
      · rw [List.length_map, List.length_map, List.length_take]
        have := big_line
        omega
      · rw [upd_same, take_next e, List.map_append, List.map_append]
        rfl
    · obtain ⟨s2, eD⟩ := hh
      rw [List.length_map, List.take_length] at eD
      refine ⟨D, ks.map List.reverse, rfl, same_at eD, fun p2 np2 => ?_⟩
      have np2H : H p2 = none := (s1.trans s2).free np2
      have nd : (ks.map List.reverse).Nodup := by
        refine List.Pairwise.map _ (fun a b hab z => hab ?_) (asc_nodup hk.1)
        rw [← List.reverse_reverse a, z, List.reverse_reverse]
      refine q _ p2 _ ((s1.trans s2).trans (same_upd np2)) np2H upd_same ⟨asc_sort nd, fun k => ?_⟩
      rw [mem_sort, List.mem_map]
      constructor
      · rintro ⟨x, hx, rfl⟩
        obtain ⟨a1, a2, a3⟩ := (hk.2 x).mp hx
        refine ⟨fun z => a1 (List.reverse_eq_nil_iff.mp z), ?_, by rw [List.reverse_reverse]; exact a3⟩
        rw [← infix_rev, List.reverse_reverse]
        exact a2
      · rintro ⟨a1, a2, a3⟩
        refine ⟨k.reverse, (hk.2 _).mpr ⟨fun z => a1 (List.reverse_eq_nil_iff.mp z), infix_rev.mpr a2, a3⟩, List.reverse_reverse k⟩
end Ow
set_option Elab.async false
set_option linter.all false
set_option maxRecDepth 100000
set_option maxHeartbeats 4000000
namespace Ow
open PySem PySem.Spec PyProof.Rows L2 OwR OwM
theorem lo_follow {ps : List Nat} : ∀ {r : OwM.Tx}, Lo r → Lo (follow r ps) := by
  induction ps with
  | nil => exact fun h => h
  | cons p ps ih =>
    intro r h
    refine ih (r := OwM.call r p) ?_
    unfold OwM.call
    exact (h.take p).app (h.app (h.drop (p + 1)))
theorem starts4 {a b c d L v : Nat} (ha : a ≤ L) (hb : b ≤ L) (hc : c ≤ L) (hd : d ≤ L) (hv : v < 4) : ∃ z, z ≤ L ∧ [nV a, nV b, nV c, nV d][v]? = some (nV z) := by
  match v, hv with
  | 0, _ => exact ⟨a, ha, rfl⟩
  | 1, _ => exact ⟨b, hb, rfl⟩
  | 2, _ => exact ⟨c, hc, rfl⟩
  | 3, _ => exact ⟨d, hd, rfl⟩
theorem min_nV (i j : Nat) : V.int (if (j : Int) < (i : Int) then (j : Int) else (i : Int)) = nV (min i j) := by
  by_cases h : j < i
  · rw [if_pos (by omega)]
    exact congrArg V.int (by omega)
  · rw [if_neg (by omega)]
    exact congrArg V.int (by omega)
theorem okLawText {P : Program} {w : World} {K : PySem.W.Frag} {mg : PySem.Str → Option Value} {base : Heap} {k : Nat} (T : Tx0 K mg) : FnOk P w K mg base CX0 (k + 3) T.dLawText.f T.dLawText.fd ["_law_bag_here", "_law_row_here", "_law_most"] spLawText := by
  refine FunD.ok T.dLawText.F scLawText (fun vs H Q E h => ?len) (fun cdv A outer s H vs Q E hr h => ?run)
  case len =>
    obtain ⟨_, _, _, _, rfl, _⟩ := h
    rfl
  case run =>
    obtain ⟨b, bc, r, m, rfl, h⟩ := h
    refine ⟨_, PSs.nox (pss_cons (ps_par (i := 3) (j := 4) (by rfl) scLawText.nd rfl rfl (by decide) rfl rfl (pa_cons (pe_call (okLawTake T) hr (by rfl) T.dLawTake.g T.dLawTake.F.kp T.dLawTake.b .nil pass0 (pa_cons (pv 0) (pa_cons pe_int pa_nil))) (pa_cons (pe_op op_add pe_int (pe_call (okLawTake T) hr (by rfl) T.dLawTake.g T.dLawTake.F.kp T.dLawTake.b .nil pass0 (pa_cons (pv 0) (pa_cons (pv 2) pa_nil)))) pa_nil)) (by rfl))
      (pss_cons (ps_if (pt_cmpR op_gt (pv 3) pe_int (nomark _))
        (pss_cons (ps_set (i := 5) scLawText.nd rfl (.inr rfl) (pe_op op_add_str (pv 1) (pe_op op_mul_str (pe_ix ix_str pe_str (pe_call (okLawTake T) hr (by rfl) T.dLawTake.g T.dLawTake.F.kp T.dLawTake.b .nil pass0 (pa_cons (pv 0) (pa_cons pe_int pa_nil))) (fun _ _ => rfl)) (pe_op op_sub (pv 3) pe_int))))
        (pss_one (ps_ret (pe_join pe_str (pe_lc (own := [("_law_k", 10)]) (by rfl) scLawText.nd (pi_range1 (by rfl) T.m_range (pa_cons (pv 4) pa_nil)) (blkOk_by (own := [("_law_k", 10)]) (N := nLawText) (sc := defScope sLawText) (by decide +kernel)) (fun _ _ _ _ _ => pg_name (i := 10) scLawText.nd rfl (.inl rfl)) (fun _ _ _ _ _ => pts_nil) (fun _ _ _ _ _ => (pe_ix ix_str (pv 5) (pe_call (okLawTake T) hr (by rfl) T.dLawTake.g T.dLawTake.F.kp T.dLawTake.b .nil pass0 (pa_cons (pv 0) (pa_cons (pe_callB call_len_str (by rfl) T.m_len (by decide +kernel) (pa_cons (pv 5) pa_nil)) pa_nil))) (fun _ _ => rfl))))))))
        pss_nil)
      (pss_cons (ps_set (i := 6) scLawText.nd rfl (.inl rfl) (pe_call (okLawMade T) hr (by rfl) T.dLawMade.g T.dLawMade.F.kp T.dLawMade.b .nil pass0 (pa_cons (pv 1) (pa_cons (pe_call (okLawStory T) hr (by rfl) T.dLawStory.g T.dLawStory.F.kp T.dLawStory.b .nil pass0 (pa_cons (pv 0) (pa_cons (pe_op op_sub (pe_callB call_len_str (by rfl) T.m_len (by decide +kernel) (pa_cons (pv 1) pa_nil)) pe_int) (pa_cons (pe_call (okLawTake T) hr (by rfl) T.dLawTake.g T.dLawTake.F.kp T.dLawTake.b .nil pass0 (pa_cons (pv 0) (pa_cons (pe_op op_add (pe_ix ix_list (pe_lst (pa_cons pe_int (pa_cons pe_int pa_nil))) (pe_callTy call_int1 (by rfl) T.m_int (by decide +kernel) (pa_cons (pe_cmpR op_gt (pe_callB call_len_str (by rfl) T.m_len (by decide +kernel) (pa_cons (pv 1) pa_nil)) pe_int (nomark _)) pa_nil)) (fun _ _ => rfl)) pe_int) pa_nil))) pa_nil)))) pa_nil))))
      (pss_cons (ps_set (i := 4) scLawText.nd rfl (.inl rfl) (pe_callB (call_min2 rfl) (by rfl) T.m_min (by decide +kernel) (pa_cons (pv 4) (pa_cons (pe_callB call_len_str (by rfl) T.m_len (by decide +kernel) (pa_cons (pv 6) pa_nil)) pa_nil))))
      (pss_cons (ps_set (i := 7) scLawText.nd rfl (.inl rfl) (pe_ix ix_list (pe_lst (pa_cons pe_int (pa_cons (pe_op op_sub (pe_callB call_len_str (by rfl) T.m_len (by decide +kernel) (pa_cons (pv 6) pa_nil)) (pv 4)) (pa_cons (pe_call (okLawTake T) hr (by rfl) T.dLawTake.g T.dLawTake.F.kp T.dLawTake.b .nil pass0 (pa_cons (pv 0) (pa_cons (pe_op op_sub (pe_op op_add (pe_callB call_len_str (by rfl) T.m_len (by decide +kernel) (pa_cons (pv 6) pa_nil)) pe_int) (pv 4)) pa_nil))) (pa_cons (pe_call (okLawTake T) hr (by rfl) T.dLawTake.g T.dLawTake.F.kp T.dLawTake.b .nil pass0 (pa_cons (pv 0) (pa_cons (pe_op op_sub (pe_op op_add (pe_callB call_len_str (by rfl) T.m_len (by decide +kernel) (pa_cons (pv 6) pa_nil)) pe_int) (pv 4)) pa_nil))) pa_nil))))) (pv 3) (fun _ _ => rfl)))
      (pss_cons (ps_set (i := 8) scLawText.nd rfl (.inl rfl) (pe_slice sl_str (pv 6) (po_some (pv 7)) (po_some (pe_op op_add (pv 7) (pv 4)))))
      (pss_cons (ps_if (pt_cmpR op_eq (pv 3) pe_int (nomark _))
        (pss_cons (ps_set (i := 9) scLawText.nd rfl (.inl rfl) (pe_call (okLawTake T) hr (by rfl) T.dLawTake.g T.dLawTake.F.kp T.dLawTake.b .nil pass0 (pa_cons (pv 0) (pa_cons (pv 4) pa_nil))))
        (pss_one (ps_set (i := 8) scLawText.nd rfl (.inl rfl) (pe_op op_add_str (pe_op op_add_str (pe_slice sl_str (pv 8) po_none (po_some (pv 9))) (pe_ix ix_str (pv 1) (pe_call (okLawTake T) hr (by rfl) T.dLawTake.g T.dLawTake.F.kp T.dLawTake.b .nil pass0 (pa_cons (pv 0) (pa_cons (pe_callB call_len_str (by rfl) T.m_len (by decide +kernel) (pa_cons (pv 1) pa_nil)) pa_nil))) (fun _ _ => rfl))) (pe_slice sl_str (pv 8) (po_some (pe_op op_add (pv 9) pe_int)) po_none)))))
        pss_nil)
      (pss_one (ps_ret (pv 8)))))))))), ?_⟩
    obtain ⟨h1, hm, h2, hrl, hlo, hB, q⟩ := h
    have hr0 : r ≠ [] := List.ne_nil_of_length_pos (by omega)
    refine ⟨.ref b, rfl, b, bc, 6, rfl, by decide, by decide, hB, fun H1 way hw hB1 k1 => ⟨.ref b, rfl, nV m, rfl, b, bc, m, rfl, h1, by omega, hB1, fun H2 v2 hv2 hB2 k2 => ⟨1, v2, rfl, rfl, _, _, rfl, ?_⟩⟩⟩
    have kk2 := k1.trans k2
    dsimp only
    rw [show V.int (1 + (v2 : Int)) = nV (1 + v2) from rfl]
    have hs1 : 1 ≤ 1 + v2 := by omega
    have hsm : 1 + v2 ≤ m := by omega
    generalize 1 + v2 = size at hs1 hsm
    refine ⟨nV way, rfl, way, 3, rfl, rfl, _, rfl, ite2 (fun e => ?_) (fun e => ?_)⟩
    · have hw3 := of_decide_eq_true e
      refine ⟨sV r, rfl, .ref b, rfl, b, bc, 26, rfl, by decide, by decide, hB2, fun H3 v3 hv3 hB3 k3 => ?_⟩
      obtain ⟨c, ec, hc⟩ := get_mem (t := alpha) (i := v3) (by rw [alpha_len]; exact hv3)
      have hrep : ((List.replicate (way - 4) [c]).flatten).length = way - 4 := by
        rw [rep_len]
        show (way - 4) * 1 = _
        omega
      refine ⟨"abcdefghijklmnopqrstuvwxyz", v3, c, rfl, rfl, (by decide +kernel), (by rw [alpha_eq]; exact ix_tx ec), nV way, rfl, way, 4, rfl, rfl, [c], way - 4, rfl, congrArg V.int (int_sub (i := way) (j := 4) (by omega)), (by show 1 ≤ 100000; decide), by omega, (by show 1 * (way - 4) ≤ sizeLine; have := big_line; omega), tS r, tS _, rfl, rfl, cat_ok (l := r) (a := 100) (b := 10) (by omega) (by omega) (by decide), ?_⟩
      rw [tS_app]
      have hlo2 : Lo (r ++ (List.replicate (way - 4) [c]).flatten) := hlo.app ((Lo.one (alpha_lo c hc)).rep _)
      have hll : (r ++ (List.replicate (way - 4) [c]).flatten).length ≤ 200 ∧ 2 ≤ (r ++ (List.replicate (way - 4) [c]).flatten).length := by
        rw [List.length_append]
        omega
      generalize r ++ (List.replicate (way - 4) [c]).flatten = ltr at hlo2 hll
      refine ⟨⟨_, rfl⟩, nV size, rfl, size, rfl, by omega, by omega, fun D nD => ?_⟩
      rw [Int.toNat_natCast]
      have hf := hB3.free nD
      refine lc_range (fun n H' => ∃ w : OwM.Tx, w.length = n ∧ Lo w ∧ BagOk H' b bc ∧ KeptBut [b] H3 H' ∧ H' D = some (.lst (w.map fun x => sV [x]))) ⟨[], rfl, fun c hc => (by cases hc), hB3.new nD, kept_new (.refl _ _) nD, upd_same⟩ (fun n H' hn hh => ?_) (fun H' hh => ?_)
      · obtain ⟨w, hwl, hwo, hB8, k8, eD⟩ := hh
        refine ⟨rfl, sV ltr, rfl, .ref b, rfl, sV ltr, rfl, tS ltr, rfl, len_ok (by omega), b, bc, (tS ltr).length, rfl, by rw [tS_len]; omega, by rw [tS_len]; omega, hB8, fun H9 v hv hB9 k9 => ?_⟩
        rw [tS_len] at hv
        obtain ⟨c, ec, hc⟩ := get_mem (t := ltr) (i := v) hv
        have eD9 := k9.at hf.1.symm eD
        refine ⟨tS ltr, v, c, rfl, rfl, len_ok (by omega), ix_tx ec, _, eD9, ?_, w ++ [c], ?_, hwo.app (Lo.one (hlo2 c hc)), hB9.put hf, kept_new (k8.trans k9) nD, ?_⟩
        · rw [List.length_map, hwl]
          have := big_line
          omega
        · rw [List.length_append, hwl]
          rfl
        · rw [upd_same, List.map_append]
          rfl
      · obtain ⟨w, hwl, hwo, hB8, k8, eD⟩ := hh
        refine ⟨tS [], D, w.map (fun x => tS [x]), rfl, rfl, .inl (.inl (.inl ?_)), ?_, ?_⟩
        · rw [List.map_map]
          exact eD
        · rw [letters_sum]
          omega
        · rw [join_letters]
          exact q H' w hwo (by omega) (by omega) hB8 (kk2.trans (k3.trans k8))
    · have hw3 := of_decide_eq_false (Bool.eq_false_iff.mpr e)
      have el1 : V.int (((tS r).length : Int) - 1) = nV (r.length - 1) := by
        rw [tS_len]
        exact congrArg V.int (int_sub (show 1 ≤ r.length by omega))
      refine ⟨sV r, rfl, .ref b, rfl, sV r, rfl, tS r, rfl, len_ok (by omega), _, 1, rfl, rfl, .ref b, rfl, (by show 2 ≤ sizeLine; decide), fun s ns => ?_⟩
      obtain ⟨nc, hnc, enc⟩ := two_ix (x := 3) (y := 2) (decide ((12 : Int) < ((tS r).length : Int)))
      refine ⟨sV r, rfl, tS r, rfl, len_ok (by omega), _, 12, rfl, rfl, .inr ⟨_, rfl, s, _, _, _, rfl, rfl, same_at upd_same, enc, nc, 1, rfl, rfl, b, bc, nc + 1, rfl, by omega, by omega, hB2.new ns, fun H3 v3 hv3 hB3 k3 => ?_⟩⟩
      refine ⟨b, bc, r.length - 1, v3, ?_, hB3, by omega, by omega, fun H4 a ps hB4 k4 na ea hps hpl => ?_⟩
      · show [V.ref b, V.int (((tS r).length : Int) - 1), nV v3] = _
        rw [el1]
      have hlast : lastOf (r.length - 1) ps ≤ 800 := by
        unfold lastOf
        have h3 : (r.length - 1) * 2 ^ ps.length ≤ 99 * 2 ^ 3 := Nat.mul_le_mul (by omega) (Nat.pow_le_pow_right (by decide) (by omega))
        omega
      refine ⟨r, ps, a, rfl, same_at ea, hr0, hps, by omega, ?_⟩
      have kk4 : KeptBut [b] H H4 := kk2.trans ((KeptBut.of (same_upd ns)).trans (k3.trans k4))
      have hll := follow_len hr0 hps
      have hlo2 : Lo (follow r ps) := lo_follow hlo
      have hge := lastOf_ge (r.length - 1) ps
      have hlb : 2 ≤ (follow r ps).length ∧ (follow r ps).length ≤ 900 := by omega
      generalize follow r ps = later at hll hlo2 hlb
      dsimp only
      refine ⟨nV size, rfl, sV later, rfl, tS later, rfl, len_ok (by omega), _, _, rfl, ?_⟩
      rw [tS_len, min_nV]
      have hz : 1 ≤ min size later.length ∧ min size later.length ≤ size ∧ min size later.length ≤ later.length := by omega
      generalize min size later.length = sz at hz
      have em : [V.ref b, V.int (((tS later).length : Int) + 1 - (sz : Int))] = [V.ref b, nV (later.length + 1 - sz)] := by
        rw [tS_len]
        exact congrArg (fun z => [V.ref b, z]) (congrArg V.int (by omega))
      refine ⟨sV later, rfl, tS later, rfl, len_ok (by omega), nV sz, rfl, _, _, rfl, rfl, .ref b, rfl, sV later, rfl, tS later, rfl, len_ok (by omega), _, 1, rfl, rfl, nV sz, rfl, _, _, rfl, rfl, b, bc, later.length + 1 - sz, em, by omega, by omega, hB4, fun H5 v5 hv5 hB5 k5 => ?_⟩
      refine ⟨.ref b, rfl, sV later, rfl, tS later, rfl, len_ok (by omega), _, 1, rfl, rfl, nV sz, rfl, _, _, rfl, rfl, b, bc, later.length + 1 - sz, em, by omega, by omega, hB5, fun H6 v6 hv6 hB6 k6 => ?_⟩
      obtain ⟨st, hst, est⟩ := starts4 (a := 0) (b := later.length - sz) (c := v5) (d := v6) (L := later.length - sz) (v := way) (by omega) (by omega) (by omega) (by omega) (by omega)
      refine ⟨(by show 4 ≤ sizeLine; decide), fun p np => ?_⟩
      dsimp only
      rw [show V.int (((tS later).length : Int) - (sz : Int)) = nV (later.length - sz) by rw [tS_len]; exact congrArg V.int (int_sub hz.2.2)]
      have hB7 := hB6.new np (o := .lst [V.int 0, nV (later.length - sz), nV v5, nV v6])
      have k7 : KeptBut [b] H (upd H6 p (.lst [V.int 0, nV (later.length - sz), nV v5, nV v6])) := kk4.trans (k5.trans (k6.trans (.of (same_upd np))))
      refine ⟨nV way, rfl, p, _, way, nV st, rfl, rfl, same_at upd_same, atI_nat est, ?_⟩
      generalize upd H6 p (.lst [V.int 0, nV (later.length - sz), nV v5, nV v6]) = H7 at hB7 k7
      refine ⟨sV later, rfl, nV st, rfl, st, rfl, nV st, rfl, nV sz, rfl, _, _, rfl, rfl, _, rfl, tS later, rfl, len_ok (by omega), ?_⟩
      rw [show (st : Int) + (sz : Int) = ((st + sz : Nat) : Int) from rfl, cutE_mid, Nat.add_sub_cancel_left]
      have htl : ((later.drop st).take sz).length = sz := by
        rw [List.length_take, List.length_drop]
        omega
      have hto : Lo ((later.drop st).take sz) := (hlo2.drop st).take sz
      generalize (later.drop st).take sz = t at htl hto
      refine ⟨nV way, rfl, rfl, _, rfl, ite2 (fun e => ?_) (fun e => ?_)⟩
      · refine ⟨.ref b, rfl, nV sz, rfl, b, bc, sz, rfl, hz.1, by omega, hB7, fun H8 v8 hv8 hB8 k8 => ?_⟩
        refine ⟨sV t, rfl, nV v8, rfl, v8, rfl, tS t, rfl, len_ok (by omega), sV r, rfl, .ref b, rfl, sV r, rfl, tS r, rfl, len_ok (by omega), b, bc, (tS r).length, rfl, by rw [tS_len]; omega, by rw [tS_len]; omega, hB8, fun H9 v9 hv9 hB9 k9 => ?_⟩
        rw [tS_len] at hv9
        obtain ⟨c, ec, hc⟩ := get_mem hv9
        have hcut1 : (t.take v8).length = v8 := by
          rw [List.length_take]
          omega
        have hcut2 : (t.drop (v8 + 1)).length = sz - (v8 + 1) := by
          rw [List.length_drop, htl]
        refine ⟨tS r, v9, c, rfl, rfl, len_ok (by omega), ix_tx ec, tS (t.take v8), tS [c], cutE_to t v8, rfl, cat_ok (l := t.take v8) (m := [c]) (a := 100) (b := 1) (by omega) (Nat.le_refl _) (by decide), sV t, rfl, nV v8, rfl, v8, 1, rfl, rfl, _, rfl, tS t, rfl, len_ok (by omega), tS (t.take v8 ++ [c]), tS (t.drop (v8 + 1)), congrArg V.str (tS_app _ _), cutE_from t (v8 + 1), cat_ok (l := t.take v8 ++ [c]) (m := t.drop (v8 + 1)) (a := 100) (b := 100) (by rw [List.length_append, hcut1]; show v8 + 1 ≤ 100; omega) (by omega) (by decide), ?_⟩
        rw [tS_app]
        have hl3 : (t.take v8 ++ [c] ++ t.drop (v8 + 1)).length = sz := by
          rw [List.length_append, List.length_append, hcut1, hcut2]
          show v8 + 1 + (sz - (v8 + 1)) = sz
          omega
        refine ⟨_, rfl, q _ _ (((hto.take v8).app (Lo.one (hlo c hc))).app (hto.drop _)) (by omega) (by omega) hB9 (k7.trans (k8.trans k9))⟩
      · exact ⟨_, rfl, q _ _ hto (by omega) (by omega) hB7 k7⟩
end Ow
set_option Elab.async false
set_option linter.all false
set_option maxRecDepth 100000
set_option maxHeartbeats 4000000
namespace Ow
open PySem PySem.Spec PyProof.Rows L2 OwR OwM
theorem okAreLines {P : Program} {w : World} {K : PySem.W.Frag} {mg : PySem.Str → Option Value} {base : Heap} {k : Nat} (T : Tx0 K mg) : FnOk P w K mg base CX0 (k + 4) T.dAreLines.f T.dAreLines.fd ["row", "text", "thing", "many"] spAreLines := by
  refine FunD.ok T.dAreLines.F scAreLines (fun vs H Q E h => ?len) (fun cdv A outer s H vs Q E hr h => ?run)
  case len =>
    obtain ⟨_, _, _, _, _, rfl, _⟩ := h
    rfl
  case run =>
    obtain ⟨r, t, a, xs, ls, rfl, h⟩ := h
    refine ⟨_, PSs.nox (pss_cons (ps_if (pt_not (pt_val (pe_callB call_isi (by rfl) T.m_isinstance (by decide +kernel) (pa_cons (pv 2) (pa_cons (pe_bltn (v := .ty "list") (by rfl) T.m_list (by decide +kernel) rfl) pa_nil)))))
        (pss_one (ps_ret pe_bl))
        pss_nil)
      (pss_cons (ps_set (i := 4) scAreLines.nd rfl (.inl rfl) (pe_call (okBaseStories T) hr (by rfl) T.dBaseStories.g T.dBaseStories.F.kp T.dBaseStories.b .nil pass0 (pa_cons (pv 0) (pa_cons (pe_callB call_len_str (by rfl) T.m_len (by decide +kernel) (pa_cons (pv 1) pa_nil)) pa_nil))))
      (pss_cons (ps_if (pt_cmpR op_ne (pe_callB call_len (by rfl) T.m_len (by decide +kernel) (pa_cons (pv 2) pa_nil)) (pe_callB call_len_seq (by rfl) T.m_len (by decide +kernel) (pa_cons (pv 4) pa_nil)) (nomark _))
        (pss_one (ps_ret pe_bl))
        pss_nil)
      (pss_cons (ps_for PassesOwn.never rfl (pi_zip (by rfl) T.m_zip (pa_cons (pv 2) (pa_cons (pv 4) pa_nil))) (pg_tup (by rfl) (pgs_cons (pg_name (i := 5) scAreLines.nd rfl (.inl rfl)) (pgs_cons (pg_name (i := 6) scAreLines.nd rfl (.inl rfl)) pgs_nil)))
        (pss_cons (ps_if (PW.pt (pw_or (pt_not (pt_val (pe_callB call_isi (by rfl) T.m_isinstance (by decide +kernel) (pa_cons (pv 5) (pa_cons (pe_bltn (v := .ty "tuple") (by rfl) T.m_tuple (by decide +kernel) rfl) pa_nil))))) (pw_or1 (pt_cmpR op_ne (pe_callB call_len (by rfl) T.m_len (by decide +kernel) (pa_cons (pv 5) pa_nil)) (pv 3) (nomark _)))))
          (pss_one (ps_ret pe_bl))
          pss_nil)
        (pss_one (ps_if (PW.pt (pw_or (pt_not (pt_val (pe_call (okIsStory T) hr (by rfl) T.dIsStory.g T.dIsStory.F.kp T.dIsStory.b .nil pass0 (pa_cons (pe_op op_sub (pe_callB call_len_str (by rfl) T.m_len (by decide +kernel) (pa_cons (pv 0) pa_nil)) pe_int) (pa_cons (pe_ix ix_tup (pv 5) pe_int (fun _ _ => rfl)) pa_nil))))) (pw_or1 (pt_cmpR (op_neD hr.units) (pe_ix ix_tup (pv 5) pe_int (fun _ _ => rfl)) (pv 6) (nomark _)))))
          (pss_one (ps_ret pe_bl))
          pss_nil))))
      (pss_one (ps_ret pe_bl)))))), ?_⟩
    obtain ⟨h2, hrl, htl, ea, hL, hst, q⟩ := h
    refine ⟨.ref a, rfl, .ref a, .ty "list", .type "list", .type "list", true, rfl, .ty _, tyx_seq (same_at ea), kit_ty (by decide +kernel), true, rfl, iteF ?_⟩
    refine ⟨sV r, rfl, sV t, rfl, tS t, rfl, len_ok (by omega), r, t.length, by rw [tS_len]; rfl, h2, hrl, htl, fun H1 p bs s1 np ep hS => ?_⟩
    have ea1 := s1 _ _ ea
    have hl1 := paired_len hL
    have hl2 := congrArg List.length hst
    rw [List.length_map] at hl2
    refine ⟨.ref a, rfl, .ref a, xs.length, rfl, .inl ⟨_, same_at ea1, rfl⟩, .ref p, rfl, p, _, rfl, .inl (same_at ep), rfl, _, rfl, ?_⟩
    rw [List.length_map, hS.1, ← hl2, ← hl1, decide_eq_true rfl]
    refine iteF ?_
    refine ⟨.ref a, rfl, .ref p, rfl, a, p, xs, _, rfl, same_at ea1, same_at ep, ?_⟩
    refine RZ.for_zipL (xs := xs) (ys := bs.map V.ref) (by rw [List.length_map, hS.1, ← hl2, ← hl1]) (fun i σ H' => (∃ y5 y6, σ = [some (sV r), some (sV t), some (.ref a), some (.int 2), some (.ref p), y5, y6]) ∧ Same H1 H') ⟨⟨none, none, rfl⟩, .refl _⟩ (fun i σ H' hh => ⟨hh.2.seq (same_at ea1), hh.2.seq (same_at ep)⟩) (fun i x y tu σ H' hx hy hh ntu => ?_) (fun σ H' hh => ?_)
    · obtain ⟨⟨y5, y6, rfl⟩, s2⟩ := hh
      obtain ⟨l, el, t0, s, pp, rfl, e1, e2, e3⟩ := paired_at hL hx
      obtain ⟨b, eb, rfl, _⟩ := take_ref hy
      obtain ⟨st, es, _, hb⟩ := hS.at eb
      have s3 : Same H1 (upd H' tu (.tup [.ref t0, .ref b])) := same_upd2 s2 (s2.free ntu)
      have el1 : l.1 = st := by
        have := congrArg (·[i]?) hst
        simp only [List.getElem?_map, el, es, Option.map_some, Option.some.injEq] at this
        exact this
      subst el1
      have hi := (mem_stories.mp (List.mem_of_getElem? es))
      obtain ⟨f1, f2, f3, f4⟩ := story_facts (List.mem_of_getElem? es) (by omega)
      have e1' := s3 _ _ (s1 _ _ e1)
      have e2' := s3 _ _ (s1 _ _ e2)
      have hb' := s3 _ _ hb
      refine ⟨tu, _, rfl, tup_at upd_same, rfl, _, [_], rfl, _, [], rfl, rfl, ?_⟩
      refine ⟨.ref t0, rfl, .ref t0, .ty "tuple", .type "tuple", .type "tuple", true, rfl, .ty _, .base (.tup e1'), kit_ty (by decide +kernel), true, rfl, iteF ?_⟩
      refine ⟨.ref t0, rfl, .ref t0, 2, rfl, .inr ⟨_, tup_at e1', rfl⟩, .int 2, rfl, rfl, _, rfl, iteF ?_⟩
      refine ⟨sV r, rfl, tS r, rfl, len_ok (by omega), _, 1, rfl, rfl, .ref t0, rfl, t0, _, 0, _, rfl, rfl, tup_at e1', atI_nat (j := 0) rfl, r.length - 1, l.1, s, ?_, same_at e2', f1, by omega, true, rfl, iteF ?_⟩
      · rw [tS_len]
        show [V.int ((r.length : Int) - ((1 : Nat) : Int)), V.ref s] = _
        rw [int_sub (by omega)]
      refine ⟨.ref t0, rfl, t0, _, 0, _, rfl, rfl, tup_at e1', atI_nat (j := 0) rfl, .ref b, rfl, _, _, dp_natL (same_at e2'), dp_natL (same_at hb'), shaped_nats _, shaped_nats _, _, rfl, ?_⟩
      rw [eqv_self _ (shaped_nats _)]
      exact iteF ⟨⟨_, _, rfl⟩, s3⟩
    · exact q H' (s1.trans hh.2)
end Ow
set_option Elab.async false
set_option linter.all false
set_option maxRecDepth 100000
set_option maxHeartbeats 4000000
namespace Ow
open PySem PySem.Spec PyProof.Rows L2 OwR OwM
theorem ten_ix {v : Nat} (hv : v < 10) : ∃ z : Nat, 2 ≤ z ∧ z ≤ 100 ∧ [V.int 100, .int 4, .int 3, .int 4, .int 5, .int 6, .int 7, .int 8, .int 9, .int 9][v]? = some (nV z) := by
  match v, hv with
  | 0, _ => exact ⟨100, by decide, by decide, rfl⟩
  | 1, _ => exact ⟨4, by decide, by decide, rfl⟩
  | 2, _ => exact ⟨3, by decide, by decide, rfl⟩
  | 3, _ => exact ⟨4, by decide, by decide, rfl⟩
  | 4, _ => exact ⟨5, by decide, by decide, rfl⟩
  | 5, _ => exact ⟨6, by decide, by decide, rfl⟩
  | 6, _ => exact ⟨7, by decide, by decide, rfl⟩
  | 7, _ => exact ⟨8, by decide, by decide, rfl⟩
  | 8, _ => exact ⟨9, by decide, by decide, rfl⟩
  | 9, _ => exact ⟨9, by decide, by decide, rfl⟩
theorem okLawWish {P : Program} {w : World} {K : PySem.W.Frag} {mg : PySem.Str → Option Value} {base : Heap} {k : Nat} (T : Tx0 K mg) : FnOk P w K mg base CX0 (k + 4) T.dLawWish.f T.dLawWish.fd ["_law_bag_here"] spLawWish := by
  refine FunD.ok T.dLawWish.F scLawWish (fun vs H Q E h => ?len) (fun cdv A outer s H vs Q E hr h => ?run)
  case len =>
    obtain ⟨_, _, rfl, _⟩ := h
    rfl
  case run =>
    obtain ⟨b, bc, rfl, h⟩ := h
    refine ⟨_, PSs.nox (pss_cons (ps_set (i := 1) scLawWish.nd rfl (.inl rfl) (pe_call (okLawTake T) hr (by rfl) T.dLawTake.g T.dLawTake.F.kp T.dLawTake.b .nil pass0 (pa_cons (pv 0) (pa_cons pe_int pa_nil))))
      (pss_cons (ps_set (i := 2) scLawWish.nd rfl (.inl rfl) (pe_call (okLawRow T) hr (by rfl) T.dLawRow.g T.dLawRow.F.kp T.dLawRow.b .nil pass0 (pa_cons (pv 0) (pa_cons (pe_ix ix_list (pe_lst (pa_cons pe_int (pa_cons pe_int (pa_cons pe_int (pa_cons pe_int (pa_cons pe_int (pa_cons pe_int (pa_cons pe_int (pa_cons pe_int (pa_cons pe_int (pa_cons pe_int pa_nil))))))))))) (pv 1) (fun _ _ => rfl)) pa_nil))))
      (pss_one (ps_ret (pe_tup (pa_cons (pv 2) (pa_cons (pe_call (okLawText T) hr (by rfl) T.dLawText.g T.dLawText.F.kp T.dLawText.b .nil pass0 (pa_cons (pv 0) (pa_cons (pv 2) (pa_cons (pe_ix ix_list (pe_lst (pa_cons pe_int (pa_cons pe_int pa_nil))) (pe_callTy call_int1 (by rfl) T.m_int (by decide +kernel) (pa_cons (pe_and (pe_cmpR op_lt (pv 1) pe_int (nomark _)) (pe_one (pe_cmpR op_gt (pe_callB call_len_str (by rfl) T.m_len (by decide +kernel) (pa_cons (pv 2) pa_nil)) pe_int (nomark _)))) pa_nil)) (fun _ _ => rfl)) pa_nil)))) pa_nil))))))), ?_⟩
    obtain ⟨hB, q⟩ := h
    refine ⟨.ref b, rfl, b, bc, 10, rfl, by decide, by decide, hB, fun H1 way hw hB1 k1 => ?_⟩
    refine ⟨.ref b, rfl, (by show 10 ≤ sizeLine; decide), fun p np => ?_⟩
    obtain ⟨z, hz1, hz2, ez⟩ := ten_ix hw
    refine ⟨nV way, rfl, p, _, way, nV z, rfl, rfl, same_at upd_same, atI_nat ez, b, bc, z, rfl, hz1, hz2, hB1.new np, fun H2 r hro hr2 hrz hB2 k2 => ?_⟩
    have hB3 := fun (s : Addr) (ns : H2 s = none) => hB2.new ns (o := .lst [.int 8, .int 12])
    have k3 : ∀ s, H2 s = none → KeptBut [b] H (upd H2 s (.lst [.int 8, .int 12])) := fun s ns => k1.trans ((KeptBut.of (same_upd np)).trans (k2.trans (.of (same_upd ns))))
    refine ⟨sV r, rfl, .ref b, rfl, sV r, rfl, (by show 2 ≤ sizeLine; decide), fun s ns => ⟨nV way, rfl, way, 2, rfl, rfl, _, rfl, ite2 (fun e => ?_) (fun e => ?_)⟩⟩
    · obtain ⟨z, hz, ez⟩ := two_ix (x := 8) (y := 12) (decide ((3 : Int) < ((tS r).length : Int)))
      refine ⟨sV r, rfl, tS r, rfl, len_ok (by omega), _, 3, rfl, rfl, .inr ⟨_, rfl, s, _, _, _, rfl, rfl, same_at upd_same, ez, b, bc, r, z, rfl, by omega, by omega, hr2, by omega, hro, hB3 s ns, fun H4 t hto ht1 htm hB4 k4 => ⟨(by show 2 ≤ sizeLine; decide), fun tu ntu => ?_⟩⟩⟩
      have k5 := (k3 s ns).trans k4
      exact q _ tu r t hro hto hr2 (by omega) ht1 (by omega) (hB4.new ntu) (k5.trans (.of (same_upd ntu))) (k5.free (fun w => (hB4.free ntu).1 (List.mem_singleton.mp w).symm) ntu) upd_same
    · obtain ⟨z, hz, ez⟩ := two_ix (x := 8) (y := 12) false
      refine .inr ⟨_, rfl, s, _, _, _, rfl, rfl, same_at upd_same, ez, b, bc, r, z, rfl, by omega, by omega, hr2, by omega, hro, hB3 s ns, fun H4 t hto ht1 htm hB4 k4 => ⟨(by show 2 ≤ sizeLine; decide), fun tu ntu => ?_⟩⟩
      have k5 := (k3 s ns).trans k4
      exact q _ tu r t hro hto hr2 (by omega) ht1 (by omega) (hB4.new ntu) (k5.trans (.of (same_upd ntu))) (k5.free (fun w => (hB4.free ntu).1 (List.mem_singleton.mp w).symm) ntu) upd_same
end Ow
set_option Elab.async false
set_option linter.all false
set_option maxRecDepth 100000
set_option maxHeartbeats 4000000
namespace Ow
open PySem PySem.Spec PyProof.Rows L2 OwR OwM
theorem okShowsNoEnd {P : Program} {w : World} {K : PySem.W.Frag} {mg : PySem.Str → Option Value} {base : Heap} {k : Nat} (T : Tx0 K mg) : FnOk P w K mg base CX0 (k + 5) T.dShowsNoEnd.f T.dShowsNoEnd.fd ["row", "text", "thing"] spShowsNoEnd := by
  refine FunD.ok T.dShowsNoEnd.F scShowsNoEnd (fun vs H Q E h => ?len) (fun cdv A outer s H vs Q E hr h => ?run)
  case len =>
    obtain ⟨_, _, _, _, _, rfl, _⟩ := h
    rfl
  case run =>
    obtain ⟨r, t, a, xs, ls, rfl, h⟩ := h
    refine ⟨_, PSs.nox (pss_cons (ps_if (pt_not (pt_val (pe_call (okAreLines T) hr (by rfl) T.dAreLines.g T.dAreLines.F.kp T.dAreLines.b .nil pass0 (pa_cons (pv 0) (pa_cons (pv 1) (pa_cons (pv 2) (pa_cons pe_int pa_nil)))))))
        (pss_one (ps_ret pe_bl))
        pss_nil)
      (pss_cons (ps_for PassesOwn.never rfl (pi_list (pv 2)) (pg_tup (by rfl) (pgs_cons (pg_name (i := 3) scShowsNoEnd.nd rfl (.inl rfl)) (pgs_cons (pg_name (i := 4) scShowsNoEnd.nd rfl (.inl rfl)) pgs_nil)))
        (pss_cons (ps_if (pt_not (pt_val (pe_call (okAreParts T) hr (by rfl) T.dAreParts.g T.dAreParts.F.kp T.dAreParts.b .nil pass0 (pa_cons (pv 1) (pa_cons (pv 4) pa_nil)))))
          (pss_one (ps_ret pe_bl))
          pss_nil)
        (pss_one (ps_if (pt_not (pt_val (pe_call (okAreClosed T) hr (by rfl) T.dAreClosed.g T.dAreClosed.F.kp T.dAreClosed.b .nil pass0 (pa_cons (pe_step (pe_call (okFinalRow T) hr (by rfl) T.dFinalRow.g T.dFinalRow.F.kp T.dFinalRow.b .nil pass0 (pa_cons (pv 0) (pa_cons (pv 3) pa_nil))) (pe_un un_neg pe_int)) (pa_cons (pe_step (pv 1) (pe_un un_neg pe_int)) (pa_cons (pe_lc (own := [("part", 5)]) (by rfl) scShowsNoEnd.nd (pi_list (pv 4)) (blkOk_by (own := [("part", 5)]) (N := nShowsNoEnd) (sc := defScope sShowsNoEnd) (by decide +kernel)) (fun _ _ _ _ _ => pg_name (i := 5) scShowsNoEnd.nd rfl (.inl rfl)) (fun _ _ _ _ _ => pts_nil) (fun _ _ _ _ _ => (pe_step (pv 5) (pe_un un_neg pe_int)))) pa_nil))))))
          (pss_one (ps_ret pe_bl))
          pss_nil))))
      (pss_one (ps_ret pe_bl)))), ?_⟩
    obtain ⟨h2, hrl, htl, ea, hL, hst, hP, q⟩ := h
    have hr0 : r ≠ [] := List.ne_nil_of_length_pos (by omega)
    refine ⟨sV r, rfl, sV t, rfl, .ref a, rfl, r, t, a, xs, ls, rfl, h2, hrl, htl, ea, hL, hst, fun H1 s1 => ⟨true, rfl, iteF ?_⟩⟩
    have hl1 := paired_len hL
    refine ⟨.ref a, rfl, a, rfl, ⟨_, s1.seq (same_at ea)⟩, ?_⟩
    refine for_list (xs := xs) (fun i σ H' => ∃ y3 y4, σ = [some (sV r), some (sV t), some (.ref a), y3, y4, none] ∧ Same H H' ∧ ∀ l ∈ ls.take i, Closed (follow r l.1).reverse t.reverse (l.2.map List.reverse)) ⟨none, none, rfl, s1, fun l z => (by rw [List.take_zero] at z; cases z)⟩ (fun i σ H' _ hh => ?_) (fun i x σ H' hx hh => ?_) (fun σ H' hh => ?_)
    · obtain ⟨_, _, _, s2, _⟩ := hh
      exact s2.seq (same_at ea)
    · obtain ⟨y3, y4, rfl, s2, hcl⟩ := hh
      obtain ⟨l, el, tu, s, p, rfl, e1, e2, e3⟩ := paired_at hL hx
      have hlm := List.mem_of_getElem? el
      have e1' := s2 _ _ e1
      have e2' := s2 _ _ e2
      have e3' := s2 _ _ e3
      have hsm : l.1 ∈ stories (r.length - 1) t.length := by
        rw [← hst]
        exact List.mem_map.mpr ⟨l, hlm, rfl⟩
      obtain ⟨f1, f2, f3, f4⟩ := story_facts hsm (by omega)
      have hfl := follow_len hr0 f1
      have hpl : l.2.length ≤ 1600 := nodup_len (asc_nodup (hP l hlm).1) (fun k hk => ⟨List.length_pos_iff.mp ((hP l hlm).2 k hk).1, ((hP l hlm).2 k hk).2.2⟩) (by omega)
      refine ⟨tu, _, rfl, tup_at e1', rfl, _, [_], rfl, _, [], rfl, rfl, ?_⟩
      refine ⟨sV t, rfl, .ref p, rfl, t, p, l.2, rfl, e3', hP l hlm, by omega, by omega, fun H2 s3 => ⟨true, rfl, iteF ?_⟩⟩
      have e2'' := s3 _ _ e2'
      have e3'' := s3 _ _ e3'
      refine ⟨sV r, rfl, .ref s, rfl, r, l.1, s, rfl, same_at e2'', hr0, f1, by omega, 1, rfl, follow r l.1, -1, rfl, rfl, len_ok (by omega), .inr rfl, sV t, rfl, 1, rfl, t, -1, rfl, rfl, len_ok (by omega), .inr rfl, .ref p, rfl, p, rfl, ⟨_, same_at e3''⟩, fun D nD => ?_⟩
      refine itl_by (K := K) (xs := l.2.map sV) (fun j H3 => Same H2 H3 ∧ H3 D = some (.lst (((l.2.take j).map List.reverse).map sV))) ⟨same_upd nD, upd_same⟩ (fun j H3 _ hh => hh.1.seq (same_at e3'')) (fun j x H3 hx hh => ?_) (fun H3 hh => ?_)
      · obtain ⟨s4, eD⟩ := hh
        obtain ⟨k, ek, rfl, hlt⟩ := take_sV hx
        have hk := (hP l hlm).2 k (List.mem_of_getElem? ek)
        refine ⟨rfl, sV k, rfl, 1, rfl, k, -1, rfl, rfl, len_ok (by omega), .inr rfl, _, eD, ?_, same_upd2 s4 nD, ?_⟩
        · rw [List.length_map, List.length_map, List.length_take]
          have := big_line
          omega
        · rw [upd_same, take_next ek, List.map_append, List.map_append]
          rfl
      · obtain ⟨s4, eD⟩ := hh
        rw [List.length_map, List.take_length] at eD
        refine ⟨(follow r l.1).reverse, t.reverse, D, _, rfl, eD, by rw [List.length_reverse]; omega, by rw [List.length_reverse]; omega, fun H4 kk s5 hkk => ⟨kk, rfl, ?_⟩⟩
        have sall := s2.trans (s3.trans (s4.trans s5))
        cases kk with
        | true =>
          refine iteF ⟨_, _, rfl, sall, fun l' hl' => ?_⟩
          rcases (mem_take_next el).mp hl' with hl' | rfl
          · exact hcl l' hl'
          · exact hkk.mp rfl
        | false =>
          refine iteT (q H4 false sall ⟨fun z => (by cases z), fun z => ?_⟩)
          have := hkk.mpr (z l hlm)
          cases this
    · obtain ⟨y3, y4, rfl, s2, hcl⟩ := hh
      rw [hl1, List.take_length] at hcl
      exact q H' true s2 ⟨fun _ => hcl, fun _ => rfl⟩
end Ow
set_option Elab.async false
set_option linter.all false
set_option maxRecDepth 100000
set_option maxHeartbeats 4000000
namespace Ow
open PySem PySem.Spec PyProof.Rows L2 OwR OwM
theorem ixN_at {n j : Nat} (hj : j < n) : ixN n (j : Int) = some j := by
  unfold ixN
  rw [if_pos (by omega), if_pos (by omega)]
  simp
theorem okLawTablesRight {P : Program} {w : World} {K : PySem.W.Frag} {mg : PySem.Str → Option Value} {base : Heap} {k : Nat} (T : Tx0 K mg) : FnG P w K mg base (k + 6) T.dLawTablesRight.f T.dLawTablesRight.fd ["_law_bag_here", "_law_row_here", "_law_text_here", "_law_lines", "_law_able"] spLawTablesRight := by
  refine fnG_of T.dLawTablesRight.F scLawTablesRight (fun vs H Q E h => ?len) (fun cdv A outer s H vs Q hr hgd h => ?run)
  case len =>
    obtain ⟨_, _, _, _, _, _, _, _, rfl, _⟩ := h
    rfl
  case run =>
    obtain ⟨b, bc, a, r, t, xs, ls, k, rfl, h⟩ := h
    refine ⟨_, (pss_cons (ps_setLc (i := 7) (own := [("_law_story_here", 5), ("_law_parts", 6)]) (by rfl) scLawTablesRight.nd rfl rfl (sw_true rfl rfl rfl (by decide +kernel)) (pi_list (pv 3)) (blkOk_by (own := [("_law_story_here", 5), ("_law_parts", 6)]) (N := nLawTablesRight) (sc := defScope sLawTablesRight) (by decide +kernel)) (fun _ _ _ _ _ => pg_tupK (K := K) (n := 2) rfl rfl (pgs_cons (pg_name (i := 5) scLawTablesRight.nd rfl (.inl rfl)) (pgs_cons (pg_name (i := 6) scLawTablesRight.nd rfl (.inl rfl)) pgs_nil))) (fun _ _ _ _ _ => pts_nil) (fun _ _ _ _ _ => (pe_tup (pa_cons (pv 5) (pa_cons (pe_lc (own := [("_law_part", 10)]) (by rfl) scLawTablesRight.nd (pi_listK (K := K) rfl (pv 6)) (blkOk_by (own := [("_law_part", 10)]) (N := nLawTablesRight) (sc := ⟨.function, [(".0", .local), ("_law_story_here", .local), ("_law_parts", .local), ("_law_text_here", .cell)], false, false, []⟩) (by decide +kernel)) (fun _ _ _ _ _ => pg_name (i := 10) scLawTablesRight.nd rfl (.inl rfl)) (fun _ _ _ _ _ => pts_one (pt_cmpR op_ne (pv 10) (pv 2) (nomark _))) (fun _ _ _ _ _ => (pv 10))) pa_nil)))))
      (pss_cons (ps_if (pt_not (pt_val (pe_callG (okLawAlike T) hr hgd (by rfl) T.dLawAlike.g T.dLawAlike.F.kp T.dLawAlike.b (pa_cons (pe_call (okShowsNoEnd T) hr (by rfl) T.dShowsNoEnd.g T.dShowsNoEnd.F.kp T.dShowsNoEnd.b .nil pass0 (pa_cons (pv 1) (pa_cons (pv 2) (pa_cons (pv 7) pa_nil)))) (pa_cons (pe_not (pv 4)) pa_nil)))))
        (pss_one (ps_ret pe_bl))
        pss_nil)
      (pss_cons (ps_set (i := 8) scLawTablesRight.nd rfl (.inl rfl) (pe_call (okLawTake T) hr (by rfl) T.dLawTake.g T.dLawTake.F.kp T.dLawTake.b .nil pass0 (pa_cons (pv 0) (pa_cons (pe_callB call_len_seq (by rfl) T.m_len (by decide +kernel) (pa_cons (pv 7) pa_nil)) pa_nil))))
      (pss_cons (ps_asg (pe_ix ix_list (pv 7) (pv 8) (fun _ _ => rfl)) (pg_tup (by rfl) (pgs_cons (pg_name (i := 5) scLawTablesRight.nd rfl (.inl rfl)) (pgs_cons (pg_name (i := 6) scLawTablesRight.nd rfl (.inl rfl)) pgs_nil))))
      (pss_cons (ps_if (pt_cmpR (op_eqD hr.units) (pv 6) (pe_lst pa_nil) (nomark _))
        (pss_one (ps_ret pe_bl))
        pss_nil)
      (pss_cons (ps_set (i := 9) scLawTablesRight.nd rfl (.inl rfl) (pe_call (okLawTake T) hr (by rfl) T.dLawTake.g T.dLawTake.F.kp T.dLawTake.b .nil pass0 (pa_cons (pv 0) (pa_cons (pe_callB call_len_seq (by rfl) T.m_len (by decide +kernel) (pa_cons (pv 6) pa_nil)) pa_nil))))
      (pss_cons (ps_asg (pe_tup (pa_cons (pv 5) (pa_cons (pe_op op_cat (pe_slice sl_list (pv 6) po_none (po_some (pv 9))) (pe_slice sl_list (pv 6) (po_some (pe_op op_add (pv 9) pe_int)) po_none)) pa_nil))) (pg_sub (pv 7) (pv 8) set_list))
      (pss_one (ps_ret (pe_cmpR op_is_bl (pe_call (okShowsNoEnd T) hr (by rfl) T.dShowsNoEnd.g T.dShowsNoEnd.F.kp T.dShowsNoEnd.b .nil pass0 (pa_cons (pv 1) (pa_cons (pv 2) (pa_cons (pv 7) pa_nil)))) pe_bl (nomark _))))))))))), ?_⟩
    obtain ⟨hto, hB, h2, hrl, ht1, htl, ea, hL, hlines, hk, q⟩ := h
    have ht0 : t ≠ [] := List.ne_nil_of_length_pos (by omega)
    have hxl := paired_len hL
    obtain ⟨hfit, hln⟩ := Lines.fit hlines hto h2 hrl htl
    have hls0 : ls ≠ [] := fun z => by
      have e := hlines.1
      rw [z] at e
      exact stories_ne e.symm
    have hls1 := List.length_pos_iff.mpr hls0
    refine ⟨.ref a, rfl, a, rfl, ⟨_, same_at ea⟩, fun D nD => ?_⟩
    have hfD := hB.free nD
    refine itl_by (K := K) (xs := xs) (fun i H1 => ∃ zs, Same H H1 ∧ H1 D = some (.lst zs) ∧ Paired (LnX D H1) zs (lessT t (ls.take i))) ⟨[], same_upd nD, upd_same, .nil⟩ (fun i H1 _ hh => ?_) (fun i x H1 hx hh => ?_) (fun H1 hh => ?_)
    · obtain ⟨zs, s1, eD, hZ⟩ := hh
      exact s1.seq (same_at ea)
    · obtain ⟨zs, s1, eD, hZ⟩ := hh
      obtain ⟨l, el, tu, s, p, rfl, etu, es, ep⟩ := paired_at hL hx
      have hzl := paired_len hZ
      have etu1 := s1 _ _ etu
      have es1 := s1 _ _ es
      have ep1 := s1 _ _ ep
      have hlm := List.mem_of_getElem? el
      have hfew := (hfit l hlm).few
      refine ⟨tu, _, rfl, tup_at etu1, rfl, _, [_], rfl, _, [], rfl, rfl, rfl, .ref s, rfl, .ref p, rfl, p, rfl, ⟨_, same_at ep1⟩, fun D2 nD2 => ?_⟩
      refine itl_by (K := K) (xs := l.2.map sV) (fun j H2 => Same H1 H2 ∧ H2 D2 = some (.lst ((lessP t (l.2.take j)).map sV))) ⟨same_upd nD2, upd_same⟩ (fun j H2 _ hh => hh.1.seq (same_at ep1)) (fun j x H2 hx hh => ?_) (fun H2 hh => ?_)
      · obtain ⟨s2, eD2⟩ := hh
        obtain ⟨pt, ept, rfl, hlt⟩ := take_sV hx
        have en := lessP_next (t := t) ept
        refine ⟨rfl, sV pt, rfl, sV t, rfl, rfl, _, rfl, ?_⟩
        rw [tx_eq]
        by_cases hpt : pt = t
        · rw [decide_eq_true hpt]
          rw [if_pos hpt, List.append_nil] at en
          refine iteF ⟨s2, ?_⟩
          rw [en]
          exact eD2
        · rw [decide_eq_false hpt]
          rw [if_neg hpt] at en
          refine iteT ⟨sV pt, rfl, _, eD2, ?_, same_upd2 s2 nD2, ?_⟩
          · rw [List.length_map]
            have h3 : (lessP t (l.2.take j)).length ≤ (l.2.take j).length := List.length_filter_le _ _
            rw [List.length_take] at h3
            have := big_line
            omega
          · rw [upd_same, en, List.map_append]
            rfl
      · obtain ⟨s2, eD2⟩ := hh
        rw [List.length_map, List.take_length] at eD2
        refine ⟨(by show 2 ≤ sizeLine; decide), fun tn ntn => ?_⟩
        have eDD := s2 _ _ eD
        have DD2 : D ≠ D2 := ne_of_none eD nD2
        have Dtn : D ≠ tn := ne_of_none eDD ntn
        have D2tn : D2 ≠ tn := ne_of_none eD2 ntn
        have stn : s ≠ tn := ne_of_none (s2 _ _ es1) ntn
        have sD' : s ≠ D := ne_of_none es nD
        have keep : ∀ c o, c ≠ D → H1 c = some o → upd (upd H2 tn (.tup [.ref s, .ref D2])) D (.lst (zs ++ [.ref tn])) c = some o := fun c o hc e => by
          rw [upd_ne hc, upd_ne (ne_of_none (s2 _ _ e) ntn)]
          exact s2 _ _ e
        refine ⟨zs, by rw [upd_ne Dtn]; exact eDD, ?_, zs ++ [.ref tn], ?_, upd_same, ?_⟩
        · rw [hzl]
          unfold lessT
          rw [List.length_map, List.length_take]
          have := big_line
          omega
        · intro c o e
          exact keep c o (ne_of_none e nD) (s1 _ _ e)
        · rw [less_next el]
          refine paired_app (paired_imp (fun _ _ z => z.mono keep) hZ) (.cons ⟨tn, s, D2, rfl, Dtn.symm, sD', DD2.symm, ?_, ?_, ?_⟩ .nil)
          · rw [upd_ne Dtn.symm, upd_same]
          · exact keep s _ sD' es1
          · rw [upd_ne DD2.symm, upd_ne D2tn]
            exact eD2
    · obtain ⟨zs, s1, eD, hZ⟩ := hh
      rw [hxl, List.take_length] at hZ
      have hzl := paired_len hZ
      have hzl2 : zs.length = ls.length := by
        rw [hzl]
        exact List.length_map ..
      refine ⟨sV r, rfl, sV t, rfl, .ref D, rfl, r, t, D, zs, lessT t ls, rfl, h2, hrl, htl, eD, paired_imp (fun _ _ z => z.ln) hZ, less_fst.trans hlines.1, less_parts hlines, fun H2 k2 s2 hk2 => ?_⟩
      have hkk : k2 = !k := by
        rw [hk]
        have := hk2.trans (less_closed ht0 hlines)
        cases k2 <;> cases hz : ableE r t <;> simp_all
      obtain ⟨o1, o2, o3, o4, o5⟩ := bool_ok (!k)
      refine ⟨.bl k, rfl, k, rfl, .bl k2, .bl (!k), .bool (!k), rfl, ?_, .bl _, .inl ⟨_, rfl⟩, .inl ⟨_, rfl⟩, o1, o2, o3, o4, o5, true, rfl, iteF ?_⟩
      · rw [hkk]
        exact .bl _
      have S2 : Same H H2 := s1.trans s2
      have hB2 := hB.same S2
      have eD2 := s2 _ _ eD
      refine ⟨.ref b, rfl, .ref D, rfl, D, _, rfl, .inl (same_at eD2), b, bc, zs.length, rfl, by omega, by omega, hB2, fun H3 v hv hB3 k3 => ?_⟩
      have hZ3 := paired_imp (fun _ _ (z : LnX D H1 _ _) => (z.mono (fun c o _ e => s2 c o e)).bag hB2 k3) hZ
      have eD3 := k3.at hfD.1.symm eD2
      have K3 : KeptBut [b] H H3 := (KeptBut.of S2).trans k3
      obtain ⟨x, ex⟩ : ∃ x, zs[v]? = some x := ⟨_, List.getElem?_eq_getElem hv⟩
      obtain ⟨⟨st, ps⟩, el, tu, s, p, rfl, n1, n2, n3, etu, es, ep⟩ := paired_at hZ3 ex
      have ep : H3 p = some (.lst (ps.map sV)) := ep
      have es : H3 s = some (.lst (st.map nV)) := es
      obtain ⟨ps1, hm1, hps1⟩ := less_mem (List.mem_of_getElem? el)
      have hps1 : ps = lessP t ps1 := hps1
      have hsub : ∀ x ∈ ps, x ∈ ps1 := fun x hx => (mem_lessP.mp (hps1 ▸ hx)).1
      have hlo : ∀ x ∈ ps, Lo x := fun x hx => (hfit _ hm1).lo x (hsub x hx)
      have hfew : ps.length ≤ 150 := by
        have h3 : (lessP t ps1).length ≤ ps1.length := List.length_filter_le _ _
        have h4 : ps1.length ≤ 150 := (hfit _ hm1).few
        rw [hps1]
        omega
      refine ⟨.ref D, rfl, nV v, rfl, D, _, v, _, rfl, rfl, same_at eD3, atI_nat ex, tu, _, rfl, tup_at etu, rfl, _, [_], rfl, _, [], rfl, rfl, ?_⟩
      refine ⟨.ref p, rfl, Nat.zero_le _, fun e0 ne0 => ⟨_, _, dp_textL (ps := ps) (same_at (same_upd ne0 _ _ ep)), dp_nil (same_at upd_same), shaped_texts hlo, rfl, _, rfl, ?_⟩⟩
      rw [show PyData.eqv (.list (ps.map sD)) (.list []) = ps.isEmpty from eqv_nil sD ps]
      have S4 : Same H3 (upd H3 e0 (.lst [])) := same_upd ne0
      generalize upd H3 e0 (.lst []) = H4 at S4
      have hB4 := hB3.same S4
      by_cases hp0 : ps = []
      · rw [hp0]
        exact iteT (q _ hB4 (K3.then S4))
      · rw [show ps.isEmpty = false by cases ps; exact absurd rfl hp0; rfl]
        have hp1 := List.length_pos_iff.mpr hp0
        have ep4 := S4 _ _ ep
        refine iteF ⟨.ref b, rfl, .ref p, rfl, p, _, rfl, .inl (same_at ep4), b, bc, (ps.map sV).length, rfl, by rw [List.length_map]; omega, by rw [List.length_map]; omega, hB4, fun H5 w hw hB5 k5 => ?_⟩
        rw [List.length_map] at hw
        have hZ5 := paired_imp (fun _ _ (z : LnX D H3 _ _) => (z.mono (fun c o _ e => S4 c o e)).bag hB4 k5) hZ3
        have eD5 := k5.at hfD.1.symm (S4 _ _ eD3)
        have ep5 := k5.at (hB4.texts ep4) ep4
        have es5 := k5.at (hB4.nats (S4 _ _ es)) (S4 _ _ es)
        refine ⟨.ref s, rfl, .ref p, rfl, nV w, rfl, w, rfl, p, _, rfl, same_at ep5, fun f1 nf1 => ⟨.ref p, rfl, nV w, rfl, _, 1, rfl, rfl, _, rfl, p, _, rfl, same_at (same_upd nf1 _ _ ep5), fun f2 nf2 => ?_⟩⟩
        rw [show ((w : Int) + 1) = ((w + 1 : Nat) : Int) from rfl, cutV_from]
        rw [cutV_to] at nf2 ⊢
        have f12 : f1 ≠ f2 := ne_of_none upd_same nf2
        refine ⟨f1, f2, _, _, rfl, rfl, by rw [upd_ne f12]; exact upd_same, upd_same, ?_, fun f3 nf3 => ⟨(by show 2 ≤ sizeLine; decide), fun tn ntn => ?_⟩⟩
        · rw [List.length_take, List.length_drop, List.length_map]
          have := big_line
          omega
        have eps : (ps.map sV).take w ++ (ps.map sV).drop (w + 1) = (ps.take w ++ ps.drop (w + 1)).map sV := by
          rw [List.map_append, List.map_take, List.map_drop]
        rw [eps] at ntn ⊢
        have S6 : Same H5 (upd (upd H5 f1 (.lst ((ps.map sV).take w))) f2 (.lst ((ps.map sV).drop (w + 1)))) := (same_upd nf1).trans (same_upd nf2)
        generalize upd (upd H5 f1 (.lst ((ps.map sV).take w))) f2 (.lst ((ps.map sV).drop (w + 1))) = H6 at S6 nf3 ntn
        have eD6 := S6 _ _ eD5
        have es6 := S6 _ _ es5
        have Df3 : D ≠ f3 := ne_of_none eD6 nf3
        have f3tn : f3 ≠ tn := ne_of_none upd_same ntn
        have eD7 : upd H6 f3 (.lst ((ps.take w ++ ps.drop (w + 1)).map sV)) D = some (.lst zs) := by
          rw [upd_ne Df3]
          exact eD6
        have Dtn : D ≠ tn := ne_of_none eD7 ntn
        have es7 : upd H6 f3 (.lst ((ps.take w ++ ps.drop (w + 1)).map sV)) s = some (.lst (st.map nV)) := by
          rw [upd_ne (ne_of_none es6 nf3)]
          exact es6
        have stn : s ≠ tn := ne_of_none es7 ntn
        refine ⟨.ref D, rfl, nV v, rfl, D, _, v, v, rfl, rfl, by rw [upd_ne Dtn]; exact eD7, ixN_at hv, ?_⟩
        have keep : ∀ c o, c ≠ D → H5 c = some o → upd (upd (upd H6 f3 (.lst ((ps.take w ++ ps.drop (w + 1)).map sV))) tn (.tup [.ref s, .ref f3])) D (.lst (zs.set v (.ref tn))) c = some o := fun c o hc e => by
          have e6 := S6 _ _ e
          have e7 : upd H6 f3 (.lst ((ps.take w ++ ps.drop (w + 1)).map sV)) c = some o := by
            rw [upd_ne (ne_of_none e6 nf3)]
            exact e6
          rw [upd_ne hc, upd_ne (ne_of_none e7 ntn)]
          exact e7
        have L8 : Lns (upd (upd (upd H6 f3 (.lst ((ps.take w ++ ps.drop (w + 1)).map sV))) tn (.tup [.ref s, .ref f3])) D (.lst (zs.set v (.ref tn)))) (zs.set v (.ref tn)) ((lessT t ls).set v (st, ps.take w ++ ps.drop (w + 1))) := by
          refine paired_set ?_ v (paired_imp (fun _ _ z => (z.mono keep).ln) hZ5)
          refine ⟨tn, s, f3, rfl, ?_, keep s _ n2 es5, ?_⟩
          · rw [upd_ne Dtn.symm, upd_same]
          · rw [upd_ne Df3.symm, upd_ne f3tn, upd_same]
        have hB8 : BagOk (upd (upd (upd H6 f3 (.lst ((ps.take w ++ ps.drop (w + 1)).map sV))) tn (.tup [.ref s, .ref f3])) D (.lst (zs.set v (.ref tn)))) b bc := (((hB5.same S6).new nf3).new ntn).put hfD
        have K8 : KeptBut [b] H (upd (upd (upd H6 f3 (.lst ((ps.take w ++ ps.drop (w + 1)).map sV))) tn (.tup [.ref s, .ref f3])) D (.lst (zs.set v (.ref tn)))) := kept_new ((((K3.then S4).trans k5).then S6).then ((same_upd nf3).trans (same_upd ntn))) nD
        refine ⟨sV r, rfl, sV t, rfl, .ref D, rfl, r, t, D, _, _, rfl, h2, hrl, htl, upd_same, L8, (out_fst el).trans hlines.1, out_parts hlines el, fun H9 k9 s9 hk9 => ?_⟩
        have hk9f : k9 = false := by
          cases k9
          · rfl
          · exact absurd (hk9.mp rfl) (out_not hlines el hw)
        subst hk9f
        refine ⟨false, false, rfl, rfl, ?_⟩
        exact q _ (hB8.same s9) (K8.then s9)
end Ow
set_option Elab.async false
set_option linter.all false
set_option maxRecDepth 100000
set_option maxHeartbeats 4000000
namespace Ow
open PySem PySem.Spec PyProof.Rows L2 OwR OwM
theorem word_ix (c : Bool) : atI [V.str "never", V.str "story"] (if c = true then 1 else 0) = some (.str (if c = true then "story" else "never")) := by
  cases c <;> rfl
theorem okLawRight {P : Program} {w : World} {K : PySem.W.Frag} {mg : PySem.Str → Option Value} {base : Heap} {k : Nat} (T : Tx0 K mg) : FnG P w K mg base (k + 7) T.dLawRight.f T.dLawRight.fd ["_law_bag_here", "_law_row_here", "_law_text_here"] spLawRight := by
  refine fnG_of T.dLawRight.F scLawRight (fun vs H Q E h => ?len) (fun cdv A outer s H vs Q hr hgd h => ?run)
  case len =>
    obtain ⟨_, _, _, _, rfl, _⟩ := h
    rfl
  case run =>
    obtain ⟨b, bc, r, t, rfl, h⟩ := h
    refine ⟨_, (pss_cons (ps_setLc (i := 3) (own := [("_law_story_here", 7), ("_law_base", 8)]) (by rfl) scLawRight.nd rfl rfl (sw_true rfl rfl rfl (by decide +kernel)) (pi_list (pe_call (okLawBases T) hr (by rfl) T.dLawBases.g T.dLawBases.F.kp T.dLawBases.b .nil pass0 (pa_cons (pv 1) (pa_cons (pe_callB call_len_str (by rfl) T.m_len (by decide +kernel) (pa_cons (pv 2) pa_nil)) pa_nil)))) (blkOk_by (own := [("_law_story_here", 7), ("_law_base", 8)]) (N := nLawRight) (sc := defScope sLawRight) (by decide +kernel)) (fun _ _ _ _ _ => pg_tupK (K := K) (n := 2) rfl rfl (pgs_cons (pg_name (i := 7) scLawRight.nd rfl (.inl rfl)) (pgs_cons (pg_name (i := 8) scLawRight.nd rfl (.inl rfl)) pgs_nil))) (fun _ _ _ _ _ => pts_nil) (fun _ _ _ _ _ => (pe_tup (pa_cons (pv 7) (pa_cons (pe_call (okLawCanEnd T) hr (by rfl) T.dLawCanEnd.g T.dLawCanEnd.F.kp T.dLawCanEnd.b .nil pass0 (pa_cons (pv 8) (pa_cons (pv 2) pa_nil))) pa_nil)))))
      (pss_cons (ps_set (i := 4) scLawRight.nd rfl (.inl rfl) (pe_cmpR (op_neD hr.units) (pe_lc (own := [("_law_story_here", 7), ("_law_parts", 9)]) (by rfl) scLawRight.nd (pi_list (pv 3)) (blkOk_by (own := [("_law_story_here", 7), ("_law_parts", 9)]) (N := nLawRight) (sc := defScope sLawRight) (by decide +kernel)) (fun _ _ _ _ _ => pg_tupK (K := K) (n := 2) rfl rfl (pgs_cons (pg_name (i := 7) scLawRight.nd rfl (.inl rfl)) (pgs_cons (pg_name (i := 9) scLawRight.nd rfl (.inl rfl)) pgs_nil))) (fun _ _ _ _ _ => pts_one (pt_cmpR (op_in_seqK (K := K) rfl) (pv 2) (pv 9) (by rfl))) (fun _ _ _ _ _ => (pv 7))) (pe_lst pa_nil) (nomark _)))
      (pss_cons (ps_if (pt_not (pt_val (pe_callG (okLawTablesRight T) hr hgd (by rfl) T.dLawTablesRight.g T.dLawTablesRight.F.kp T.dLawTablesRight.b (pa_cons (pv 0) (pa_cons (pv 1) (pa_cons (pv 2) (pa_cons (pv 3) (pa_cons (pv 4) pa_nil))))))))
        (pss_one (ps_ret pe_bl))
        pss_nil)
      (pss_cons (ps_for PassesOwn.never rfl (pi_range1 (by rfl) T.m_range (pa_cons pe_int pa_nil)) (pg_name (i := 5) scLawRight.nd rfl (.inl rfl))
        (pss_cons (ps_set (i := 6) scLawRight.nd rfl (.inl rfl) (pe_call (okEnds T) hr (by rfl) T.dEnds.g T.dEnds.F.kp T.dEnds.b .nil pass0 (pa_cons (pv 1) (pa_cons (pv 2) pa_nil))))
        (pss_cons (ps_if (PW.pt (pw_and (pt_not (pt_val (pv 4))) (pw_and1 (pt_not (pt_val (pe_callG (okLawAlike T) hr hgd (by rfl) T.dLawAlike.g T.dLawAlike.F.kp T.dLawAlike.b (pa_cons (pv 6) (pa_cons (pe_tup (pa_cons pe_str (pa_cons (pv 3) pa_nil))) pa_nil))))))))
          (pss_one (ps_ret pe_bl))
          pss_nil)
        (pss_cons (ps_if (PW.pt (pw_and (pt_not (pt_val (pv 4))) (pw_and1 (pt_cmpR op_isnot_bl (pe_call (okShowsNoEnd T) hr (by rfl) T.dShowsNoEnd.g T.dShowsNoEnd.F.kp T.dShowsNoEnd.b .nil pass0 (pa_cons (pv 1) (pa_cons (pv 2) (pa_cons (pe_ix ix_tup (pv 6) pe_int (fun _ _ => rfl)) pa_nil)))) pe_bl (nomark _)))))
          (pss_one (ps_ret pe_bl))
          pss_nil)
        (pss_cons (ps_if (pt_val (pv 4))
          (pss_cons (ps_if (PW.pt (pw_or (pt_not (pt_val (pe_callB call_isi (by rfl) T.m_isinstance (by decide +kernel) (pa_cons (pv 6) (pa_cons (pe_bltn (v := .ty "tuple") (by rfl) T.m_tuple (by decide +kernel) rfl) pa_nil))))) (pw_or (pt_cmpR op_ne (pe_callB call_len_seq (by rfl) T.m_len (by decide +kernel) (pa_cons (pv 6) pa_nil)) pe_int (nomark _)) (pw_or1 (pt_cmpR op_ne (pe_ix ix_tup (pv 6) pe_int (fun _ _ => rfl)) pe_str (nomark _))))))
            (pss_one (ps_ret pe_bl))
            pss_nil)
          (pss_one (ps_if (PW.pt (pw_or (pt_not (pt_val (pe_call (okLawIsStory T) hr (by rfl) T.dLawIsStory.g T.dLawIsStory.F.kp T.dLawIsStory.b .nil pass0 (pa_cons (pv 1) (pa_cons (pe_ix ix_tup (pv 6) pe_int (fun _ _ => rfl)) pa_nil))))) (pw_or1 (pt_not (pt_val (pe_call (okLawCloses T) hr (by rfl) T.dLawCloses.g T.dLawCloses.F.kp T.dLawCloses.b .nil pass0 (pa_cons (pv 1) (pa_cons (pe_ix ix_tup (pv 6) pe_int (fun _ _ => rfl)) (pa_cons (pv 2) pa_nil)))))))))
            (pss_one (ps_ret pe_bl))
            pss_nil)))
          pss_nil)
        (pss_cons (ps_if (PW.pt (pw_and (pt_not (pt_val (pv 4))) (pw_and1 (pt_not (pt_val (pe_call (okLawApart T) hr (by rfl) T.dLawApart.g T.dLawApart.F.kp T.dLawApart.b .nil pass0 (pa_cons (pe_ix ix_tup (pv 6) pe_int (fun _ _ => rfl)) (pa_cons (pv 3) pa_nil))))))))
          (pss_one (ps_ret pe_bl))
          pss_nil)
        (pss_cons (ps_expr (pe_bm0 PySem.F.plainAttrs_list PySem.F.slot_list_reverse PySem.F.type_list_reverse mt_reverse (pe_ix ix_tup (pv 6) pe_int (fun _ _ => rfl))))
        (pss_one (ps_expr (pe_bm PySem.F.plainAttrs_list PySem.F.slot_list_append PySem.F.type_list_append mt_append (pe_ix ix_tup (pv 6) pe_int (fun _ _ => rfl)) (pa_cons pe_non pa_nil)))))))))))
      (pss_one (ps_ret (pe_cmpR op_eq (pe_ix ix_tup (pe_call (okBegins T) hr (by rfl) T.dBegins.g T.dBegins.F.kp T.dBegins.b .nil pass0 (pa_cons (pe_step (pv 1) (pe_un un_neg pe_int)) (pa_cons (pe_step (pv 2) (pe_un un_neg pe_int)) pa_nil))) pe_int (fun _ _ => rfl)) (pe_ix ix_list (pe_lst (pa_cons pe_str (pa_cons pe_str pa_nil))) (pe_callTy call_int1 (by rfl) T.m_int (by decide +kernel) (pa_cons (pv 4) pa_nil)) (fun _ _ => rfl)) (nomark _)))))))), ?_⟩
    obtain ⟨hto, hB, h2, hrl, ht1, htl, q⟩ := h
    have hr0 : r ≠ [] := List.ne_nil_of_length_pos (by omega)
    have ht0 : t ≠ [] := List.ne_nil_of_length_pos (by omega)
    refine ⟨sV r, rfl, sV t, rfl, tS t, rfl, len_ok (by omega), r, t.length, by rw [tS_len]; rfl, h2, hrl, htl, fun H1 p xs s1 np ep hP => ⟨p, rfl, ⟨_, same_at ep⟩, fun D nD => ?_⟩⟩
    have hxl := paired_len hP
    refine itl_by (K := K) (xs := xs) (fun i H2 => ∃ zs ls, Same H1 H2 ∧ H2 D = some (.lst zs) ∧ Paired (LnX D H2) zs ls ∧ ls.map (·.1) = (stories (r.length - 1) t.length).take i ∧ ∀ l ∈ ls, IsCansE (follow r l.1) t l.2) ⟨[], [], same_upd nD, upd_same, .nil, rfl, fun l z => (by cases z)⟩ (fun i H2 _ hh => ?_) (fun i x H2 hx hh => ?_) (fun H2 hh => ?_)
    · obtain ⟨zs, ls, s2, _⟩ := hh
      exact s2.seq (same_at ep)
    · obtain ⟨zs, ls, s2, eD, hZ, hst, hcan⟩ := hh
      obtain ⟨s, es, tu, a, rfl, etu, ea⟩ := paired_at hP hx
      have hsm := List.mem_of_getElem? es
      obtain ⟨f1, f2, f3, f4⟩ := story_facts hsm (by omega)
      have hfl := follow_len hr0 f1
      have etu2 := s2 _ _ etu
      have ea2 := s2 _ _ ea
      have hzl := paired_len hZ
      have hll : ls.length ≤ 270 := by
        have e1 := congrArg List.length hst
        rw [List.length_map, List.length_take] at e1
        have := stories_len (last := r.length - 1) (by omega) htl
        omega
      refine ⟨tu, _, rfl, tup_at etu2, rfl, _, [_], rfl, _, [], rfl, rfl, rfl, .ref a, rfl, sV (follow r s), rfl, sV t, rfl, follow r s, t, rfl, by omega, by omega, fun H3 pk ks s3 npk epk hk => ⟨(by show 2 ≤ sizeLine; decide), fun tn ntn => ?_⟩⟩
      have eD3 := s3 _ _ eD
      have Dtn : D ≠ tn := ne_of_none eD3 ntn
      have pkD : pk ≠ D := fun z => by
        rw [z, eD] at npk
        cases npk
      have pktn : pk ≠ tn := ne_of_none epk ntn
      have aD : a ≠ D := ne_of_none ea nD
      have keep : ∀ c o, c ≠ D → H2 c = some o → upd (upd H3 tn (.tup [.ref a, .ref pk])) D (.lst (zs ++ [.ref tn])) c = some o := fun c o hc e => by
        rw [upd_ne hc, upd_ne (ne_of_none (s3 _ _ e) ntn)]
        exact s3 _ _ e
      refine ⟨zs, by rw [upd_ne Dtn]; exact eD3, (by have := big_line; omega), zs ++ [.ref tn], ls ++ [(s, ks)], ?_, upd_same, ?_, ?_, ?_⟩
      · intro c o e
        exact keep c o (ne_of_none e nD) (s2 _ _ e)
      · refine paired_app (paired_imp (fun _ _ z => z.mono keep) hZ) (.cons ⟨tn, a, pk, rfl, Dtn.symm, aD, pkD, ?_, keep a _ aD ea2, ?_⟩ .nil)
        · rw [upd_ne Dtn.symm, upd_same]
        · rw [upd_ne pkD, upd_ne pktn]
          exact epk
      · rw [List.map_append, hst, take_next es]
        rfl
      · intro l hl
        rcases List.mem_append.mp hl with hl | hl
        · exact hcan l hl
        · rw [List.mem_singleton] at hl
          subst hl
          exact hk
    · obtain ⟨zs, ls, s2, eD, hZ, hst, hcan⟩ := hh
      rw [hxl, List.take_length] at hst
      have hlines : Lines r t ls := ⟨hst, hcan⟩
      obtain ⟨hfit, hln⟩ := Lines.fit hlines hto h2 hrl htl
      have hzl := paired_len hZ
      have S2 : Same H H2 := s1.trans s2
      dsimp only
      refine ⟨.ref D, rfl, D, rfl, ⟨_, same_at eD⟩, fun D2 nD2 => ?_⟩
      refine itl_by (K := K) (xs := zs) (fun i H3 => ∃ vs, Same H2 H3 ∧ H3 D2 = some (.lst vs) ∧ Paired (StX D2 H3) vs (selS t (ls.take i))) ⟨[], same_upd nD2, upd_same, .nil⟩ (fun i H3 _ hh => ?_) (fun i x H3 hx hh => ?_) (fun H3 hh => ?_)
      · obtain ⟨vs, s3, _⟩ := hh
        exact s3.seq (same_at eD)
      · obtain ⟨vs, s3, eD2, hV⟩ := hh
        obtain ⟨l, el, tu, s, p2, rfl, n1, n2, n3, etu, es, ep2⟩ := paired_at hZ hx
        have en := selS_next (t := t) el
        have hvl := paired_len hV
        refine ⟨tu, _, rfl, tup_at (s3 _ _ etu), rfl, _, [_], rfl, _, [], rfl, rfl, rfl, sV t, rfl, .ref p2, rfl, p2, _, rfl, .inl (same_at (s3 _ _ ep2)), rfl, flat_texts _, _, rfl, ?_⟩
        show if inV (sV t) (l.2.map sV) = true then _ else _
        rw [in_texts]
        by_cases hin : t ∈ l.2
        · rw [decide_eq_true hin]
          rw [decide_eq_true hin, if_pos rfl] at en
          have keep : ∀ c o, c ≠ D2 → H3 c = some o → upd H3 D2 (.lst (vs ++ [.ref s])) c = some o := fun c o hc e => by
            rw [upd_ne hc]
            exact e
          refine iteT ⟨.ref s, rfl, vs, eD2, ?_, vs ++ [.ref s], same_upd2 s3 nD2, upd_same, ?_⟩
          · have h3 : (selS t (ls.take i)).length ≤ (ls.take i).length := by
              unfold selS
              rw [List.length_map]
              exact List.length_filter_le _ _
            rw [List.length_take] at h3
            have := big_line
            omega
          · rw [en]
            have sD2 : s ≠ D2 := ne_of_none es nD2
            exact paired_app (paired_imp (fun _ _ z => z.mono keep) hV) (.cons ⟨s, rfl, sD2, keep s _ sD2 (s3 _ _ es)⟩ .nil)
        · rw [decide_eq_false hin]
          rw [decide_eq_false hin, if_neg (by decide), List.append_nil] at en
          refine iteF ⟨vs, s3, eD2, ?_⟩
          rw [en]
          exact hV
      · obtain ⟨vs, s3, eD2, hV⟩ := hh
        rw [hzl, List.take_length] at hV
        refine ⟨Nat.zero_le _, fun e0 ne0 => ?_⟩
        have S4 : Same H3 (upd H3 e0 (.lst [])) := same_upd ne0
        refine ⟨_, _, .lst (same_at (S4 _ _ eD2)) (dp_stories (paired_imp (fun _ _ z => z.mono fun c o _ e => S4 c o e) hV)), dp_nil (same_at upd_same), shaped_stories _, rfl, ?_⟩
        rw [show PyData.eqv (.list ((selS t ls).map storyD)) (.list []) = (selS t ls).isEmpty from eqv_nil storyD _, selS_able hlines ht0]
        generalize upd H3 e0 (.lst []) = H4 at S4
        have S5 : Same H2 H4 := s3.trans S4
        have S6 : Same H H4 := S2.trans S5
        have hB4 := hB.same S6
        have hZ4 := paired_imp (fun _ _ (z : LnX D H2 _ _) => z.mono fun c o _ e => S5 c o e) hZ
        have eD4 := S5 _ _ eD
        obtain ⟨able, hab⟩ : ∃ k, k = ableE r t := ⟨_, rfl⟩
        rw [← hab]
        refine ⟨.ref b, rfl, sV r, rfl, sV t, rfl, .ref D, rfl, .bl able, rfl, b, bc, D, r, t, zs, ls, able, rfl, hto, hB4, h2, hrl, ht1, htl, eD4, paired_imp (fun _ _ z => z.ln) hZ4, hlines, hab, fun H5 hB5 k5 => ⟨true, rfl, iteF ?_⟩⟩
        have K5 : KeptBut [b] H H5 := (KeptBut.of S6).trans k5
        have hDb : D ≠ b := ((hB.same s1).free nD).1.symm
        have eD5 := k5.at hDb eD4
        have hZ5 := paired_imp (fun _ _ (z : LnX D H4 _ _) => (z.bag hB4 k5).ln) hZ4
        dsimp only
        refine ⟨2, rfl, by decide, by decide, for_rangeN (n := 2) 0 rfl (fun i σ H' => ∃ y5 y6, σ = [some (.ref b), some (sV r), some (sV t), some (.ref D), some (.bl able), y5, y6, none, none, none] ∧ Same H5 H') ⟨none, none, rfl, fun c o e => e⟩ (fun i σ H' hi hh => ?_) (fun σ H' hh => ?_)⟩
        · obtain ⟨y5, y6, rfl, s6⟩ := hh
          have eD6 := s6 _ _ eD5
          have hZ6 := paired_imp (fun _ _ (z : Ln H5 _ _) => z.mono s6) hZ5
          refine ⟨sV r, rfl, sV t, rfl, r, t, rfl, h2, hrl, ht1, htl, fun hE H7 qq c ns s7 nq eq nc ec hok => ?_, fun hE H7 qq c rs ls2 s7 nq eq nc ec hT hlines2 => ?_⟩
          · have hab1 : able = true := hab.trans hE
            subst hab1
            have qc : qq ≠ c := fun z => by
              rw [z, ec] at eq
              cases eq
            refine ⟨.bl true, rfl, true, rfl, iteF (iteF ?_)⟩
            refine ⟨.bl true, rfl, true, rfl, iteF (iteF ?_)⟩
            refine ⟨.bl true, rfl, true, rfl, iteT ?_⟩
            refine ⟨.ref qq, rfl, .ref qq, .ty "tuple", .type "tuple", .type "tuple", true, rfl, .ty _, .base (.tup eq), kit_ty (by decide +kernel), true, rfl, iteF ?_⟩
            refine ⟨.ref qq, rfl, qq, _, rfl, .inr (tup_at eq), rfl, _, rfl, iteF ?_⟩
            refine ⟨.ref qq, rfl, qq, _, 0, _, rfl, rfl, tup_at eq, atI_nat (j := 0) rfl, rfl, _, rfl, iteF ?_⟩
            refine ⟨sV r, rfl, .ref qq, rfl, qq, _, 1, _, rfl, rfl, tup_at eq, atI_nat (j := 1) rfl, r, ns, c, rfl, same_at ec, by omega, hok.1, hok.2.1, hr0, true, rfl, iteF ?_⟩
            refine ⟨sV r, rfl, .ref qq, rfl, qq, _, 1, _, rfl, rfl, tup_at eq, atI_nat (j := 1) rfl, sV t, rfl, r, t, ns, c, rfl, same_at ec, hr0, hrl, htl, hok, fun H8 s8 => ⟨true, rfl, iteF ?_⟩⟩
            refine ⟨.bl true, rfl, true, rfl, iteF (iteF ?_)⟩
            have eq8 := s8 _ _ eq
            have ec8 := s8 _ _ ec
            refine ⟨.ref qq, rfl, qq, _, 1, _, rfl, rfl, tup_at eq8, atI_nat (j := 1) rfl, .inl ⟨rfl, _, same_at ec8⟩, c, _, rfl, rfl, ec8, ?_⟩
            have eq9 : upd H8 c (.lst (ns.map nV).reverse) qq = _ := (upd_ne qc).trans eq8
            refine ⟨.ref qq, rfl, qq, _, 1, _, rfl, rfl, tup_at eq9, atI_nat (j := 1) rfl, .inl ⟨rfl, _, same_at upd_same⟩, c, _, .non, rfl, rfl, upd_same, ?_, _, _, rfl, fun d o e => ?_⟩
            · rw [List.length_reverse, List.length_map]
              have := hok.2.1
              have := big_line
              omega
            · have dc : d ≠ c := ne_of_none (s6 _ _ e) nc
              rw [upd_ne dc, upd_ne dc]
              exact s8 _ _ (s7 _ _ (s6 _ _ e))
          · have hab1 : able = false := hab.trans hE
            subst hab1
            obtain rfl : ls2 = ls := hlines2.eq hlines
            have hsame := less_same ht0 hlines hE
            have hparts := less_parts hlines
            have hclosed := (less_closed ht0 hlines).mpr hE
            rw [hsame] at hparts hclosed
            obtain ⟨o1, o2, o3, o4, o5⟩ := nev_ok hfit hln
            have eD7 := s7 _ _ eD6
            have hZ7 := paired_imp (fun _ _ (z : Ln H' _ _) => z.mono s7) hZ6
            have qc : qq ≠ c := fun z => by
              rw [z, ec] at eq
              cases eq
            refine ⟨.bl false, rfl, false, rfl, iteT ⟨.ref qq, rfl, .ref D, rfl, (by show 2 ≤ sizeLine; decide), fun tn ntn => ?_⟩⟩
            have S8 : Same H7 (upd H7 tn (.tup [.str "never", .ref D])) := same_upd ntn
            refine ⟨.ref qq, .ref tn, nevD ls2, rfl, dp_nev (tup_at (S8 _ _ eq)) (same_at (S8 _ _ ec)) (paired_imp (fun _ _ z => z.mono S8) hT.lns), dp_nev (tup_at upd_same) (same_at (S8 _ _ eD7)) (paired_imp (fun _ _ z => z.mono S8) hZ7), .inr ⟨_, rfl⟩, .inr ⟨_, rfl⟩, o1, o2, o3, o4, o5, true, rfl, iteF ?_⟩
            generalize upd H7 tn (.tup [.str "never", .ref D]) = H8 at S8
            refine ⟨.bl false, rfl, false, rfl, iteT ⟨sV r, rfl, sV t, rfl, .ref qq, rfl, qq, _, 1, _, rfl, rfl, tup_at (S8 _ _ eq), atI_nat (j := 1) rfl, r, t, c, _, ls2, rfl, h2, hrl, htl, S8 _ _ ec, paired_imp (fun _ _ z => z.mono S8) hT.lns, hlines.1, hparts, fun H9 k9 s9 hk9 => ?_⟩⟩
            have hk9t : k9 = true := hk9.mpr hclosed
            subst hk9t
            refine ⟨true, true, rfl, rfl, _, rfl, iteF ?_⟩
            refine ⟨.bl false, rfl, false, rfl, iteF ?_⟩
            have S9 : Same H7 H9 := S8.trans s9
            have eq9 := S9 _ _ eq
            have ec9 := S9 _ _ ec
            have hT9 : Tbl H' H9 rs ls2 := hT.mono fun x hx d hd o e => S9 _ _ e
            have S79 : Same H' H9 := s7.trans S9
            refine ⟨.bl false, rfl, false, rfl, iteT ⟨.ref qq, rfl, qq, _, 1, _, rfl, rfl, tup_at eq9, atI_nat (j := 1) rfl, .ref D, rfl, c, D, rs, zs, ls2, H', rfl, ec9, S9 _ _ eD7, hT9, hZ6, S79, ?_, by omega, fun H10 k10 => ⟨true, rfl, iteF ?_⟩⟩⟩
            · intro l hl
              have hf := hfit l hl
              have h3 := hf.len
              have h4 := hf.few
              exact ⟨by omega, by omega, hf.lo⟩
            have S10 := hT9.old S79 k10
            have eq10 := hT9.keepT k10 eq9
            have ec10 := hT9.keeps k10 ec9
            refine ⟨.ref qq, rfl, qq, _, 1, _, rfl, rfl, tup_at eq10, atI_nat (j := 1) rfl, .inl ⟨rfl, _, same_at ec10⟩, c, _, rfl, rfl, ec10, ?_⟩
            have eq11 : upd H10 c (.lst (rs.map fun x => V.ref x.1).reverse) qq = _ := (upd_ne qc).trans eq10
            refine ⟨.ref qq, rfl, qq, _, 1, _, rfl, rfl, tup_at eq11, atI_nat (j := 1) rfl, .inl ⟨rfl, _, same_at upd_same⟩, c, _, .non, rfl, rfl, upd_same, ?_, _, _, rfl, fun d o e => ?_⟩
            · rw [List.length_reverse, List.length_map, hT.1]
              have := big_line
              omega
            · have dc : d ≠ c := ne_of_none (s6 _ _ e) nc
              rw [upd_ne dc, upd_ne dc]
              exact S10 _ _ (s6 _ _ e)
        · obtain ⟨y5, y6, rfl, s6⟩ := hh
          refine ⟨sV r, rfl, 1, rfl, r, -1, rfl, rfl, len_ok (by omega), .inr rfl, sV t, rfl, 1, rfl, t, -1, rfl, rfl, len_ok (by omega), .inr rfl, r.reverse, t.reverse, rfl, by rw [List.length_reverse]; omega, by rw [List.length_reverse]; omega, by rw [List.length_reverse]; omega, by rw [List.length_reverse]; omega, fun H7 qq x s7 nq eq => ?_⟩
          refine ⟨qq, _, 0, _, rfl, rfl, tup_at eq, atI_nat (j := 0) rfl, (by show 2 ≤ sizeLine; decide), fun s ns => ⟨.bl able, rfl, .inr ⟨_, rfl, s, _, _, _, rfl, rfl, same_at upd_same, word_ix able, rfl, ?_⟩⟩⟩
          rw [able_same h2, ← hab, decide_eq_true rfl]
          have S8 : Same H5 (upd H7 s (.lst [.str "never", .str "story"])) := s6.trans (s7.trans (same_upd ns))
          exact q _ (hB5.same S8) (K5.then S8)
end Ow
set_option Elab.async false
set_option linter.all false
set_option maxRecDepth 100000
set_option maxHeartbeats 4000000
namespace Ow
open PySem PySem.Spec PyProof.Rows L2 OwR OwM
theorem turn_ix {v : Nat} (hv : v < 2) : ∃ k : Int, (k = 1 ∨ k = -1) ∧ [V.int 1, V.int (-1)][v]? = some (.int k) := by
  match v, hv with
  | 0, _ => exact ⟨1, .inl rfl, rfl⟩
  | 1, _ => exact ⟨-1, .inr rfl, rfl⟩
theorem three_tx {x y z : OwM.Tx} {v : Nat} (hv : v < 3) : ∃ u, (u = x ∨ u = y ∨ u = z) ∧ [sV x, sV y, sV z][v]? = some (sV u) := by
  match v, hv with
  | 0, _ => exact ⟨x, .inl rfl, rfl⟩
  | 1, _ => exact ⟨y, .inr (.inl rfl), rfl⟩
  | 2, _ => exact ⟨z, .inr (.inr rfl), rfl⟩
theorem okLaw {P : Program} {w : World} {K : PySem.W.Frag} {mg : PySem.Str → Option Value} {base : Heap} {k : Nat} (T : Tx0 K mg) : FnG P w K mg base (k + 8) T.dLaw.f T.dLaw.fd ["_law_script"] (spLaw K) := by
  refine fnG_of T.dLaw.F scLaw (fun vs H Q E h => ?len) (fun cdv A outer s H vs Q hr hgd h => ?run)
  case len =>
    obtain ⟨_, _, rfl, _⟩ := h
    rfl
  case run =>
    obtain ⟨a, ns, rfl, h⟩ := h
    refine ⟨_, (pss_cons (ps_set (i := 1) scLaw.nd rfl (.inl rfl) (pe_call (okLawBag T) hr (by rfl) T.dLawBag.g T.dLawBag.F.kp T.dLawBag.b .nil pass0 (pa_cons (pv 0) pa_nil)))
      (pss_cons (ps_for PassesOwn.never rfl (pi_range1 (by rfl) T.m_range (pa_cons pe_int pa_nil)) (pg_name (i := 2) scLaw.nd rfl (.inl rfl))
        (pss_cons (ps_asg (pe_call (okLawWish T) hr (by rfl) T.dLawWish.g T.dLawWish.F.kp T.dLawWish.b .nil pass0 (pa_cons (pv 1) pa_nil)) (pg_tup (by rfl) (pgs_cons (pg_name (i := 3) scLaw.nd rfl (.inl rfl)) (pgs_cons (pg_name (i := 4) scLaw.nd rfl (.inl rfl)) pgs_nil))))
        (pss_cons (ps_if (PW.pt (pw_and (pt_cmpR op_eq (pv 2) pe_int (nomark _)) (pw_and1 (pt_cmpR op_eq (pe_call (okLawTake T) hr (by rfl) T.dLawTake.g T.dLawTake.F.kp T.dLawTake.b .nil pass0 (pa_cons (pv 1) (pa_cons pe_int pa_nil))) pe_int (nomark _)))))
          (pss_cons (ps_set (i := 3) scLaw.nd rfl (.inl rfl) (pe_call (okLawRow T) hr (by rfl) T.dLawRow.g T.dLawRow.F.kp T.dLawRow.b .nil pass0 (pa_cons (pv 1) (pa_cons pe_int pa_nil))))
          (pss_one (ps_set (i := 4) scLaw.nd rfl (.inl rfl) (pe_ix ix_list (pe_lst (pa_cons (pe_op op_mul_str (pe_ix ix_str (pv 3) pe_int (fun _ _ => rfl)) pe_int) (pa_cons (pe_op op_mul_str (pe_ix ix_str (pv 3) pe_int (fun _ _ => rfl)) pe_int) (pa_cons (pe_slice sl_str (pe_op op_mul_str (pv 3) pe_int) po_none (po_some pe_int)) pa_nil)))) (pe_call (okLawTake T) hr (by rfl) T.dLawTake.g T.dLawTake.F.kp T.dLawTake.b .nil pass0 (pa_cons (pv 1) (pa_cons pe_int pa_nil))) (fun _ _ => rfl)))))
          pss_nil)
        (pss_one (ps_if (pt_not (pt_val (pe_callG (okLawRight T) hr hgd (by rfl) T.dLawRight.g T.dLawRight.F.kp T.dLawRight.b (pa_cons (pv 1) (pa_cons (pv 3) (pa_cons (pe_step (pv 4) (pe_ix ix_list (pe_lst (pa_cons pe_int (pa_cons (pe_un un_neg pe_int) pa_nil))) (pe_call (okLawTake T) hr (by rfl) T.dLawTake.g T.dLawTake.F.kp T.dLawTake.b .nil pass0 (pa_cons (pv 1) (pa_cons pe_int pa_nil))) (fun _ _ => rfl))) pa_nil))))))
          (pss_one (ps_ret pe_bl))
          pss_nil)))))
      (pss_one (ps_ret pe_bl)))), ?_⟩
    obtain ⟨hS, hl, q⟩ := h
    refine ⟨.ref a, rfl, a, ns, rfl, hS, hl, fun H1 b bc sm nb nbc hB => ?_⟩
    refine ⟨4, rfl, by decide, by decide, for_rangeN (n := 4) 0 rfl (fun i σ H' => ∃ y2 y3 y4, σ = [some (.ref a), some (.ref b), y2, y3, y4] ∧ BagOk H' b bc) ⟨none, none, none, rfl, hB⟩ (fun i σ H' hi hh => ?_) (fun σ H' hh => ?_)⟩
    · obtain ⟨y2, y3, y4, rfl, hB1⟩ := hh
      refine ⟨.ref b, rfl, b, bc, rfl, hB1, fun H2 q2 r t hro hto hr2 hr100 ht1 ht12 hB2 k2 nq eq => ⟨q2, _, rfl, tup_at eq, rfl, _, [_], rfl, _, [], rfl, rfl, ?_⟩⟩
      dsimp only
      refine seq_rest (fun σ H3 => ∃ r t : OwM.Tx, Lo t ∧ 2 ≤ r.length ∧ r.length ≤ 100 ∧ 1 ≤ t.length ∧ t.length ≤ 12 ∧ σ = [some (.ref a), some (.ref b), some (nV (i + 0)), some (sV r), some (sV t)] ∧ BagOk H3 b bc) (fun σ H3 hh => ?_) (fun R hR => ?_)
      · obtain ⟨r, t, hto, hr2, hr100, ht1, ht12, rfl, hB3⟩ := hh
        refine ⟨.ref b, rfl, sV r, rfl, sV t, rfl, 1, rfl, (by show 2 ≤ sizeLine; decide), fun s ns => ⟨.ref b, rfl, b, bc, 2, rfl, by decide, by decide, hB3.new ns, fun H4 v hv hB4 k4 => ?_⟩⟩
        obtain ⟨kk, hkk, ekk⟩ := turn_ix hv
        have hx : Lo (if kk = 1 then t else t.reverse) ∧ (if kk = 1 then t else t.reverse).length = t.length := by
          split
          · exact ⟨hto, rfl⟩
          · exact ⟨hto.rev, List.length_reverse⟩
        refine ⟨s, _, v, _, rfl, rfl, same_at (k4.at (hB3.free ns).1.symm upd_same), atI_nat ekk, t, kk, rfl, rfl, len_ok (by omega), hkk, b, bc, r, _, rfl, hx.1, hB4, hr2, hr100, by omega, by omega, fun H5 hB5 k5 => ⟨true, rfl, iteF ⟨_, _, _, rfl, hB5⟩⟩⟩
      · refine ⟨nV (i + 0), rfl, rfl, _, rfl, ite2 (fun e => ?_) (fun e => iteF (hR _ _ ⟨r, t, hto, hr2, hr100, ht1, ht12, rfl, hB2⟩))⟩
        refine ⟨.ref b, rfl, b, bc, 12, rfl, by decide, by decide, hB2, fun H3 v hv hB3 k3 => ⟨rfl, _, rfl, ite2 (fun e => ?_) (fun e => hR _ _ ⟨r, t, hto, hr2, hr100, ht1, ht12, rfl, hB3⟩)⟩⟩
        refine ⟨.ref b, rfl, b, bc, 2, rfl, Nat.le_refl _, by decide, hB3, fun H4 w hwo hw2 hwm hB4 k4 => ?_⟩
        obtain ⟨c0, e0, hc0⟩ := get_mem (t := w) (i := 0) (by omega)
        obtain ⟨c1, e1, hc1⟩ := get_mem (t := w) (i := 1) (by omega)
        refine ⟨sV w, rfl, tS w, 0, c0, rfl, rfl, len_ok (by omega), ix_tx e0, [c0], 12, rfl, rfl, (by show 1 ≤ 100000; decide), by decide, (by show 1 * 12 ≤ sizeLine; decide), sV w, rfl, tS w, 1, c1, rfl, rfl, len_ok (by omega), ix_tx e1, [c1], 12, rfl, rfl, (by show 1 ≤ 100000; decide), by decide, (by show 1 * 12 ≤ sizeLine; decide), sV w, rfl, w, 6, rfl, rfl, by omega, by decide, (by have := big_line; omega), 9, rfl, tS _, rfl, len_ok (by rw [rep_len]; omega), (by show 3 ≤ sizeLine; decide), fun s ns => ?_⟩
        dsimp only
        rw [show V.str (cutS (tS (List.replicate 6 w).flatten) none (some 9)) = sV ((List.replicate 6 w).flatten.take 9) from cutE_to _ 9]
        refine ⟨.ref b, rfl, b, bc, 3, rfl, by decide, by decide, hB4.new ns, fun H5 v5 hv5 hB5 k5 => ?_⟩
        obtain ⟨u, hu, eu⟩ := three_tx (x := (List.replicate 12 [c0]).flatten) (y := (List.replicate 12 [c1]).flatten) (z := (List.replicate 6 w).flatten.take 9) hv5
        have hu2 : Lo u ∧ 1 ≤ u.length ∧ u.length ≤ 12 := by
          rcases hu with rfl | rfl | rfl
          · refine ⟨(Lo.one (hwo c0 hc0)).rep _, ?_⟩
            rw [rep_len]
            rw [List.length_singleton]
            exact ⟨by decide, by decide⟩
          · refine ⟨(Lo.one (hwo c1 hc1)).rep _, ?_⟩
            rw [rep_len]
            rw [List.length_singleton]
            exact ⟨by decide, by decide⟩
          · refine ⟨(hwo.rep _).take _, ?_⟩
            rw [List.length_take, rep_len]
            omega
        exact ⟨s, _, v5, _, rfl, rfl, same_at (k5.at (hB4.free ns).1.symm upd_same), atI_nat eu, hR _ _ ⟨w, u, hu2.1, hw2, by omega, hu2.2.1, hu2.2.2, rfl, hB5⟩⟩
    · obtain ⟨y2, y3, y4, rfl, hB1⟩ := hh
      exact q H'
end Ow
namespace Ow
open PySem PySem.Spec PyProof.Rows L2 OwR OwM
theorem ok_law {P : Program} {w : World} {K : PySem.W.Frag} {mg : PySem.Str → Option Value} {base : Heap} (T : Tx0 K mg) : FnG P w K mg base 12 T.dLaw.f T.dLaw.fd ["_law_script"] (spLaw K) := okLaw (k := 4) T
end Ow
set_option Elab.async false
set_option linter.all false
set_option maxRecDepth 100000
set_option maxHeartbeats 0
open PySem PySem.W PySem.Calls PyProof.Rows
theorem PySem.Challenge.cw_ownlog_k84_whole_texts_that_end_holds : PySem.Challenge.rw_ownlog_k84_whole_texts_that_end.Holds := by
  w_on; o_law
  refine HandSHeadRun.head_any (r := Ow.R0) (q := view Ow.R0.prog [46]) (H := Ow.hk) (ob := Ow.ob) (M := 4000) (loose := Ow.loose) (d := HandSHeadRun.topDef Ow.R0.prog 46) (kwd := []) Ow.ob_eq
    (by kernel_rfl) (fun s => by kernel_rfl) Ow.run (by kernel_rfl) (by kernel_rfl) (by kernel_rfl) (by rfl) (by first | assumption | decide +kernel) (by decide +kernel) ⟨rfl, rfl, rfl, rfl, rfl, by decide +kernel⟩ ?hw ?hc
  case hw => w_witness2
  case hc =>
    refine OwR.walk_ofG (l := PySem.Challenge.rw_ownlog_k84_whole_texts_that_end) (n := 63) (k := 12) (x := "_law_script") rfl (by decide) (by kernel_rfl) ⟨rfl, by decide, by decide⟩ ?F
    intro w mg fa h Y G hmg0
    obtain ⟨K, KX, c⟩ := Y
    have hmg : mg ("law" : PySem.Str) = some (.ref fa) := by
      have e : (HandSHeadRun.topDef Ow.R0.prog 46).name = ("law" : PySem.Str) := by kernel_rfl
      rw [← e]
      exact hmg0
    obtain ⟨T⟩ := Ow.tx_of KX G c
    have ef : T.dLaw.f = fa := by
      have z := T.dLaw.g.symm.trans hmg
      cases z
      rfl
    refine ⟨K, T.dLaw.fd, Ow.spLaw K, KX, fun s v => ?_, fun H a ns hl _ hS => ⟨a, ns, rfl, hS, hl, fun _ => rfl⟩, fun base _ _ => ?_⟩
    · exact Ow.bind_law T s v
    · rw [← ef]
      exact Ow.ok_law T
