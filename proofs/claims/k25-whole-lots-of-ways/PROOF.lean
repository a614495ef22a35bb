import PyProof.Rows.All
import Wide.All
import OpenK.AllK
import Wide.FinOn
import KE.SortData
import KE.DatumOrd
import HandS.ForMost
import HandS.Walk
import HandS.Deep
import HandS.Gcd
import HandS.IsInst
import HandS.Style
import HandS.Conv
import HandS.Zip
import HandS.Evl
import PySem.Challenge.RW_fromplaces_k25_whole_lots_of_ways
set_option Elab.async false
set_option linter.all false
section
set_option autoImplicit false
namespace K25
open List

/-! ### orders -/
structure Strict {α : Type} (lt : α → α → Bool) : Prop where
  irr : ∀ a, lt a a = false
  tr : ∀ a b c, lt a b = true → lt b c = true → lt a c = true
  tot : ∀ a b, a ≠ b → lt a b = true ∨ lt b a = true

def leOf {α : Type} (lt : α → α → Bool) (a b : α) : Bool := !lt b a

section
variable {α : Type} {lt : α → α → Bool}
theorem Strict.asym (S : Strict lt) {a b : α} (h : lt a b = true) : lt b a = false := by
  cases e : lt b a with
  | false => rfl
  | true =>
    have := S.tr a b a h e
    rw [S.irr] at this
    cases this
theorem Strict.le_total (S : Strict lt) (a b : α) : (leOf lt a b || leOf lt b a) = true := by
  unfold leOf
  cases e : lt b a with
  | false => rfl
  | true => rw [S.asym e]; rfl
theorem Strict.le_trans (S : Strict lt) (a b c : α) (h1 : leOf lt a b = true) (h2 : leOf lt b c = true) : leOf lt a c = true := by
  unfold leOf at *
  rw [Bool.not_eq_true'] at *
  cases e : lt c a with
  | false => rfl
  | true =>
    by_cases hb : c = b
    · subst hb; rw [e] at h1; cases h1
    · rcases S.tot c b hb with h | h
      · rw [h] at h2; cases h2
      · have := S.tr b c a h e
        rw [this] at h1; cases h1
theorem Strict.le_anti (S : Strict lt) {a b : α} (h1 : leOf lt a b = true) (h2 : leOf lt b a = true) : a = b := by
  unfold leOf at *
  rw [Bool.not_eq_true'] at *
  by_cases h : a = b
  · exact h
  · rcases S.tot a b h with e | e
    · rw [e] at h2; cases h2
    · rw [e] at h1; cases h1
/-- sorted -/
def sortB (lt : α → α → Bool) (l : List α) : List α := l.mergeSort (leOf lt)
theorem sortB_perm (l : List α) : (sortB lt l).Perm l := mergeSort_perm l _
theorem sortB_sorted (S : Strict lt) (l : List α) : (sortB lt l).Pairwise (fun a b => leOf lt a b = true) := pairwise_mergeSort S.le_trans S.le_total l
theorem sorted_one (S : Strict lt) {l m : List α} (hl : l.Pairwise (fun a b => leOf lt a b = true)) (hm : m.Pairwise (fun a b => leOf lt a b = true)) (p : l.Perm m) : l = m :=
  Perm.eq_of_pairwise (fun _ _ _ _ h1 h2 => S.le_anti h1 h2) hl hm p
theorem sortB_congr (S : Strict lt) {l m : List α} (p : l.Perm m) : sortB lt l = sortB lt m :=
  sorted_one S (sortB_sorted S l) (sortB_sorted S m) ((sortB_perm l).trans (p.trans (sortB_perm m).symm))
theorem sortB_of_sorted (S : Strict lt) {l m : List α} (p : l.Perm m) (hm : m.Pairwise (fun a b => leOf lt a b = true)) : sortB lt l = m :=
  sorted_one S (sortB_sorted S l) hm ((sortB_perm l).trans p)
end

/-- the first difference decides, else the shorter is the less -/
def lexB {α : Type} [DecidableEq α] (lt : α → α → Bool) : List α → List α → Bool
  | [], [] => false
  | [], _ :: _ => true
  | _ :: _, [] => false
  | x :: xs, y :: ys => if x = y then lexB lt xs ys else lt x y

theorem lexB_strict {α : Type} [DecidableEq α] {lt : α → α → Bool} (S : Strict lt) : Strict (lexB lt) where
  irr := by
    intro l
    induction l with
    | nil => rfl
    | cons x xs ih => rw [lexB, if_pos rfl]; exact ih
  tr := by
    intro a
    induction a with
    | nil =>
      intro b c h1 h2
      cases c with
      | nil => cases b <;> cases h2
      | cons z zs => rfl
    | cons x xs ih =>
      intro b c h1 h2
      cases b with
      | nil => cases h1
      | cons y ys =>
        cases c with
        | nil => cases h2
        | cons z zs =>
          rw [lexB] at h1 h2 ⊢
          by_cases hxy : x = y
          · subst hxy
            rw [if_pos rfl] at h1
            by_cases hxz : x = z
            · subst hxz
              rw [if_pos rfl] at h2 ⊢
              exact ih ys zs h1 h2
            · rw [if_neg hxz] at h2 ⊢
              exact h2
          · rw [if_neg hxy] at h1
            by_cases hyz : y = z
            · subst hyz
              rw [if_neg hxy]
              exact h1
            · rw [if_neg hyz] at h2
              have h3 := S.tr x y z h1 h2
              by_cases hxz : x = z
              · subst hxz
                rw [S.irr] at h3
                cases h3
              · rw [if_neg hxz]
                exact h3
  tot := by
    intro a
    induction a with
    | nil =>
      intro b h
      cases b with
      | nil => exact absurd rfl h
      | cons y ys => exact .inl rfl
    | cons x xs ih =>
      intro b h
      cases b with
      | nil => exact .inr rfl
      | cons y ys =>
        rw [lexB, lexB]
        by_cases hxy : x = y
        · subst hxy
          rw [if_pos rfl, if_pos rfl]
          exact ih ys (fun e => h (by rw [e]))
        · rw [if_neg hxy, if_neg (Ne.symm hxy)]
          exact S.tot x y hxy

def ltN (a b : Nat) : Bool := decide (a < b)
theorem ltN_strict : Strict ltN where
  irr a := by simp [ltN]
  tr a b c h1 h2 := by simp [ltN] at *; omega
  tot a b h := by simp [ltN]; omega
abbrev Way := List Nat
abbrev lt1 : Way → Way → Bool := lexB ltN
abbrev lt2 : List Way → List Way → Bool := lexB lt1
theorem s1 : Strict lt1 := lexB_strict ltN_strict
theorem s2 : Strict lt2 := lexB_strict s1

/-! ### what hangs together -/
section
variable {α : Type}
/-- hit lot x: x is next to one of the lot -/
def hit (adj : α → α → Bool) (x : α) (lot : List α) : Bool := lot.any (adj x)
/-- one more item: the lots that it is next to become one -/
def cstep (adj : α → α → Bool) (post : List α → List α) (lots : List (List α)) (x : α) : List (List α) :=
  lots.filter (fun lot => !hit adj x lot) ++ [post ((lots.filter (hit adj x)).flatten ++ [x])]
def comps (adj : α → α → Bool) (post : List α → List α) (xs : List α) : List (List α) := xs.foldl (cstep adj post) []

/-- a and b hang together within U -/
inductive Conn (adj : α → α → Bool) (U : List α) : α → α → Prop
  | refl (a : α) : Conn adj U a a
  | step {a b c : α} : Conn adj U a b → b ∈ U → c ∈ U → adj b c = true → Conn adj U a c
theorem Conn.trans {adj : α → α → Bool} {U : List α} {a b c : α} (h1 : Conn adj U a b) (h2 : Conn adj U b c) : Conn adj U a c := by
  induction h2 with
  | refl => exact h1
  | step _ hb hc e ih => exact .step ih hb hc e
theorem Conn.one {adj : α → α → Bool} {U : List α} {a b : α} (ha : a ∈ U) (hb : b ∈ U) (e : adj a b = true) : Conn adj U a b := .step (.refl a) ha hb e
theorem Conn.symm {adj : α → α → Bool} (sy : ∀ a b, adj a b = adj b a) {U : List α} {a b : α} (h : Conn adj U a b) : Conn adj U b a := by
  induction h with
  | refl => exact .refl _
  | step _ hb hc e ih => exact (Conn.one hc hb (by rw [sy]; exact e)).trans ih
theorem Conn.mono {adj : α → α → Bool} {U U' : List α} (h : ∀ x ∈ U, x ∈ U') {a b : α} (c : Conn adj U a b) : Conn adj U' a b := by
  induction c with
  | refl => exact .refl _
  | step _ hb hc e ih => exact .step ih (h _ hb) (h _ hc) e

/-- the lots of U -/
structure IsLots (adj : α → α → Bool) (U : List α) (L : List (List α)) : Prop where
  perm : L.flatten.Perm U
  ne : ∀ l ∈ L, l ≠ []
  apart : L.Pairwise (fun l m => ∀ a ∈ l, ∀ b ∈ m, adj a b = false)
  conn : ∀ l ∈ L, ∀ a ∈ l, ∀ b ∈ l, Conn adj U a b

theorem flatten_filter_perm {β : Type} (p : List β → Bool) : ∀ L : List (List β), ((L.filter (fun l => !p l)).flatten ++ (L.filter p).flatten).Perm L.flatten
  | [] => by simp
  | l :: L => by
    have ih := flatten_filter_perm p L
    by_cases h : p l = true
    · rw [List.filter_cons_of_neg (by simp [h]), List.filter_cons_of_pos h, List.flatten_cons, List.flatten_cons]
      refine Perm.trans ?_ (Perm.append_left l ih)
      rw [← List.append_assoc, ← List.append_assoc]
      exact Perm.append_right _ perm_append_comm
    · have h' : (!p l) = true := by simpa using h
      rw [List.filter_cons_of_pos (p := fun l => !p l) h', List.filter_cons_of_neg h, List.flatten_cons, List.flatten_cons, List.append_assoc]
      exact Perm.append_left l ih

theorem pw_of {R : List α → List α → Prop} (sy : ∀ l m, R l m → R m l) : ∀ {L : List (List α)}, L.Pairwise R → ∀ {l m : List α}, l ∈ L → m ∈ L → l ≠ m → R l m
  | [], _, _, _, hl, _, _ => absurd hl (by simp)
  | k :: L, h, l, m, hl, hm, ne => by
    obtain ⟨h1, h2⟩ := List.pairwise_cons.mp h
    rcases List.mem_cons.mp hl with rfl | hl
    · rcases List.mem_cons.mp hm with e | hm
      · exact absurd e.symm ne
      · exact h1 _ hm
    · rcases List.mem_cons.mp hm with e | hm
      · rw [e]; exact sy _ _ (h1 _ hl)
      · exact pw_of sy h2 hl hm ne
theorem IsLots.apart' {adj : α → α → Bool} (sy : ∀ a b, adj a b = adj b a) {U : List α} {L : List (List α)} (h : IsLots adj U L) {l m : List α} (hl : l ∈ L) (hm : m ∈ L) (ne : l ≠ m) {a b : α} (ha : a ∈ l) (hb : b ∈ m) : adj a b = false :=
  pw_of (R := fun l m => ∀ a ∈ l, ∀ b ∈ m, adj a b = false) (fun l m h a ha b hb => by rw [sy]; exact h b hb a ha) h.apart hl hm ne a ha b hb

theorem cstep_lots {adj : α → α → Bool} (sy : ∀ a b, adj a b = adj b a) {post : List α → List α} (hp : ∀ l, (post l).Perm l) {U : List α} {L : List (List α)} {x : α} (h : IsLots adj U L) :
    IsLots adj (U ++ [x]) (cstep adj post L x) := by
  have hU : ∀ y ∈ U, y ∈ U ++ [x] := fun y hy => List.mem_append_left _ hy
  have hxU : x ∈ U ++ [x] := List.mem_append_right _ (List.mem_singleton.mpr rfl)
  have hmem : ∀ l ∈ L, ∀ a ∈ l, a ∈ U := fun l hl a ha => h.perm.mem_iff.mp (List.mem_flatten.mpr ⟨l, hl, ha⟩)
  refine ⟨?_, ?_, ?_, ?_⟩
  · unfold cstep
    rw [List.flatten_append]
    have e1 : ([post ((L.filter (hit adj x)).flatten ++ [x])].flatten).Perm ((L.filter (hit adj x)).flatten ++ [x]) := by
      rw [List.flatten_cons, List.flatten_nil, List.append_nil]
      exact hp _
    refine (Perm.append_left _ e1).trans ?_
    rw [← List.append_assoc]
    exact Perm.append_right _ ((flatten_filter_perm (hit adj x) L).trans h.perm)
  · intro l hl
    rcases List.mem_append.mp hl with hl | hl
    · exact h.ne l (List.mem_filter.mp hl).1
    · rw [List.mem_singleton.mp hl]
      intro e
      have := (hp ((L.filter (hit adj x)).flatten ++ [x])).length_eq
      rw [e] at this
      simp at this
  · unfold cstep
    refine List.pairwise_append.mpr ⟨h.apart.filter _, List.pairwise_singleton _ _, ?_⟩
    intro l hl m hm a ha b hb
    rw [List.mem_singleton.mp hm] at hb
    have hl' := List.mem_filter.mp hl
    have hno : ∀ a ∈ l, adj x a = false := by
      intro a ha
      have q : hit adj x l = false := by simpa using hl'.2
      unfold hit at q
      rw [List.any_eq_false] at q
      simpa using q a ha
    rcases List.mem_append.mp ((hp _).mem_iff.mp hb) with hb | hb
    · obtain ⟨m', hm', hb'⟩ := List.mem_flatten.mp hb
      have hm2 := List.mem_filter.mp hm'
      have ne : l ≠ m' := by
        rintro rfl
        have := hl'.2
        rw [hm2.2] at this
        cases this
      exact h.apart' sy hl'.1 hm2.1 ne ha hb'
    · rw [List.mem_singleton.mp hb, sy]
      exact hno a ha
  · intro l hl a ha b hb
    rcases List.mem_append.mp hl with hl | hl
    · exact (h.conn l (List.mem_filter.mp hl).1 a ha b hb).mono hU
    · rw [List.mem_singleton.mp hl] at ha hb
      have tox : ∀ c, c ∈ post ((L.filter (hit adj x)).flatten ++ [x]) → Conn adj (U ++ [x]) c x := by
        intro c hc
        rcases List.mem_append.mp ((hp _).mem_iff.mp hc) with hc | hc
        · obtain ⟨m, hm, hcm⟩ := List.mem_flatten.mp hc
          have hm2 := List.mem_filter.mp hm
          obtain ⟨d, hd, hxd⟩ := List.any_eq_true.mp (show m.any (adj x) = true from hm2.2)
          have c1 : Conn adj (U ++ [x]) c d := (h.conn m hm2.1 c hcm d hd).mono hU
          exact .step c1 (hU _ (hmem m hm2.1 d hd)) hxU (by rw [sy]; exact hxd)
        · rw [List.mem_singleton.mp hc]
          exact .refl _
      exact (tox a ha).trans ((tox b hb).symm sy)
theorem IsLots.nil {adj : α → α → Bool} : IsLots adj [] ([] : List (List α)) := ⟨by simp, by simp, .nil, by simp⟩
theorem fold_lots {adj : α → α → Bool} (sy : ∀ a b, adj a b = adj b a) {post : List α → List α} (hp : ∀ l, (post l).Perm l) : ∀ (xs : List α) {U : List α} {L : List (List α)}, IsLots adj U L → IsLots adj (U ++ xs) (xs.foldl (cstep adj post) L)
  | [], U, L, h => by rw [List.append_nil]; exact h
  | x :: xs, U, L, h => by
    have := fold_lots sy hp xs (cstep_lots sy hp (x := x) h)
    rw [List.append_assoc] at this
    exact this
theorem comps_lots {adj : α → α → Bool} (sy : ∀ a b, adj a b = adj b a) {post : List α → List α} (hp : ∀ l, (post l).Perm l) (xs : List α) : IsLots adj xs (comps adj post xs) := fold_lots sy hp xs .nil
/-- in another sequence -/
theorem IsLots.of_perm {adj : α → α → Bool} (sy : ∀ a b, adj a b = adj b a) {U V : List α} {L M : List (List α)} (h : IsLots adj U L) (p : L.Perm M) (q : U.Perm V) : IsLots adj V M where
  perm := (p.flatten.symm.trans h.perm).trans q
  ne l hl := h.ne l (p.mem_iff.mpr hl)
  apart := h.apart.perm p fun {x y} r a ha b hb => by rw [sy]; exact r b hb a ha
  conn l hl a ha b hb := (h.conn l (p.mem_iff.mpr hl) a ha b hb).mono fun x hx => q.mem_iff.mp hx

theorem IsLots.lot_of {adj : α → α → Bool} {U : List α} {L : List (List α)} (h : IsLots adj U L) {a : α} (ha : a ∈ U) : ∃ l ∈ L, a ∈ l := by
  obtain ⟨l, hl, hal⟩ := List.mem_flatten.mp (h.perm.mem_iff.mpr ha)
  exact ⟨l, hl, hal⟩
theorem IsLots.mem {adj : α → α → Bool} {U : List α} {L : List (List α)} (h : IsLots adj U L) {l : List α} (hl : l ∈ L) {a : α} (ha : a ∈ l) : a ∈ U := h.perm.mem_iff.mp (List.mem_flatten.mpr ⟨l, hl, ha⟩)
/-- what hangs together lies in one lot -/
theorem IsLots.stay {adj : α → α → Bool} (sy : ∀ a b, adj a b = adj b a) {U : List α} {L : List (List α)} (h : IsLots adj U L) {l : List α} (hl : l ∈ L) {a b : α} (ha : a ∈ l) (c : Conn adj U a b) : b ∈ l := by
  induction c with
  | refl => exact ha
  | @step b c _ hb hc e ih =>
    obtain ⟨m, hm, hcm⟩ := h.lot_of hc
    by_cases ne : l = m
    · subst ne; exact hcm
    · have := h.apart' sy hl hm ne ih hcm
      rw [this] at e
      cases e
theorem IsLots.nodupL {adj : α → α → Bool} {U : List α} (hU : U.Nodup) {L : List (List α)} (h : IsLots adj U L) : L.Nodup ∧ ∀ l ∈ L, l.Nodup := by
  have hf : L.flatten.Nodup := h.perm.nodup_iff.mpr hU
  have h0 := List.pairwise_flatten.mp hf
  refine ⟨h0.2.imp_of_mem fun {l m} hl hm d e => ?_, h0.1⟩
  obtain ⟨a, ha⟩ := List.exists_mem_of_ne_nil l (h.ne l hl)
  exact d a ha a (by rw [← e]; exact ha) rfl
/-- one lot at most: all hangs together -/
theorem IsLots.one {adj : α → α → Bool} (sy : ∀ a b, adj a b = adj b a) {U : List α} {L : List (List α)} (h : IsLots adj U L) (hU : U.Nodup) : L.length ≤ 1 ↔ ∀ a ∈ U, ∀ b ∈ U, Conn adj U a b := by
  constructor
  · intro hl a ha b hb
    obtain ⟨l, hlL, hal⟩ := h.lot_of ha
    obtain ⟨m, hmL, hbm⟩ := h.lot_of hb
    have e : l = m := by
      match L, hl, hlL, hmL with
      | [k], _, h1, h2 => rw [List.mem_singleton.mp h1, List.mem_singleton.mp h2]
      | [], _, h1, _ => exact absurd h1 (by simp)
      | _ :: _ :: _, h0, _, _ => simp at h0
    subst e
    exact h.conn l hlL a hal b hbm
  · intro hc
    match L, h with
    | [], _ => simp
    | [_], _ => simp
    | l :: m :: L, h =>
      exfalso
      have hnd := (h.nodupL hU).1
      have ne : l ≠ m := by
        intro e
        rw [e] at hnd
        exact (List.nodup_cons.mp hnd).1 (List.mem_cons_self)
      have hl : l ∈ l :: m :: L := List.mem_cons_self
      have hm : m ∈ l :: m :: L := List.mem_cons_of_mem _ List.mem_cons_self
      obtain ⟨a, ha⟩ := List.exists_mem_of_ne_nil l (h.ne l hl)
      obtain ⟨b, hb⟩ := List.exists_mem_of_ne_nil m (h.ne m hm)
      have hbl : b ∈ l := h.stay sy hl ha (hc a (h.mem hl ha) b (h.mem hm hb))
      have hf : (l :: m :: L).flatten.Nodup := h.perm.nodup_iff.mpr hU
      rw [List.flatten_cons, List.nodup_append] at hf
      exact hf.2.2 b hbl b (List.mem_flatten.mpr ⟨m, List.mem_cons_self, hb⟩) rfl
/-- sorted, there is one list of the lots -/
theorem lots_one {lta : α → α → Bool} {ltl : List α → List α → Bool} (Sa : Strict lta) (Sl : Strict ltl) {adj : α → α → Bool} (sy : ∀ a b, adj a b = adj b a) {U V : List α} (hU : U.Nodup) (p : U.Perm V) {L M : List (List α)} (h : IsLots adj U L) (k : IsLots adj V M)
    (hl : ∀ l ∈ L, l.Pairwise (fun a b => leOf lta a b = true)) (hm : ∀ l ∈ M, l.Pairwise (fun a b => leOf lta a b = true)) (hL : L.Pairwise (fun a b => leOf ltl a b = true)) (hM : M.Pairwise (fun a b => leOf ltl a b = true)) : L = M := by
  have hV : V.Nodup := p.nodup_iff.mp hU
  have k' : IsLots adj U M := k.of_perm sy (Perm.refl _) p.symm
  have key : ∀ {L M : List (List α)}, IsLots adj U L → IsLots adj U M → (∀ l ∈ L, l.Pairwise (fun a b => leOf lta a b = true)) → (∀ l ∈ M, l.Pairwise (fun a b => leOf lta a b = true)) → ∀ l ∈ L, l ∈ M := by
    intro L M h k hl hm l hlL
    obtain ⟨a, ha⟩ := List.exists_mem_of_ne_nil l (h.ne l hlL)
    obtain ⟨m, hmM, ham⟩ := k.lot_of (h.mem hlL ha)
    have e : l = m := by
      refine sorted_one Sa (hl l hlL) (hm m hmM) ((List.perm_ext_iff_of_nodup ((h.nodupL hU).2 l hlL) ((k.nodupL hU).2 m hmM)).mpr fun b => ⟨fun hb => ?_, fun hb => ?_⟩)
      · exact k.stay sy hmM ham (h.conn l hlL a ha b hb)
      · exact h.stay sy hlL ha (k.conn m hmM a ham b hb)
    rw [e]; exact hmM
  refine sorted_one Sl hL hM ((List.perm_ext_iff_of_nodup (h.nodupL hU).1 (k'.nodupL hU).1).mpr fun l => ⟨key h k' hl hm l, key k' h hm hl l⟩)
end
end K25
namespace K25
open List

/-! ### ways -/
def dot : Way → List Nat → Nat
  | a :: as, c :: cs => a * c + dot as cs
  | _, _ => 0
def waysF : List Nat → Nat → List Way
  | [], n => if n = 0 then [[]] else []
  | c :: cs, n => (List.range (n / c + 1)).flatMap fun f => (waysF cs (n - f * c)).map (f :: ·)
abbrev Posi (cs : List Nat) : Prop := ∀ c ∈ cs, 0 < c

theorem mem_waysF : ∀ {cs : List Nat} {n : Nat} {w : Way}, Posi cs → (w ∈ waysF cs n ↔ w.length = cs.length ∧ dot w cs = n)
  | [], n, w, _ => by
    unfold waysF
    by_cases h : n = 0
    · subst h
      rw [if_pos rfl, List.mem_singleton]
      cases w with
      | nil => simp [dot]
      | cons a w => simp
    · rw [if_neg h]
      cases w with
      | nil => simp [dot]; omega
      | cons a w => simp
  | c :: cs, n, w, hp => by
    have hc : 0 < c := hp c List.mem_cons_self
    have hp' : Posi cs := fun d hd => hp d (List.mem_cons_of_mem _ hd)
    unfold waysF
    rw [List.mem_flatMap]
    constructor
    · rintro ⟨f, hf, hw⟩
      obtain ⟨r, hr, rfl⟩ := List.mem_map.mp hw
      obtain ⟨h1, h2⟩ := (mem_waysF hp').mp hr
      have hf' : f ≤ n / c := Nat.lt_succ_iff.mp (List.mem_range.mp hf)
      have := (Nat.le_div_iff_mul_le hc).mp hf'
      refine ⟨by simp [h1], ?_⟩
      show f * c + dot r cs = n
      omega
    · rintro ⟨h1, h2⟩
      cases w with
      | nil => simp at h1
      | cons f r =>
        have h2' : f * c + dot r cs = n := h2
        have hf : f ≤ n / c := (Nat.le_div_iff_mul_le hc).mpr (by omega)
        refine ⟨f, List.mem_range.mpr (by omega), List.mem_map.mpr ⟨r, (mem_waysF hp').mpr ⟨by simpa using h1, by omega⟩, rfl⟩⟩
theorem waysF_sorted : ∀ (cs : List Nat) (n : Nat), (waysF cs n).Pairwise (fun a b => lt1 a b = true)
  | [], n => by
    unfold waysF
    split
    · exact List.pairwise_singleton _ _
    · exact .nil
  | c :: cs, n => by
    unfold waysF
    rw [List.pairwise_flatMap]
    refine ⟨fun f _ => ?_, ?_⟩
    · rw [List.pairwise_map]
      refine (waysF_sorted cs (n - f * c)).imp fun {a b} h => ?_
      show lexB ltN (f :: a) (f :: b) = true
      rw [lexB, if_pos rfl]
      exact h
    · refine List.pairwise_lt_range.imp fun {f g} h x hx y hy => ?_
      obtain ⟨a, _, rfl⟩ := List.mem_map.mp hx
      obtain ⟨b, _, rfl⟩ := List.mem_map.mp hy
      show lexB ltN (f :: a) (g :: b) = true
      rw [lexB, if_neg (by omega)]
      simp [ltN, h]
theorem waysF_le (cs : List Nat) (n : Nat) : (waysF cs n).Pairwise (fun a b => leOf lt1 a b = true) :=
  (waysF_sorted cs n).imp fun {a b} h => by unfold leOf; rw [s1.asym h]; rfl
theorem waysF_nodup (cs : List Nat) (n : Nat) : (waysF cs n).Nodup :=
  (waysF_sorted cs n).imp fun {a b} h e => by subst e; rw [s1.irr] at h; cases h
theorem waysF_one {c n : Nat} (hc : 0 < c) : waysF [c] n = if n / c * c = n then [[n / c]] else [] := by
  have hp : Posi [c] := by intro d hd; rw [List.mem_singleton.mp hd]; exact hc
  have e : (waysF [c] n).Perm (if n / c * c = n then [[n / c]] else []) := by
    refine (List.perm_ext_iff_of_nodup (waysF_nodup _ _) (by split <;> simp)).mpr fun w => ?_
    rw [mem_waysF hp]
    constructor
    · rintro ⟨h1, h2⟩
      match w, h1 with
      | [a], _ =>
        have h3 : a * c = n := by simpa [dot] using h2
        have h4 : n / c = a := by rw [← h3]; exact Nat.mul_div_cancel _ hc
        rw [h4, if_pos h3]
        simp
    · intro h
      by_cases q : n / c * c = n
      · rw [if_pos q] at h
        rw [List.mem_singleton.mp h]
        exact ⟨rfl, by simp [dot, q]⟩
      · rw [if_neg q] at h
        exact absurd h (by simp)
  split at e
  · rename_i h; rw [if_pos h]; exact List.perm_singleton.mp e
  · rename_i h; rw [if_neg h]; exact List.perm_nil.mp e

/-! ### what is met -/
def metB (cs : List Nat) (n : Nat) : Bool := !(waysF cs n).isEmpty
theorem metB_iff {cs : List Nat} (hp : Posi cs) {n : Nat} : metB cs n = true ↔ ∃ w : Way, w.length = cs.length ∧ dot w cs = n := by
  unfold metB
  constructor
  · intro h
    cases e : waysF cs n with
    | nil => rw [e] at h; cases h
    | cons w l => exact ⟨w, (mem_waysF hp).mp (by rw [e]; exact List.mem_cons_self)⟩
  · rintro ⟨w, h⟩
    have := (mem_waysF hp).mpr h
    cases e : waysF cs n with
    | nil => rw [e] at this; exact absurd this (by simp)
    | cons w l => rfl
theorem waysF_nil_of {cs : List Nat} {n : Nat} (h : metB cs n = false) : waysF cs n = [] := by
  unfold metB at h
  cases e : waysF cs n with
  | nil => rfl
  | cons w l => rw [e] at h; cases h

def bump : Way → Nat → Way
  | [], _ => []
  | a :: as, 0 => (a + 1) :: as
  | a :: as, i + 1 => a :: bump as i
theorem bump_length : ∀ (w : Way) (i : Nat), (bump w i).length = w.length
  | [], _ => rfl
  | _ :: _, 0 => rfl
  | a :: as, i + 1 => congrArg (· + 1) (bump_length as i)
theorem dot_bump : ∀ {w : Way} {cs : List Nat} {i : Nat}, w.length = cs.length → i < cs.length → dot (bump w i) cs = dot w cs + cs.getD i 0
  | [], [], _, _, h => by simp at h
  | a :: as, c :: cs, 0, _, _ => by
    show (a + 1) * c + dot as cs = a * c + dot as cs + c
    rw [Nat.add_mul]; omega
  | a :: as, c :: cs, i + 1, h, hi => by
    have := dot_bump (w := as) (cs := cs) (i := i) (by simpa using h) (by simpa using hi)
    show a * c + dot (bump as i) cs = a * c + dot as cs + (c :: cs).getD (i + 1) 0
    rw [this, List.getD_cons_succ]; omega
theorem bump_self : ∀ {w : Way} {i : Nat}, i < w.length → (bump w i).getD i 0 = w.getD i 0 + 1
  | [], _, h => by simp at h
  | a :: as, 0, _ => by simp [bump]
  | a :: as, i + 1, h => by
    show (a :: bump as i).getD (i + 1) 0 = (a :: as).getD (i + 1) 0 + 1
    rw [List.getD_cons_succ, List.getD_cons_succ]
    exact bump_self (by simpa using h)
theorem bump_ge : ∀ (w : Way) (i j : Nat), w.getD j 0 ≤ (bump w i).getD j 0
  | [], _, _ => Nat.le_refl _
  | a :: as, 0, 0 => by simp [bump]
  | a :: as, 0, j + 1 => by simp [bump]
  | a :: as, i + 1, 0 => by simp [bump]
  | a :: as, i + 1, j + 1 => by
    show (a :: as).getD (j + 1) 0 ≤ (a :: bump as i).getD (j + 1) 0
    rw [List.getD_cons_succ, List.getD_cons_succ]
    exact bump_ge as i j
theorem bump_ne : ∀ (w : Way) (i j : Nat), i ≠ j → (bump w i).getD j 0 = w.getD j 0
  | [], _, _, _ => rfl
  | a :: as, 0, 0, h => absurd rfl h
  | a :: as, 0, j + 1, _ => by simp [bump]
  | a :: as, i + 1, 0, _ => by simp [bump]
  | a :: as, i + 1, j + 1, h => by
    show (a :: bump as i).getD (j + 1) 0 = (a :: as).getD (j + 1) 0
    rw [List.getD_cons_succ, List.getD_cons_succ]
    exact bump_ne as i j (by omega)
theorem unbump : ∀ {w : Way} {i : Nat}, 0 < w.getD i 0 → ∃ v, bump v i = w
  | [], i, h => by simp at h
  | a :: as, 0, h => by
    have h' : 0 < a := by simpa using h
    exact ⟨(a - 1) :: as, by show (a - 1 + 1) :: as = a :: as; rw [Nat.sub_add_cancel h']⟩
  | a :: as, i + 1, h => by
    rw [List.getD_cons_succ] at h
    obtain ⟨v, e⟩ := unbump h
    exact ⟨a :: v, by show a :: bump v i = a :: as; rw [e]⟩
theorem pos_lt {w : Way} {i : Nat} (h : 0 < w.getD i 0) : i < w.length := by
  by_cases q : i < w.length
  · exact q
  · rw [List.getD_eq_getElem?_getD, List.getElem?_eq_none (by omega)] at h; exact absurd h (by simp)
theorem dot_zero : ∀ (w : Way) (cs : List Nat), (∀ i, w.getD i 0 = 0) → dot w cs = 0
  | [], _, _ => by unfold dot; rfl
  | a :: as, [], _ => rfl
  | a :: as, c :: cs, h => by
    have h0 : a = 0 := by simpa using h 0
    have := dot_zero as cs fun i => by simpa using h (i + 1)
    show a * c + dot as cs = 0
    rw [h0, this]; simp
theorem some_pos {w : Way} {cs : List Nat} (h : 0 < dot w cs) : ∃ i, 0 < w.getD i 0 := by
  refine Classical.byContradiction fun q => ?_
  have := dot_zero w cs fun i => by
    have : ¬ 0 < w.getD i 0 := fun z => q ⟨i, z⟩
    omega
  omega
/-- a way that is above 0 at i -/
theorem met_at {cs : List Nat} (hp : Posi cs) {n i : Nat} (hi : i < cs.length) : (cs.getD i 0 ≤ n ∧ metB cs (n - cs.getD i 0) = true) ↔ ∃ w : Way, w.length = cs.length ∧ dot w cs = n ∧ 0 < w.getD i 0 := by
  constructor
  · rintro ⟨h1, h2⟩
    obtain ⟨w, h3, h4⟩ := (metB_iff hp).mp h2
    refine ⟨bump w i, by rw [bump_length, h3], by rw [dot_bump h3 hi, h4]; omega, by rw [bump_self (by omega)]; omega⟩
  · rintro ⟨w, h1, h2, h3⟩
    obtain ⟨v, rfl⟩ := unbump h3
    rw [bump_length] at h1
    rw [dot_bump h1 hi] at h2
    exact ⟨by omega, (metB_iff hp).mpr ⟨v, h1, by omega⟩⟩
/-- a way above 0 at i and at j -/
theorem met_two {cs : List Nat} (hp : Posi cs) {n i j : Nat} (hi : i < cs.length) (hj : j < cs.length) (h1 : cs.getD i 0 + cs.getD j 0 ≤ n) (h2 : metB cs (n - cs.getD i 0 - cs.getD j 0) = true) :
    ∃ w : Way, w.length = cs.length ∧ dot w cs = n ∧ 0 < w.getD i 0 ∧ 0 < w.getD j 0 := by
  obtain ⟨w, h3, h4⟩ := (metB_iff hp).mp h2
  have l1 : (bump w i).length = cs.length := by rw [bump_length, h3]
  refine ⟨bump (bump w i) j, by rw [bump_length, l1], by rw [dot_bump l1 hj, dot_bump h3 hi, h4]; omega, ?_, by rw [bump_self (by omega)]; omega⟩
  have a := bump_ge (bump w i) j i
  rw [bump_self (by omega)] at a
  omega
theorem two_met {cs : List Nat} (hp : Posi cs) {n i j : Nat} (hij : i ≠ j) {w : Way} (h1 : w.length = cs.length) (h2 : dot w cs = n) (h3 : 0 < w.getD i 0) (h4 : 0 < w.getD j 0) : cs.getD i 0 + cs.getD j 0 ≤ n ∧ metB cs (n - cs.getD i 0 - cs.getD j 0) = true := by
  have hi := pos_lt h3
  have hj := pos_lt h4
  obtain ⟨v, rfl⟩ := unbump h3
  rw [bump_ne _ _ _ hij] at h4
  rw [bump_length] at h1 hi hj
  rw [dot_bump h1 (by omega)] at h2
  obtain ⟨u, rfl⟩ := unbump h4
  rw [bump_length] at h1 hi hj
  rw [dot_bump h1 (by omega)] at h2
  exact ⟨by omega, (metB_iff hp).mpr ⟨u, h1, by omega⟩⟩
theorem getD_mem {cs : List Nat} {i : Nat} (h : i < cs.length) : cs.getD i 0 ∈ cs := by
  rw [List.getD_eq_getElem?_getD, List.getElem?_eq_getElem h]
  exact List.getElem_mem h
theorem metB_zero {cs : List Nat} (hp : Posi cs) : metB cs 0 = true := by
  refine (metB_iff hp).mpr ⟨List.replicate cs.length 0, by simp, dot_zero _ _ fun i => ?_⟩
  rw [List.getD_eq_getElem?_getD, List.getElem?_replicate]
  split <;> rfl
theorem metB_rec {cs : List Nat} (hp : Posi cs) {n : Nat} (hn : 0 < n) : metB cs n = cs.any (fun c => decide (c ≤ n) && metB cs (n - c)) := by
  rw [Bool.eq_iff_iff, List.any_eq_true]
  constructor
  · intro h
    obtain ⟨w, h1, h2⟩ := (metB_iff hp).mp h
    obtain ⟨i, hi⟩ := some_pos (w := w) (cs := cs) (by omega)
    have hl := pos_lt hi
    have := (met_at hp (n := n) (i := i) (by omega)).mpr ⟨w, h1, h2, hi⟩
    exact ⟨cs.getD i 0, getD_mem (by omega), by rw [this.2, decide_eq_true this.1]; rfl⟩
  · rintro ⟨c, hc, h⟩
    rw [Bool.and_eq_true, decide_eq_true_eq] at h
    obtain ⟨i, hi, e⟩ := List.mem_iff_getElem.mp hc
    have e' : cs.getD i 0 = c := by rw [List.getD_eq_getElem?_getD, List.getElem?_eq_getElem hi]; exact e
    obtain ⟨w, h1, h2, _⟩ := (met_at hp (n := n) (i := i) hi).mp (by rw [e']; exact h)
    exact (metB_iff hp).mpr ⟨w, h1, h2⟩
theorem dot_add : ∀ {v w : Way} {cs : List Nat}, v.length = cs.length → w.length = cs.length → dot (List.zipWith (· + ·) v w) cs = dot v cs + dot w cs
  | [], [], [], _, _ => rfl
  | [], _ :: _, [], _, h => by simp at h
  | [], _, _ :: _, h, _ => by simp at h
  | _ :: _, _, [], h, _ => by simp at h
  | _ :: _, [], _ :: _, _, h => by simp at h
  | a :: v, b :: w, c :: cs, h1, h2 => by
    have := dot_add (v := v) (w := w) (cs := cs) (by simpa using h1) (by simpa using h2)
    show (a + b) * c + dot (List.zipWith (· + ·) v w) cs = (a * c + dot v cs) + (b * c + dot w cs)
    rw [this, Nat.add_mul]; omega
theorem metB_add {cs : List Nat} (hp : Posi cs) {a b : Nat} (ha : metB cs a = true) (hb : metB cs b = true) : metB cs (a + b) = true := by
  obtain ⟨v, h1, h2⟩ := (metB_iff hp).mp ha
  obtain ⟨w, h3, h4⟩ := (metB_iff hp).mp hb
  exact (metB_iff hp).mpr ⟨List.zipWith (· + ·) v w, by simp [h1, h3], by rw [dot_add h1 h3, h2, h4]⟩
theorem metB_of_mem {cs : List Nat} (hp : Posi cs) {c : Nat} (hc : c ∈ cs) : metB cs c = true := by
  rw [metB_rec hp (hp c hc), List.any_eq_true]
  exact ⟨c, hc, by simp [metB_zero hp]⟩
theorem metB_mul {cs : List Nat} (hp : Posi cs) {c : Nat} (hc : metB cs c = true) : ∀ k : Nat, metB cs (k * c) = true
  | 0 => by rw [Nat.zero_mul]; exact metB_zero hp
  | k + 1 => by rw [Nat.add_mul, Nat.one_mul]; exact metB_add hp (metB_mul hp hc k) hc
end K25
namespace K25
open List

/-! ### neighbours, lots -/
def nbr (w o : Way) : Bool := (w.zip o).any fun p => decide (0 < p.1) && decide (0 < p.2)
theorem nbr_iff : ∀ {w o : Way}, nbr w o = true ↔ ∃ i, 0 < w.getD i 0 ∧ 0 < o.getD i 0
  | [], o => by simp [nbr]
  | a :: w, [] => by simp [nbr]
  | a :: w, b :: o => by
    have ih := nbr_iff (w := w) (o := o)
    have e : nbr (a :: w) (b :: o) = ((decide (0 < a) && decide (0 < b)) || nbr w o) := rfl
    rw [e, Bool.or_eq_true, Bool.and_eq_true, decide_eq_true_eq, decide_eq_true_eq, ih]
    constructor
    · rintro (h | ⟨i, h⟩)
      · exact ⟨0, by simpa using h⟩
      · exact ⟨i + 1, by simpa using h⟩
    · rintro ⟨i, h⟩
      cases i with
      | zero => exact .inl (by simpa using h)
      | succ i => exact .inr ⟨i, by simpa using h⟩
theorem nbr_comm (w o : Way) : nbr w o = nbr o w := by
  rw [Bool.eq_iff_iff, nbr_iff, nbr_iff]
  exact ⟨fun ⟨i, a, b⟩ => ⟨i, b, a⟩, fun ⟨i, a, b⟩ => ⟨i, b, a⟩⟩
def rawLots (W : List Way) : List (List Way) := comps nbr (sortB lt1) W
def lotsOf (W : List Way) : List (List Way) := sortB lt2 (rawLots W)
def lotsF (cs : List Nat) (n : Nat) : List (List Way) := lotsOf (waysF cs n)
theorem rawLots_is (W : List Way) : IsLots nbr W (rawLots W) := comps_lots nbr_comm sortB_perm W
theorem lotsOf_is (W : List Way) : IsLots nbr W (lotsOf W) := (rawLots_is W).of_perm nbr_comm (sortB_perm _).symm (Perm.refl _)
theorem lotsF_is (cs : List Nat) (n : Nat) : IsLots nbr (waysF cs n) (lotsF cs n) := lotsOf_is _
theorem lotsOf_length (W : List Way) : (lotsOf W).length = (rawLots W).length := (sortB_perm _).length_eq
theorem comps_sorted {adj : Way → Way → Bool} : ∀ (W : List Way) (L : List (List Way)), (∀ l ∈ L, l.Pairwise (fun a b => leOf lt1 a b = true)) → ∀ l ∈ W.foldl (cstep adj (sortB lt1)) L, l.Pairwise (fun a b => leOf lt1 a b = true)
  | [], L, h => h
  | w :: W, L, h => comps_sorted W _ fun l hl => by
    rcases List.mem_append.mp hl with hl | hl
    · exact h l (List.mem_filter.mp hl).1
    · rw [List.mem_singleton.mp hl]
      exact sortB_sorted s1 _
theorem lotsOf_sorted (W : List Way) : ∀ l ∈ lotsOf W, l.Pairwise (fun a b => leOf lt1 a b = true) := fun l hl =>
  comps_sorted (adj := nbr) W [] (by simp) l ((sortB_perm _).mem_iff.mp hl)
theorem lotsOf_up (W : List Way) : (lotsOf W).Pairwise (fun a b => leOf lt2 a b = true) := sortB_sorted s2 _
/-- together all ways -/
theorem lots_whole (cs : List Nat) (n : Nat) : sortB lt1 (lotsF cs n).flatten = waysF cs n := sortB_of_sorted s1 (lotsOf_is _).perm (waysF_le cs n)

/-! ### positions -/
def posadj (cs : List Nat) (n i j : Nat) : Bool := decide (cs.getD i 0 + cs.getD j 0 ≤ n) && metB cs (n - cs.getD i 0 - cs.getD j 0)
def ends (cs : List Nat) (n : Nat) : List Nat := (List.range cs.length).filter fun i => decide (cs.getD i 0 ≤ n) && metB cs (n - cs.getD i 0)
def pieces (cs : List Nat) (n : Nat) : List (List Nat) := comps (posadj cs n) id (ends cs n)
theorem posadj_comm (cs : List Nat) (n i j : Nat) : posadj cs n i j = posadj cs n j i := by
  unfold posadj
  rw [Nat.add_comm, Nat.sub_right_comm]
theorem pieces_is (cs : List Nat) (n : Nat) : IsLots (posadj cs n) (ends cs n) (pieces cs n) := comps_lots (posadj_comm cs n) (fun l => Perm.refl l) _
theorem ends_nodup (cs : List Nat) (n : Nat) : (ends cs n).Nodup := nodup_range.filter _
theorem mem_ends {cs : List Nat} (hp : Posi cs) {n i : Nat} : i ∈ ends cs n ↔ ∃ w ∈ waysF cs n, 0 < w.getD i 0 := by
  unfold ends
  rw [List.mem_filter, List.mem_range, Bool.and_eq_true, decide_eq_true_eq]
  constructor
  · rintro ⟨hi, h⟩
    obtain ⟨w, h1, h2, h3⟩ := (met_at hp hi).mp h
    exact ⟨w, (mem_waysF hp).mpr ⟨h1, h2⟩, h3⟩
  · rintro ⟨w, hw, h3⟩
    obtain ⟨h1, h2⟩ := (mem_waysF hp).mp hw
    have hi : i < cs.length := by rw [← h1]; exact pos_lt h3
    exact ⟨hi, (met_at hp hi).mpr ⟨w, h1, h2, h3⟩⟩
theorem posadj_of {cs : List Nat} (hp : Posi cs) {n i j : Nat} {w : Way} (hw : w ∈ waysF cs n) (hi : 0 < w.getD i 0) (hj : 0 < w.getD j 0) : Conn (posadj cs n) (ends cs n) i j := by
  by_cases h : i = j
  · subst h; exact .refl _
  · obtain ⟨h1, h2⟩ := (mem_waysF hp).mp hw
    have q := two_met hp h h1 h2 hi hj
    refine .one ((mem_ends hp).mpr ⟨w, hw, hi⟩) ((mem_ends hp).mpr ⟨w, hw, hj⟩) ?_
    unfold posadj
    rw [decide_eq_true q.1, q.2]; rfl
theorem conn_ways {cs : List Nat} (hp : Posi cs) {n i j : Nat} (c : Conn (posadj cs n) (ends cs n) i j) : ∀ {w o : Way}, w ∈ waysF cs n → o ∈ waysF cs n → 0 < w.getD i 0 → 0 < o.getD j 0 → Conn nbr (waysF cs n) w o := by
  induction c with
  | refl => exact fun hw ho h1 h2 => .one hw ho (nbr_iff.mpr ⟨_, h1, h2⟩)
  | @step b c _ hb hc e ih =>
    intro w o hw ho h1 h2
    have hb' : b < cs.length := List.mem_range.mp (List.mem_filter.mp hb).1
    have hc' : c < cs.length := List.mem_range.mp (List.mem_filter.mp hc).1
    unfold posadj at e
    rw [Bool.and_eq_true, decide_eq_true_eq] at e
    obtain ⟨v, v1, v2, v3, v4⟩ := met_two hp hb' hc' e.1 e.2
    have hv : v ∈ waysF cs n := (mem_waysF hp).mpr ⟨v1, v2⟩
    exact .step (ih hw hv h1 v3) hv ho (nbr_iff.mpr ⟨c, v4, h2⟩)
theorem conn_pos {cs : List Nat} (hp : Posi cs) {n : Nat} {w o : Way} (hw : w ∈ waysF cs n) (c : Conn nbr (waysF cs n) w o) : ∀ {i j : Nat}, 0 < w.getD i 0 → 0 < o.getD j 0 → Conn (posadj cs n) (ends cs n) i j := by
  induction c with
  | refl => exact fun h1 h2 => posadj_of hp hw h1 h2
  | @step v o _ hv ho e ih =>
    intro i j h1 h2
    obtain ⟨k, k1, k2⟩ := nbr_iff.mp e
    exact (ih h1 k1).trans (posadj_of hp ho k2 h2)
theorem lots_pieces {cs : List Nat} (hp : Posi cs) {n : Nat} (hn : 0 < n) : (lotsF cs n).length ≤ 1 ↔ (pieces cs n).length ≤ 1 := by
  rw [(lotsF_is cs n).one nbr_comm (waysF_nodup cs n), (pieces_is cs n).one (posadj_comm cs n) (ends_nodup cs n)]
  constructor
  · intro h i hi j hj
    obtain ⟨w, hw, h1⟩ := (mem_ends hp).mp hi
    obtain ⟨o, ho, h2⟩ := (mem_ends hp).mp hj
    exact conn_pos hp hw (h w hw o ho) h1 h2
  · intro h w hw o ho
    obtain ⟨w1, w2⟩ := (mem_waysF hp).mp hw
    obtain ⟨o1, o2⟩ := (mem_waysF hp).mp ho
    obtain ⟨i, hi⟩ := some_pos (w := w) (cs := cs) (by omega)
    obtain ⟨j, hj⟩ := some_pos (w := o) (cs := cs) (by omega)
    exact conn_ways hp (h i ((mem_ends hp).mpr ⟨w, hw, hi⟩) j ((mem_ends hp).mpr ⟨o, ho, hj⟩)) hw ho hi hj

theorem one_of_small {cs : List Nat} {n : Nat} (h : (waysF cs n).length ≤ 1) : (lotsF cs n).length ≤ 1 := by
  rw [(lotsF_is cs n).one nbr_comm (waysF_nodup cs n)]
  intro a ha b hb
  match waysF cs n, h, ha, hb with
  | [w], _, ha, hb => rw [List.mem_singleton.mp ha, List.mem_singleton.mp hb]; exact .refl _
  | [], _, ha, _ => exact absurd ha (by simp)
  | _ :: _ :: _, h, _, _ => simp at h
theorem waysF_zero : ∀ cs : List Nat, waysF cs 0 = [List.replicate cs.length 0]
  | [] => rfl
  | c :: cs => by
    unfold waysF
    rw [Nat.zero_div]
    show ((List.range 1).flatMap fun f => (waysF cs (0 - f * c)).map (f :: ·)) = _
    rw [show List.range 1 = [0] from rfl, List.flatMap_cons, List.flatMap_nil, Nat.zero_mul, Nat.sub_zero, waysF_zero cs]
    rfl
theorem sort_single {α : Type} {lt : α → α → Bool} (a : α) : sortB lt [a] = [a] := List.perm_singleton.mp (sortB_perm [a])
theorem lotsF_zero (cs : List Nat) : lotsF cs 0 = [[List.replicate cs.length 0]] := by
  unfold lotsF lotsOf
  rw [waysF_zero]
  have : rawLots [List.replicate cs.length 0] = [[List.replicate cs.length 0]] := by
    show [] ++ [sortB lt1 ([] ++ [List.replicate cs.length 0])] = _
    rw [List.nil_append, List.nil_append, sort_single]
  rw [this, sort_single]
theorem one_count {c n : Nat} (hc : 0 < c) : (lotsF [c] n).length ≤ 1 := one_of_small (by rw [waysF_one hc]; split <;> simp)

/-! ### far off -/
/-- what the search for gaps tells: above the last gap told all multiples of g are met -/
def GapOk (cs : List Nat) (g : Nat) (L : List Nat) : Prop := ∀ k, g ∣ k → (∀ x, L.getLast? = some x → x < k) → metB cs k = true
/-- any two positions' counts are at most s -/
def TopTwo (cs : List Nat) (s : Nat) : Prop := ∀ i j, i ≠ j → i < cs.length → j < cs.length → cs.getD i 0 + cs.getD j 0 ≤ s
theorem dot_dvd {g : Nat} : ∀ {w : Way} {cs : List Nat}, (∀ c ∈ cs, g ∣ c) → g ∣ dot w cs
  | [], _, _ => by unfold dot; exact Nat.dvd_zero g
  | _ :: _, [], _ => Nat.dvd_zero g
  | a :: w, c :: cs, h => Nat.dvd_add (Nat.dvd_mul_left_of_dvd (h c List.mem_cons_self) a) (dot_dvd fun d hd => h d (List.mem_cons_of_mem _ hd))
theorem far_one {cs : List Nat} (hp : Posi cs) {g s : Nat} {L : List Nat} (hg : ∀ c ∈ cs, g ∣ c) (G : GapOk cs g L) (T : TopTwo cs s) {n : Nat} (hn : (s : Int) + (match L.getLast? with | some x => (x : Int) | none => 0 - (g : Int)) < n) (h0 : 0 < n) : (lotsF cs n).length ≤ 1 := by
  rw [lots_pieces hp h0, (pieces_is cs n).one (posadj_comm cs n) (ends_nodup cs n)]
  intro i hi j hj
  by_cases e : i = j
  · subst e; exact .refl _
  · have hi' : i < cs.length := List.mem_range.mp (List.mem_filter.mp hi).1
    have hj' : j < cs.length := List.mem_range.mp (List.mem_filter.mp hj).1
    refine .one hi hj ?_
    have t := T i j e hi' hj'
    have di := hg _ (getD_mem hi')
    have dj := hg _ (getD_mem hj')
    obtain ⟨w, hw, _⟩ := (mem_ends hp).mp hi
    have dn : g ∣ n := by
      obtain ⟨_, h2⟩ := (mem_waysF hp).mp hw
      rw [← h2]; exact dot_dvd hg
    generalize hci : cs.getD i 0 = ci at *
    generalize hcj : cs.getD j 0 = cj at *
    have le : ci + cj ≤ n := by
      cases q : L.getLast? with
      | some x => rw [q] at hn; simp only at hn; omega
      | none =>
        rw [q] at hn
        simp only at hn
        refine Classical.byContradiction fun z => ?_
        obtain ⟨m, hm⟩ := Nat.dvd_sub (Nat.dvd_add di dj) dn
        have : ci + cj - n < g := by omega
        have h3 : 0 < ci + cj - n := by omega
        cases m with
        | zero => omega
        | succ m => rw [hm, Nat.mul_succ] at this; omega
    unfold posadj
    rw [hci, hcj, decide_eq_true le, Bool.true_and]
    refine G _ (Nat.dvd_sub (Nat.dvd_sub dn di) dj) fun x hx => ?_
    rw [hx] at hn
    simp only at hn
    omega
end K25
namespace K25
open List

/-! ### the common count; all multiples from some one on are met -/
theorem bez (a b : Nat) : ∃ x y : Int, (a : Int) * x + b * y = (Nat.gcd a b : Nat) := by
  refine Nat.gcd.induction (P := fun a b => ∃ x y : Int, (a : Int) * x + b * y = (Nat.gcd a b : Nat)) a b (fun n => ⟨0, 1, by simp⟩) fun m n hm ⟨x, y, h⟩ => ?_
  rw [← Nat.gcd_rec] at h
  refine ⟨y - ((n / m : Nat) : Int) * x, x, ?_⟩
  rw [← h]
  have e : (n : Int) = (m : Int) * ((n / m : Nat) : Int) + ((n % m : Nat) : Int) := by
    have := Nat.div_add_mod n m
    rw [← Int.natCast_mul, ← Int.natCast_add, this]
  generalize ((n / m : Nat) : Int) = q at *
  generalize ((n % m : Nat) : Int) = r at *
  rw [e, Int.mul_sub, Int.add_mul, Int.mul_assoc]
  omega
def Big (cs : List Nat) (g B : Nat) : Prop := ∀ k, g ∣ k → B ≤ k → metB cs k = true
theorem big_step {cs : List Nat} (hp : Posi cs) {g c B : Nat} (h : Big cs g B) (hg : 0 < g) (hc : metB cs c = true) : Big cs (Nat.gcd g c) (B + c * g) := by
  rintro k ⟨j, hj⟩ hk
  obtain ⟨x, y, e⟩ := bez g c
  have g0 : (0 : Int) < g := by omega
  have a0 := Int.emod_nonneg (y * j) (show (g : Int) ≠ 0 by omega)
  have a1 := Int.emod_lt_of_pos (y * j) g0
  have ed := Int.mul_ediv_add_emod (y * j) g
  generalize hq : (y * j) / (g : Int) = q at ed
  obtain ⟨a, ha⟩ : ∃ a : Nat, (y * j) % (g : Int) = a := ⟨((y * j) % (g : Int)).toNat, by omega⟩
  rw [ha] at a0 a1 ed
  have hag : a < g := by omega
  have hca : c * a ≤ c * g := Nat.mul_le_mul_left c (by omega)
  have hle : c * a ≤ k := by omega
  -- k - c a is a multiple of g
  have hz : ((k - c * a : Nat) : Int) = g * (x * j + c * q) := by
    rw [Int.ofNat_sub hle, hj, Int.natCast_mul, Int.natCast_mul, ← e]
    have e1 : ((g : Int) * x + c * y) * j = g * (x * j) + c * (y * j) := by
      rw [Int.add_mul, Int.mul_assoc, Int.mul_assoc]
    rw [e1, ← ed, Int.mul_add, Int.mul_add, Int.mul_left_comm (c : Int) g q]
    omega
  have hd : g ∣ k - c * a := Int.natCast_dvd_natCast.mp ⟨_, hz⟩
  have m1 := h (k - c * a) hd (by omega)
  have m2 := metB_mul hp hc a
  have := metB_add hp m1 m2
  rw [Nat.mul_comm a c, Nat.sub_add_cancel hle] at this
  exact this
def gcdL (cs : List Nat) : Nat := cs.foldl Nat.gcd 0
theorem fold_dvd : ∀ (ds : List Nat) (g : Nat), ds.foldl Nat.gcd g ∣ g ∧ ∀ d ∈ ds, ds.foldl Nat.gcd g ∣ d
  | [], g => ⟨Nat.dvd_refl g, by simp⟩
  | d :: ds, g => by
    obtain ⟨h1, h2⟩ := fold_dvd ds (Nat.gcd g d)
    refine ⟨Nat.dvd_trans h1 (Nat.gcd_dvd_left g d), fun e he => ?_⟩
    rcases List.mem_cons.mp he with rfl | he
    · exact Nat.dvd_trans h1 (Nat.gcd_dvd_right g e)
    · exact h2 e he
theorem gcdL_dvd (cs : List Nat) : ∀ c ∈ cs, gcdL cs ∣ c := (fold_dvd cs 0).2
theorem gcdL_pos {cs : List Nat} (hp : Posi cs) (hne : cs ≠ []) : 0 < gcdL cs := by
  obtain ⟨c, hc⟩ := List.exists_mem_of_ne_nil cs hne
  exact Nat.pos_of_dvd_of_pos (gcdL_dvd cs c hc) (hp c hc)
theorem big_fold {cs : List Nat} (hp : Posi cs) {M : Nat} : ∀ (ds : List Nat) {g B : Nat}, (∀ d ∈ ds, d ∈ cs) → 0 < g → g ≤ M → Big cs g B → Big cs (ds.foldl Nat.gcd g) (B + ds.sum * M)
  | [], g, B, _, _, _, h => by simpa using h
  | d :: ds, g, B, hd, h0, hM, h => by
    have hdm := hd d List.mem_cons_self
    have hd0 := hp d hdm
    have s := big_step hp h h0 (metB_of_mem hp hdm)
    have g1 : Nat.gcd g d ≤ g := Nat.gcd_le_left d h0
    have r := big_fold hp ds (fun e he => hd e (List.mem_cons_of_mem _ he)) (Nat.gcd_pos_of_pos_left d h0) (Nat.le_trans g1 hM) s
    intro k hk hB
    refine r k hk ?_
    have : d * g ≤ d * M := Nat.mul_le_mul_left d hM
    rw [List.sum_cons, Nat.add_mul] at hB
    omega
theorem big_all {cs : List Nat} (hp : Posi cs) (hne : cs ≠ []) {M : Nat} (hM : ∀ c ∈ cs, c ≤ M) : Big cs (gcdL cs) (cs.sum * M) := by
  match cs, hne with
  | c :: ds, _ =>
    have hc := hp c List.mem_cons_self
    have h0 : Big (c :: ds) c 0 := by
      rintro k ⟨j, rfl⟩ _
      rw [Nat.mul_comm]
      exact metB_mul hp (metB_of_mem hp List.mem_cons_self) j
    have r := big_fold hp (M := M) ds (fun d hd => List.mem_cons_of_mem _ hd) hc (hM c List.mem_cons_self) h0
    have e : gcdL (c :: ds) = ds.foldl Nat.gcd c := by show ds.foldl Nat.gcd (Nat.gcd 0 c) = _; rw [Nat.gcd_zero_left]
    rw [e]
    intro k hk hB
    refine r k hk ?_
    rw [List.sum_cons, Nat.add_mul] at hB
    omega

/-! ### the search for gaps -/
structure GI (cs : List Nat) (g : Nat) (found : List Nat) (row number k t : Nat) : Prop where
  num : number = g * (k + 1)
  row : row = g * (t + 1)
  le : t ≤ k
  run : ∀ j, k < j + t → j ≤ k → metB cs (g * j) = true
  fnd : ∀ j, j ≤ k → metB cs (g * j) = false → ∃ x, found.getLast? = some x ∧ g * j ≤ x
  top : ∀ x ∈ found, x ≤ g * k
  len : found.length ≤ k
  big : ∀ N, (∀ j, N ≤ j → metB cs (g * j) = true) → k ≤ N + t
theorem GI.start {cs : List Nat} (hp : Posi cs) (g : Nat) : GI cs g [] g g 0 0 where
  num := by simp
  row := by simp
  le := Nat.le_refl 0
  run j h1 h2 := by omega
  fnd j h1 h2 := by
    obtain rfl : j = 0 := by omega
    rw [Nat.mul_zero, metB_zero hp] at h2
    cases h2
  top x h := absurd h (by simp)
  len := Nat.le_refl 0
  big N _ := by omega
theorem GI.met {cs : List Nat} {g row number k t : Nat} {found : List Nat} (h : GI cs g found row number k t) (m : metB cs number = true) : GI cs g found (row + g) (number + g) (k + 1) (t + 1) where
  num := by rw [h.num]; exact (Nat.mul_succ g (k + 1)).symm
  row := by rw [h.row]; exact (Nat.mul_succ g (t + 1)).symm
  le := Nat.succ_le_succ h.le
  run j h1 h2 := by
    by_cases e : j = k + 1
    · subst e; rw [← h.num]; exact m
    · exact h.run j (by omega) (by omega)
  fnd j h1 h2 := by
    by_cases e : j = k + 1
    · subst e; rw [← h.num, m] at h2; cases h2
    · exact h.fnd j (by omega) h2
  top x hx := Nat.le_trans (h.top x hx) (Nat.mul_le_mul_left g (by omega))
  len := Nat.le_succ_of_le h.len
  big N hN := by have := h.big N hN; omega
theorem GI.unmet {cs : List Nat} {g row number k t : Nat} {found : List Nat} (h : GI cs g found row number k t) (m : metB cs number = false) : GI cs g (found ++ [number]) g (number + g) (k + 1) 0 where
  num := by rw [h.num]; exact (Nat.mul_succ g (k + 1)).symm
  row := by simp
  le := Nat.zero_le _
  run j h1 h2 := by omega
  fnd j h1 h2 := ⟨number, by simp, by rw [h.num]; exact Nat.mul_le_mul_left g h1⟩
  top x hx := by
    rcases List.mem_append.mp hx with hx | hx
    · exact Nat.le_trans (h.top x hx) (Nat.mul_le_mul_left g (by omega))
    · rw [List.mem_singleton.mp hx, h.num]; exact Nat.le_refl _
  len := by rw [List.length_append]; exact Nat.succ_le_succ h.len
  big N hN := by
    refine Classical.byContradiction fun q => ?_
    have := hN (k + 1) (by omega)
    rw [← h.num, m] at this
    cases this
/-- the loop goes on for some turns alone -/
theorem GI.bound {cs : List Nat} {g row number k t m N : Nat} {found : List Nat} (h : GI cs g found row number k t) (hN : ∀ j, N ≤ j → metB cs (g * j) = true) (hc : row < m + g) (hg : 0 < g) : k < N + m := by
  have h1 := h.big N hN
  have h2 := h.row
  rw [Nat.mul_succ] at h2
  have h3 : t ≤ g * t := Nat.le_mul_of_pos_left t hg
  omega
theorem GI.ok {cs : List Nat} (hp : Posi cs) {g row number k t m : Nat} {found : List Nat} (h : GI cs g found row number k t) (hm : m ∈ cs) (hgm : g ∣ m) (hc : ¬ row < m + g) (hg : 0 < g) : GapOk cs g found := by
  obtain ⟨d, hd⟩ := hgm
  have hdt : d ≤ t := by
    have h2 := h.row
    rw [Nat.mul_succ] at h2
    have : g * d ≤ g * t := by omega
    exact Nat.le_of_mul_le_mul_left this hg
  have m0 := hp m hm
  have d0 : 0 < d := by
    cases d with
    | zero => rw [Nat.mul_zero] at hd; omega
    | succ d => omega
  have up : ∀ j, k < j + t → metB cs (g * j) = true := by
    intro j
    induction j using Nat.strongRecOn with
    | _ j ih =>
      intro hj
      by_cases hk : j ≤ k
      · exact h.run j hj hk
      · have := ih (j - d) (by omega) (by have := h.le; omega)
        have q := metB_add hp this (metB_of_mem hp hm)
        rw [hd, ← Nat.mul_add, Nat.sub_add_cancel (by have := h.le; omega)] at q
        exact q
  rintro x ⟨j, rfl⟩ hx
  by_cases hj : k < j + t
  · exact up j hj
  · cases e : metB cs (g * j) with
    | true => rfl
    | false =>
      obtain ⟨y, h1, h2⟩ := h.fnd j (by omega) e
      have := hx y h1
      omega

/-! ### the two greatest -/
theorem countP_two {α : Type} (p : α → Bool) : ∀ {l : List α} {i j : Nat} {x y : α}, i < j → l[i]? = some x → l[j]? = some y → p x = true → p y = true → 2 ≤ l.countP p
  | [], _, _, _, _, _, h, _, _, _ => by simp at h
  | a :: l, 0, j + 1, x, y, _, hi, hj, px, py => by
    have e : a = x := by simpa using hi
    subst e
    rw [List.countP_cons_of_pos px]
    have : 0 < l.countP p := List.countP_pos_iff.mpr ⟨y, List.mem_of_getElem? (by simpa using hj), py⟩
    omega
  | a :: l, i + 1, j + 1, x, y, h, hi, hj, px, py => by
    have := countP_two p (l := l) (i := i) (j := j) (by omega) (by simpa using hi) (by simpa using hj) px py
    rw [List.countP_cons]; omega
theorem topTwo {cs : List Nat} {l : List Int} (pm : l.Perm (cs.map fun (n : Nat) => (n : Int))) (hs : l.Pairwise (· ≤ ·)) (h2 : 2 ≤ cs.length) :
    ∃ p q : Int, l.drop (l.length - 2) = [p, q] ∧ p ∈ l ∧ q ∈ l ∧ ∀ i j, i ≠ j → i < cs.length → j < cs.length → ((cs.getD i 0 : Nat) : Int) + ((cs.getD j 0 : Nat) : Int) ≤ p + q := by
  have hl : l.length = cs.length := by rw [pm.length_eq, List.length_map]
  have hd : (l.drop (l.length - 2)).length = 2 := by rw [List.length_drop]; omega
  obtain ⟨p, q, e⟩ : ∃ p q, l.drop (l.length - 2) = [p, q] := by
    match l.drop (l.length - 2), hd with
    | [p, q], _ => exact ⟨p, q, rfl⟩
  have e2 : l = l.take (l.length - 2) ++ [p, q] := by rw [← e, List.take_append_drop]
  generalize l.take (l.length - 2) = t at e2
  have hs' := hs
  rw [e2, List.pairwise_append] at hs'
  obtain ⟨_, hpq, hta⟩ := hs'
  have pq : p ≤ q := by simpa using hpq
  have cnt : l.countP (fun x => decide (p < x)) ≤ 1 := by
    rw [e2, List.countP_append]
    have : t.countP (fun x => decide (p < x)) = 0 := by
      rw [List.countP_eq_zero]
      intro x hx
      have := hta x hx p (by simp)
      simp; omega
    rw [this, List.countP_cons_of_neg (by simp)]
    have := List.countP_le_length (p := fun x => decide (p < x)) (l := [q])
    simpa using this
  have allq : ∀ x ∈ l, x ≤ q := by
    intro x hx
    rw [e2] at hx
    rcases List.mem_append.mp hx with hx | hx
    · exact hta x hx q (by simp)
    · rcases List.mem_cons.mp hx with rfl | hx
      · exact pq
      · rw [List.mem_singleton.mp hx]; exact Int.le_refl q
  refine ⟨p, q, e, by rw [e2]; simp, by rw [e2]; simp, ?_⟩
  have key : ∀ i j, i < j → j < cs.length → ((cs.getD i 0 : Nat) : Int) + ((cs.getD j 0 : Nat) : Int) ≤ p + q := by
    intro i j hij hj
    have at_ : ∀ i, i < cs.length → (cs.map fun (n : Nat) => (n : Int))[i]? = some ((cs.getD i 0 : Nat) : Int) := by
      intro i hi
      rw [List.getElem?_map, List.getD_eq_getElem?_getD, List.getElem?_eq_getElem hi]
      rfl
    have qi := allq _ (pm.mem_iff.mpr (List.mem_of_getElem? (at_ i (by omega))))
    have qj := allq _ (pm.mem_iff.mpr (List.mem_of_getElem? (at_ j hj)))
    by_cases h : p < ((cs.getD i 0 : Nat) : Int) ∧ p < ((cs.getD j 0 : Nat) : Int)
    · have := countP_two (fun x => decide (p < x)) hij (at_ i (by omega)) (at_ j hj) (decide_eq_true h.1) (decide_eq_true h.2)
      rw [← pm.countP_eq] at this
      omega
    · omega
  intro i j hij hi hj
  rcases Nat.lt_or_gt_of_ne hij with h | h
  · exact key i j h hj
  · rw [Int.add_comm]; exact key j i h hi

/-! ### how many ways, at most -/
def bnd : Nat → Nat → Nat
  | 0, _ => 1
  | k + 1, 0 => bnd k 0
  | k + 1, q + 1 => bnd k (q + 1) + bnd (k + 1) q
theorem bnd_k : ∀ (k q : Nat), bnd k q ≤ bnd (k + 1) q
  | k, 0 => by rw [bnd]; exact Nat.le_refl _
  | k, q + 1 => by rw [bnd.eq_3]; omega
theorem bnd_q : ∀ (k q : Nat), bnd k q ≤ bnd k (q + 1)
  | 0, q => by rw [bnd, bnd]; exact Nat.le_refl _
  | k + 1, q => by rw [bnd.eq_3]; omega
theorem bnd_qs {k p q : Nat} (h : p ≤ q) : bnd k p ≤ bnd k q := by
  induction h with
  | refl => exact Nat.le_refl _
  | step _ ih => exact Nat.le_trans ih (bnd_q _ _)
theorem bnd_ks {j k q : Nat} (h : j ≤ k) : bnd j q ≤ bnd k q := by
  induction h with
  | refl => exact Nat.le_refl _
  | step _ ih => exact Nat.le_trans ih (bnd_k _ _)
theorem bnd_turn {k c m n a b : Nat} (hm : 0 < m) (hc : m ≤ c) (hn : c ≤ n) (ha : a ≤ bnd k (n / m)) (hb : b ≤ bnd (k + 1) ((n - c) / m)) : a + b ≤ bnd (k + 1) (n / m) := by
  have h1 : 0 < n / m := Nat.div_pos (by omega) hm
  obtain ⟨q, hq⟩ : ∃ q, n / m = q + 1 := ⟨n / m - 1, by omega⟩
  have h2 : (n - c) / m ≤ q := by
    have h3 := Nat.lt_mul_div_succ n hm
    rw [hq, Nat.mul_succ] at h3
    have h4 : (n - c) / m < q + 1 := Nat.div_lt_of_lt_mul (by omega)
    omega
  rw [hq] at ha ⊢
  rw [bnd.eq_3]
  have := bnd_qs (k := k + 1) h2
  omega
theorem bnd_45 : bnd 4 5 = 126 := by simp [bnd]

/-! ### turned about -/
theorem dot_append : ∀ {a : Way} {c : List Nat} {b : Way} {d : List Nat}, a.length = c.length → dot (a ++ b) (c ++ d) = dot a c + dot b d
  | [], [], _, _, _ => by simp [dot]
  | x :: a, y :: c, b, d, h => by
    have := dot_append (a := a) (c := c) (b := b) (d := d) (by simpa using h)
    show x * y + dot (a ++ b) (c ++ d) = x * y + dot a c + dot b d
    omega
  | [], _ :: _, _, _, h => by simp at h
  | _ :: _, [], _, _, h => by simp at h
theorem dot_reverse : ∀ {a : Way} {c : List Nat}, a.length = c.length → dot a.reverse c.reverse = dot a c
  | [], [], _ => rfl
  | x :: a, y :: c, h => by
    have hl : a.length = c.length := by simpa using h
    rw [List.reverse_cons, List.reverse_cons, dot_append (by simp [hl]), dot_reverse hl]
    show dot a c + (x * y + dot [] []) = x * y + dot a c
    simp [dot]; omega
  | [], _ :: _, h => by simp at h
  | _ :: _, [], h => by simp at h
theorem nbr_append : ∀ {a c b d : Way}, a.length = c.length → nbr (a ++ b) (c ++ d) = (nbr a c || nbr b d)
  | [], [], _, _, _ => by simp [nbr]
  | x :: a, y :: c, b, d, h => by
    have := nbr_append (a := a) (c := c) (b := b) (d := d) (by simpa using h)
    show ((decide (0 < x) && decide (0 < y)) || nbr (a ++ b) (c ++ d)) = (((decide (0 < x) && decide (0 < y)) || nbr a c) || nbr b d)
    rw [this, Bool.or_assoc]
  | [], _ :: _, _, _, h => by simp at h
  | _ :: _, [], _, _, h => by simp at h
theorem nbr_reverse : ∀ {a c : Way}, a.length = c.length → nbr a.reverse c.reverse = nbr a c
  | [], [], _ => rfl
  | x :: a, y :: c, h => by
    have hl : a.length = c.length := by simpa using h
    rw [List.reverse_cons, List.reverse_cons, nbr_append (by simp [hl]), nbr_reverse hl]
    show (nbr a c || (decide (0 < x) && decide (0 < y) || false)) = ((decide (0 < x) && decide (0 < y)) || nbr a c)
    rw [Bool.or_false, Bool.or_comm]
  | [], _ :: _, h => by simp at h
  | _ :: _, [], h => by simp at h
theorem Conn.map {α β : Type} {adj : α → α → Bool} {adj' : β → β → Bool} {U : List α} (f : α → β) (hf : ∀ a ∈ U, ∀ b ∈ U, adj' (f a) (f b) = adj a b) {a b : α} (c : Conn adj U a b) : Conn adj' (U.map f) (f a) (f b) := by
  induction c with
  | refl => exact .refl _
  | step _ hb hc e ih => exact .step ih (List.mem_map_of_mem hb) (List.mem_map_of_mem hc) (by rw [hf _ hb _ hc]; exact e)
theorem map_flatten {α β : Type} (f : α → β) (L : List (List α)) : (L.map (·.map f)).flatten = L.flatten.map f := by
  induction L with
  | nil => rfl
  | cons l L ih => rw [List.map_cons, List.flatten_cons, List.flatten_cons, List.map_append, ih]
theorem IsLots.map {α β : Type} {adj : α → α → Bool} {adj' : β → β → Bool} {U : List α} {L : List (List α)} (h : IsLots adj U L) (f : α → β) (hf : ∀ a ∈ U, ∀ b ∈ U, adj' (f a) (f b) = adj a b) : IsLots adj' (U.map f) (L.map (·.map f)) where
  perm := by rw [map_flatten]; exact h.perm.map f
  ne l hl := by
    obtain ⟨k, hk, rfl⟩ := List.mem_map.mp hl
    intro e
    exact h.ne k hk (List.map_eq_nil_iff.mp e)
  apart := by
    rw [List.pairwise_map]
    refine h.apart.imp_of_mem fun {l m} hl hm r a ha b hb => ?_
    obtain ⟨x, hx, rfl⟩ := List.mem_map.mp ha
    obtain ⟨y, hy, rfl⟩ := List.mem_map.mp hb
    rw [hf x (h.mem hl hx) y (h.mem hm hy)]
    exact r x hx y hy
  conn l hl a ha b hb := by
    obtain ⟨k, hk, rfl⟩ := List.mem_map.mp hl
    obtain ⟨x, hx, rfl⟩ := List.mem_map.mp ha
    obtain ⟨y, hy, rfl⟩ := List.mem_map.mp hb
    exact (h.conn k hk x hx y hy).map f hf
/-- each lot in another sequence -/
theorem IsLots.each {α : Type} {adj : α → α → Bool} {U : List α} {L : List (List α)} (h : IsLots adj U L) (g : List α → List α) (hg : ∀ l, (g l).Perm l) : IsLots adj U (L.map g) where
  perm := by
    refine Perm.trans ?_ h.perm
    clear h
    induction L with
    | nil => exact Perm.refl _
    | cons l L ih => rw [List.map_cons, List.flatten_cons, List.flatten_cons]; exact (hg l).append ih
  ne l hl := by
    obtain ⟨k, hk, rfl⟩ := List.mem_map.mp hl
    intro e
    have := (hg k).length_eq
    rw [e] at this
    exact h.ne k hk (List.length_eq_zero_iff.mp this.symm)
  apart := by
    rw [List.pairwise_map]
    exact h.apart.imp fun {l m} r a ha b hb => r a ((hg l).mem_iff.mp ha) b ((hg m).mem_iff.mp hb)
  conn l hl a ha b hb := by
    obtain ⟨k, hk, rfl⟩ := List.mem_map.mp hl
    exact h.conn k hk a ((hg k).mem_iff.mp ha) b ((hg k).mem_iff.mp hb)
theorem pos_reverse {cs : List Nat} (hp : Posi cs) : Posi cs.reverse := fun c hc => hp c (List.mem_reverse.mp hc)
theorem lots_turned {cs : List Nat} (hp : Posi cs) (n : Nat) : sortB lt2 ((lotsF cs n).map fun lot => sortB lt1 (lot.map List.reverse)) = lotsF cs.reverse n := by
  have len : ∀ w ∈ waysF cs n, w.length = cs.length := fun w hw => ((mem_waysF hp).mp hw).1
  have h1 : IsLots nbr ((waysF cs n).map List.reverse) ((lotsF cs n).map (·.map List.reverse)) := (lotsF_is cs n).map _ fun a ha b hb => nbr_reverse (by rw [len a ha, len b hb])
  have h2 := h1.each (sortB lt1) sortB_perm
  rw [List.map_map] at h2
  have nd : ((waysF cs n).map List.reverse).Nodup := by
    refine List.pairwise_map.mpr ((waysF_nodup cs n).imp fun {a b} ne e => ne ?_)
    have := congrArg List.reverse e
    rwa [List.reverse_reverse, List.reverse_reverse] at this
  have pm : ((waysF cs n).map List.reverse).Perm (waysF cs.reverse n) := by
    refine (List.perm_ext_iff_of_nodup nd (waysF_nodup _ _)).mpr fun w => ?_
    rw [mem_waysF (pos_reverse hp)]
    constructor
    · intro h
      obtain ⟨v, hv, rfl⟩ := List.mem_map.mp h
      obtain ⟨a, b⟩ := (mem_waysF hp).mp hv
      exact ⟨by simp [a], by rw [dot_reverse a, b]⟩
    · rintro ⟨a, b⟩
      have hl : w.reverse.length = cs.length := by simpa using a
      refine List.mem_map.mpr ⟨w.reverse, (mem_waysF hp).mpr ⟨hl, ?_⟩, List.reverse_reverse w⟩
      have := dot_reverse (a := w.reverse) (c := cs) hl
      rw [List.reverse_reverse] at this
      rw [← this, b]
  have h3 : IsLots nbr ((waysF cs n).map List.reverse) (sortB lt2 ((lotsF cs n).map fun lot => sortB lt1 (lot.map List.reverse))) := h2.of_perm nbr_comm (sortB_perm _).symm (Perm.refl _)
  refine lots_one s1 s2 nbr_comm nd pm h3 (lotsF_is cs.reverse n) (fun l hl => ?_) (lotsOf_sorted _) (sortB_sorted s2 _) (lotsOf_up _)
  obtain ⟨k, _, rfl⟩ := List.mem_map.mp ((sortB_perm _).mem_iff.mp hl)
  exact sortB_sorted s1 _

/-! ### the sum of a lot's ways -/
def totalF : List Way → Way
  | [] => []
  | w :: ws => ws.foldl (fun a b => List.zipWith (· + ·) a b) w
theorem zip_pos {a b : Way} {i : Nat} (h : 0 < (List.zipWith (· + ·) a b).getD i 0) : 0 < a.getD i 0 ∨ 0 < b.getD i 0 := by
  rw [List.getD_eq_getElem?_getD, List.getElem?_zipWith] at h
  rw [List.getD_eq_getElem?_getD, List.getD_eq_getElem?_getD]
  cases e : a[i]? with
  | none => rw [e] at h; simp at h
  | some x =>
    cases f : b[i]? with
    | none => rw [e, f] at h; simp at h
    | some y =>
      rw [e, f] at h
      simp at h ⊢
      omega
theorem fold_meet {o : Way} : ∀ (ws : List Way) (w : Way), nbr (ws.foldl (fun a b => List.zipWith (· + ·) a b) w) o = true → nbr w o = true ∨ ∃ v ∈ ws, nbr v o = true
  | [], w, h => .inl h
  | v :: ws, w, h => by
    rcases fold_meet ws _ h with h | ⟨u, hu, h⟩
    · obtain ⟨i, h1, h2⟩ := nbr_iff.mp h
      rcases zip_pos h1 with h1 | h1
      · exact .inl (nbr_iff.mpr ⟨i, h1, h2⟩)
      · exact .inr ⟨v, List.mem_cons_self, nbr_iff.mpr ⟨i, h1, h2⟩⟩
    · exact .inr ⟨u, List.mem_cons_of_mem _ hu, h⟩
theorem total_meet {lot : List Way} {o : Way} (h : nbr (totalF lot) o = true) : ∃ v ∈ lot, nbr v o = true := by
  cases lot with
  | nil => rw [totalF] at h; simp [nbr] at h
  | cons w ws =>
    rcases fold_meet ws w h with h | ⟨v, hv, h⟩
    · exact ⟨w, List.mem_cons_self, h⟩
    · exact ⟨v, List.mem_cons_of_mem _ hv, h⟩
/-- what stands ahead has no position in common with a lot -/
theorem total_apart {cs : List Nat} {n : Nat} {pre post : List (List Way)} {lot : List Way} (e : lotsF cs n = pre ++ lot :: post) : ∀ o ∈ pre.flatten, nbr (totalF lot) o = false := by
  intro o ho
  cases h : nbr (totalF lot) o with
  | false => rfl
  | true =>
    obtain ⟨v, hv, q⟩ := total_meet h
    obtain ⟨m, hm, hom⟩ := List.mem_flatten.mp ho
    have a := (lotsF_is cs n).apart
    rw [e, List.pairwise_append] at a
    have := a.2.2 m hm lot List.mem_cons_self o hom v hv
    rw [nbr_comm, q] at this
    cases this
end K25
end
section
set_option maxRecDepth 100000
set_option maxHeartbeats 4000000
namespace K25
open PySem PySem.Spec PyProof.Rows L2

/-! ### what stays: G the data that no one changes, H all that is tracked -/
structure Step (G H G' H' : Hp) : Prop where
  hh : Same H H'
  gh : Same G' H'
  gg : ∀ b, H b ≠ none → G' b = G b
theorem Step.refl {G H : Hp} (s : Same G H) : Step G H G H := ⟨Same.refl H, s, fun _ _ => rfl⟩
theorem Step.gS {G H G' H' : Hp} (s : Same G H) (t : Step G H G' H') : Same G G' := fun b o e => by
  rw [t.gg b (by rw [s b o e]; exact Option.some_ne_none o)]; exact e
theorem Step.trans {G H G1 H1 G2 H2 : Hp} (a : Step G H G1 H1) (b : Step G1 H1 G2 H2) : Step G H G2 H2 where
  hh := a.hh.trans b.hh
  gh := b.gh
  gg c hc := by
    have : H1 c ≠ none := by
      cases e : H c with
      | none => exact absurd e hc
      | some o => rw [a.hh c o e]; exact Option.some_ne_none o
    rw [b.gg c this, a.gg c hc]
theorem same_new {H : Hp} {p : Addr} (h : H p = none) (o : HO) : Same H (upd H p o) := fun b u e => by rw [upd_ne (ne_of_none e h)]; exact e
theorem Step.of_same {G H H' : Hp} (s : Same G H) (e : Same H H') : Step G H G H' := ⟨e, s.trans e, fun _ _ => rfl⟩
/-- a new object that is no data -/
theorem Step.aside {G H : Hp} (s : Same G H) {p : Addr} (h : H p = none) (o : HO) : Step G H G (upd H p o) := .of_same s (same_new h o)
/-- a new object that is data -/
theorem Step.make {G H : Hp} (s : Same G H) {p : Addr} (h : H p = none) (o : HO) : Step G H (upd G p o) (upd H p o) where
  hh := same_new h o
  gh b u e := by
    by_cases hb : b = p
    · subst hb; rw [upd_same] at e ⊢; exact e
    · rw [upd_ne hb] at e ⊢; exact s b u e
  gg b hb := upd_ne (fun e => hb (by rw [e]; exact h))
theorem Same.none {G H : Hp} (s : Same G H) {p : Addr} (h : H p = none) : G p = none := s.free h
/-- a list that was made aside and grown becomes data -/
theorem Step.seal {G H G' H' : Hp} (t : Step G H G' H') {p : Addr} {o : HO} (h : H p = none) (g : G' p = none) (e : H' p = some o) : Step G H (upd G' p o) H' where
  hh := t.hh
  gh b u q := by
    by_cases hb : b = p
    · subst hb; rw [upd_same] at q; rw [← q]; exact e
    · rw [upd_ne hb] at q; exact t.gh b u q
  gg b hb := by rw [upd_ne (fun e => hb (by rw [e]; exact h))]; exact t.gg b hb
/-- what was made aside is changed -/
theorem Step.set {G H G' H' : Hp} (t : Step G H G' H') {p : Addr} (h : H p = none) (g : G' p = none) (o : HO) : Step G H G' (upd H' p o) where
  hh b u e := by rw [upd_ne (ne_of_none e h)]; exact t.hh b u e
  gh b u e := by rw [upd_ne (ne_of_none e g)]; exact t.gh b u e
  gg := t.gg
/-- what is tracked and no data stays no data -/
theorem Step.out {G H G' H' : Hp} (t : Step G H G' H') {p : Addr} {o : HO} (h : H p = some o) (g : G p = none) : G' p = none := by
  rw [t.gg p (by rw [h]; exact Option.some_ne_none o)]; exact g

/-! ### what a value is as data -/
abbrev Rl (α : Type) := Hp → V → α → Prop
def iv (n : Nat) : V := .int (n : Int)
def RN : Rl Nat := fun _ v n => v = iv n
def RI : Rl Int := fun _ v n => v = .int n
def RB : Rl Bool := fun _ v b => v = .bl b
def RL {α : Type} (R : Rl α) : Rl (List α) := fun G v as => ∃ a vs, v = .ref a ∧ G a = some (.lst vs) ∧ Paired (R G) vs as
abbrev R1 : Rl Way := RL RN
abbrev R2' : Rl (List Way) := RL R1
abbrev R3 : Rl (List (List Way)) := RL R2'
abbrev RBs : Rl (List Bool) := RL RB
structure Mono {α : Type} (R : Rl α) : Prop where
  up : ∀ {G G' : Hp} {v : V} {x : α}, Same G G' → R G v x → R G' v x
theorem mRN : Mono RN := ⟨fun _ h => h⟩
theorem mRI : Mono RI := ⟨fun _ h => h⟩
theorem mRB : Mono RB := ⟨fun _ h => h⟩
theorem Paired.imp' {α β : Type} {F G : α → β → Prop} : ∀ {l : List α} {m : List β}, Paired F l m → (∀ a b, F a b → G a b) → Paired G l m := fun h f => L2.Paired.mapP h f
theorem mRL {α : Type} {R : Rl α} (m : Mono R) : Mono (RL R) := ⟨fun s ⟨a, vs, e, g, p⟩ => ⟨a, vs, e, s a _ g, Paired.imp' p fun _ _ h => m.up s h⟩⟩
theorem m1 : Mono R1 := mRL mRN
theorem m2 : Mono R2' := mRL m1
theorem m3 : Mono R3 := mRL m2
theorem mBs : Mono RBs := mRL mRB
theorem paired_iv : ∀ {vs : List V} {ns : List Nat} {G : Hp}, Paired (RN G) vs ns → vs = ns.map iv
  | _, _, _, .nil => rfl
  | _, _, _, .cons h t => by rw [List.map_cons, ← paired_iv t, ← h]
theorem iv_paired : ∀ (ns : List Nat) (G : Hp), Paired (RN G) (ns.map iv) ns
  | [], _ => .nil
  | n :: ns, G => .cons rfl (iv_paired ns G)
theorem paired_ri : ∀ {vs : List V} {ns : List Int} {G : Hp}, Paired (RI G) vs ns → vs = ns.map V.int
  | _, _, _, .nil => rfl
  | _, _, _, .cons h t => by rw [List.map_cons, ← paired_ri t, ← h]
theorem paired_bl : ∀ {vs : List V} {ns : List Bool} {G : Hp}, Paired (RB G) vs ns → vs = ns.map V.bl
  | _, _, _, .nil => rfl
  | _, _, _, .cons h t => by rw [List.map_cons, ← paired_bl t, ← h]
theorem bl_paired : ∀ (ns : List Bool) (G : Hp), Paired (RB G) (ns.map V.bl) ns
  | [], _ => .nil
  | n :: ns, G => .cons rfl (bl_paired ns G)
theorem r1_at {G : Hp} {v : V} {ns : Way} (h : R1 G v ns) : ∃ a, v = .ref a ∧ G a = some (.lst (ns.map iv)) := by
  obtain ⟨a, vs, e, g, p⟩ := h
  rw [paired_iv p] at g
  exact ⟨a, e, g⟩
theorem r1_of {G : Hp} {a : Addr} {ns : Way} (h : G a = some (.lst (ns.map iv))) : R1 G (.ref a) ns := ⟨a, _, rfl, h, iv_paired ns G⟩
theorem rb_at {G : Hp} {v : V} {ns : List Bool} (h : RBs G v ns) : ∃ a, v = .ref a ∧ G a = some (.lst (ns.map V.bl)) := by
  obtain ⟨a, vs, e, g, p⟩ := h
  rw [paired_bl p] at g
  exact ⟨a, e, g⟩
theorem rb_of {G : Hp} {a : Addr} {ns : List Bool} (h : G a = some (.lst (ns.map V.bl))) : RBs G (.ref a) ns := ⟨a, _, rfl, h, bl_paired ns G⟩
theorem map_iv (ns : List Nat) : ns.map iv = (ns.map fun (n : Nat) => (n : Int)).map V.int := by rw [List.map_map]; rfl
theorem paired_len {α β : Type} {F : α → β → Prop} : ∀ {l : List α} {m : List β}, Paired F l m → l.length = m.length := fun h => Paired.length h
theorem paired_get {α β : Type} {F : α → β → Prop} : ∀ {l : List α} {m : List β} {i : Nat} {x : α}, Paired F l m → l[i]? = some x → ∃ y, m[i]? = some y ∧ F x y
  | _, _, _, _, .nil, h => by simp at h
  | _, _, 0, x, .cons h t, e => by
    rw [List.getElem?_cons_zero] at e
    rw [← Option.some.inj e]
    exact ⟨_, rfl, h⟩
  | _, _, i + 1, x, .cons h t, e => by
    obtain ⟨y, h1, h2⟩ := paired_get (i := i) (x := x) t (by simpa using e)
    exact ⟨y, by simpa using h1, h2⟩
theorem paired_append {α β : Type} {F : α → β → Prop} : ∀ {l l' : List α} {m m' : List β}, Paired F l m → Paired F l' m' → Paired F (l ++ l') (m ++ m')
  | _, _, _, _, .nil, s => s
  | _, _, _, _, .cons h t, s => .cons h (paired_append t s)
theorem paired_one {α β : Type} {F : α → β → Prop} {a : α} {b : β} (h : F a b) : Paired F [a] [b] := .cons h .nil
theorem paired_rev {α β : Type} {F : α → β → Prop} : ∀ {l : List α} {m : List β}, Paired F l m → Paired F l.reverse m.reverse
  | _, _, .nil => .nil
  | _, _, .cons h t => by rw [List.reverse_cons, List.reverse_cons]; exact paired_append (paired_rev t) (paired_one h)
theorem paired_mem {α β : Type} {F : α → β → Prop} : ∀ {l : List α} {m : List β} {x : α}, Paired F l m → x ∈ l → ∃ y ∈ m, F x y
  | _, _, x, .cons h t, hx => by
    rcases List.mem_cons.mp hx with rfl | hx
    · exact ⟨_, List.mem_cons_self, h⟩
    · obtain ⟨y, hy, q⟩ := paired_mem t hx
      exact ⟨y, List.mem_cons_of_mem _ hy, q⟩
theorem paired_drop {α β : Type} {F : α → β → Prop} : ∀ {l : List α} {m : List β} (n : Nat), Paired F l m → Paired F (l.drop n) (m.drop n)
  | _, _, 0, h => h
  | _, _, _ + 1, .nil => .nil
  | _, _, n + 1, .cons _ t => paired_drop n t

/-! ### data, compared -/
instance : PySem.W.Datum Nat where
  toD n := .int n
  plain _ := rfl
  eqv a b := by
    simp only [PyData.eqv]
    rw [PySem.W.beq_decide]
    exact decide_eq_decide.mpr ⟨fun e => Int.ofNat.inj e, fun e => by rw [e]⟩
  depth := 0
  depth_le _ := Nat.le_refl _
instance : PySem.W.DatumOrd Nat where
  lt a b := decide (a < b)
  alike a b := by show PySem.W.alike (.int a) (.int b) = true; simp only [PySem.W.alike]
  notNone a := fun e => by cases e
  lt_eq a b := (PySem.W.dataLt_int a b).trans (decide_eq_decide.mpr (by omega))
theorem listLt_eq {α : Type} [DecidableEq α] [PySem.W.DatumOrd α] : ∀ xs ys : List α, PySem.W.listLt xs ys = lexB PySem.W.DatumOrd.lt xs ys
  | [], [] => rfl
  | [], _ :: _ => rfl
  | _ :: _, [] => rfl
  | x :: xs, y :: ys => by rw [PySem.W.listLt, lexB, listLt_eq xs ys]
theorem ord1 (a b : Way) : PySem.W.DatumOrd.lt a b = lt1 a b := listLt_eq a b
theorem ord2 (a b : List Way) : PySem.W.DatumOrd.lt a b = lt2 a b := by
  refine (listLt_eq a b).trans ?_
  have : (PySem.W.DatumOrd.lt : Way → Way → Bool) = lt1 := by funext a b; exact ord1 a b
  rw [this]
abbrev dD {α : Type} [DecidableEq α] [PySem.W.Datum α] (x : α) : PyData := PySem.W.Datum.toD x
theorem layAll {α : Type} [DecidableEq α] [PySem.W.Datum α] (h : ∀ x : α, (dD x).canLay0 = true) : ∀ xs : List α, PyData.canLayAll0 (xs.map dD) = true
  | [] => by simp [PyData.canLayAll0]
  | x :: xs => by rw [List.map_cons, PyData.canLayAll0, h x, layAll h xs]; rfl
theorem layN (n : Nat) : (dD n).canLay0 = true := by simp [dD, PySem.W.Datum.toD, PyData.canLay0]
theorem layL {α : Type} [DecidableEq α] [PySem.W.Datum α] (h : ∀ x : α, (dD x).canLay0 = true) (xs : List α) : (dD xs).canLay0 = true := by
  show (PyData.list (xs.map dD)).canLay0 = true
  rw [PyData.canLay0]; exact layAll h xs
theorem shaped_of {α : Type} [DecidableEq α] [PySem.W.Datum α] (h : ∀ x : α, (dD x).canLay0 = true) (hd : PySem.W.Datum.depth α ≤ 60) (x : α) : SeqAt.shaped (dD x) = true := by
  unfold SeqAt.shaped
  rw [h x, Bool.true_and, decide_eq_true_eq]
  exact Nat.le_trans (PySem.W.Datum.depth_le x) (by omega)
theorem sh1 (x : Way) : SeqAt.shaped (dD x) = true := shaped_of (layL layN) (by decide) x
theorem sh2 (x : List Way) : SeqAt.shaped (dD x) = true := shaped_of (layL (layL layN)) (by decide) x
theorem sh3 (x : List (List Way)) : SeqAt.shaped (dD x) = true := shaped_of (layL (layL (layL layN))) (by decide) x
structure ToDp (K : PySem.W.Frag) {α : Type} [DecidableEq α] [PySem.W.Datum α] (R : Rl α) : Prop where
  dp : ∀ {G : Hp} {v : V} {x : α}, R G v x → Dp K G v (dD x)
theorem dpN {K : PySem.W.Frag} : ToDp K RN := ⟨fun {G v x} h => by rw [show v = iv x from h]; exact Dp.int _⟩
theorem dp_all {K : PySem.W.Frag} {α : Type} [DecidableEq α] [PySem.W.Datum α] {R : Rl α} (h : ToDp K R) {G : Hp} : ∀ {vs : List V} {xs : List α}, Paired (R G) vs xs → DpAll K G vs (xs.map dD)
  | _, _, .nil => .nil
  | _, _, .cons a t => .cons (h.dp a) (dp_all h t)
theorem dpL {K : PySem.W.Frag} {α : Type} [DecidableEq α] [PySem.W.Datum α] {R : Rl α} (h : ToDp K R) : ToDp K (RL R) := ⟨fun {G v x} ⟨a, vs, e, g, p⟩ => by
  rw [e]; exact Dp.lst (SqL.of g) (dp_all h p)⟩
theorem dp1 {K : PySem.W.Frag} : ToDp K R1 := dpL dpN
theorem dp2 {K : PySem.W.Frag} : ToDp K R2' := dpL dp1
theorem dp3 {K : PySem.W.Frag} : ToDp K R3 := dpL dp2
theorem eq_dD {α : Type} [DecidableEq α] [PySem.W.Datum α] (a b : α) : PyData.eqv (dD a) (dD b) = decide (a = b) := PySem.W.Datum.eqv a b

/-! ### sorted, of lists -/
section
variable {X : Cx}
/-- sorted(xs): xs holds the items as of a list type -/
def rSortedT (K : PySem.W.Frag) (α : Type) [DecidableEq α] [PySem.W.DatumOrd α] : List V → Hp → VK → Prop := fun vs H Q => ∃ (a : Addr) (xs : List V) (as : List α) (R : V → α → Prop), vs = [V.ref a] ∧ SqL K H a xs ∧ Paired R xs as ∧ (∀ v x, R v x → Dp K H v (dD x)) ∧
  ∀ (ys : List V) (p : Addr), ys.Perm xs → Paired R ys (sortB PySem.W.DatumOrd.lt as) → H p = none → Q (.ref p) (upd H p (.lst ys))
theorem each_of {R : V → α → Prop} {W : Value → (V × α) → Prop} : ∀ {xs : List V} {as : List α} {us : List Value}, Paired R xs as → Vals xs us → (∀ v u x, R v x → RelV v u → W u (v, x)) → PySem.W.EachIs W us (xs.zip as)
  | _, _, _, .nil, .nil, _ => .nil
  | _, _, _, .cons h t, .cons r s, f => .cons (f _ _ _ h r) (each_of t s f)
theorem vals_of_each {R : V → α → Prop} : ∀ {us : List Value} {zs : List (V × α)}, PySem.W.EachIs (fun u z => RelV z.1 u ∧ R z.1 z.2) us zs → Vals (zs.map Prod.fst) us ∧ Paired R (zs.map Prod.fst) (zs.map Prod.snd)
  | _, _, .nil => ⟨.nil, .nil⟩
  | _, _, .cons h t => ⟨.cons h.1 (vals_of_each t).1, .cons h.2 (vals_of_each t).2⟩
theorem zip_fst : ∀ {xs : List V} {as : List α}, xs.length = as.length → (xs.zip as).map Prod.fst = xs
  | [], [], _ => rfl
  | x :: xs, a :: as, h => by rw [List.zip_cons_cons, List.map_cons, zip_fst (by simpa using h)]
  | [], _ :: _, h => by simp at h
  | _ :: _, [], h => by simp at h
theorem zip_snd : ∀ {xs : List V} {as : List α}, xs.length = as.length → (xs.zip as).map Prod.snd = as
  | [], [], _ => rfl
  | x :: xs, a :: as, h => by rw [List.zip_cons_cons, List.map_cons, zip_snd (by simpa using h)]
  | [], _ :: _, h => by simp at h
  | _ :: _, [], h => by simp at h
theorem cr_sortedT {α : Type} [DecidableEq α] [PySem.W.DatumOrd α] (hk : ∀ x : α, dD x ≠ .none ∧ ∀ xs, dD x ≠ .tuple xs) (hd : PySem.W.Datum.depth α ≤ 60) (hu : X.A.units + 64 < cLine) : CallR X (.builtin "sorted") (rSortedT X.K α) := by
  intro pins s σ H vs us Q I r h
  obtain ⟨a, xs, as, R, rfl, hs, pr, hR, q⟩ := h
  obtain ⟨its, rv, hl, hz⟩ := I.list hs
  rw [Vals.ref1 r]
  have lenx := paired_len pr
  have lenu := rv.length
  have e1 := each_of (W := fun u z => RelV z.1 u ∧ R z.1 z.2) pr rv fun v u x h1 h2 => ⟨h2, h1⟩
  have e2 := each_of (W := fun u z => ∃ as, Reads s.heap u (dD z.2) as) pr rv fun v u x h1 h2 => Dp.reads I _ v u (hR v x h1) h2
  have hzl : (xs.zip as).length = xs.length := by rw [List.length_zip]; omega
  refine PySem.W.sorted_data (enc := fun z : V × α => dD z.2) hl.isList e1 e2 (PySem.W.AllAlike.of fun b b' => PySem.W.DatumOrd.alike b.2 b'.2) (PySem.W.Sortable.others fun b => hk b.2) (by rw [hzl]; exact hz)
    (fun b _ => by have := PySem.W.Datum.depth_le b.2; show X.A.units + 2 + (PySem.W.Datum.toD b.2).depth < cLine; omega) fun out h1 h2 => ?_
  obtain ⟨k1, k2⟩ := vals_of_each h2
  have hp : (((xs.zip as).mergeSort (PySem.W.dataLe false fun z : V × α => dD z.2)).map Prod.fst).Perm xs := by
    have := (List.mergeSort_perm (xs.zip as) (PySem.W.dataLe false fun z : V × α => dD z.2)).map Prod.fst
    rwa [zip_fst lenx] at this
  have hsn : ((xs.zip as).mergeSort (PySem.W.dataLe false fun z : V × α => dD z.2)).map Prod.snd = sortB PySem.W.DatumOrd.lt as := by
    rw [PySem.W.sort_maps (s := leOf PySem.W.DatumOrd.lt) Prod.snd (fun a _ b _ => ?_), zip_snd lenx]
    · rfl
    · rw [PySem.W.dataLe_eq]
      show (!PySem.W.dataLt (PySem.W.Datum.toD b.2) (PySem.W.Datum.toD a.2)) = leOf PySem.W.DatumOrd.lt a.2 b.2
      rw [PySem.W.DatumOrd.lt_eq]; rfl
  rw [hsn] at k2
  obtain ⟨ep, he'⟩ := PyProof.Rows.sortedAll_at s.heap its out.toArray
  have hlen : (((xs.zip as).mergeSort (PySem.W.dataLe false fun z : V × α => dD z.2)).map Prod.fst).length ≤ sizeLine := by rw [hp.length_eq]; exact hz
  exact ⟨.ref _, upd H (s.heap.objs.size + 1) (.lst _), I.laid (t' := s.toks) (fun _ _ => PyProof.Rows.sortedAll_old) (Nat.le_succ _) ⟨hlen, out, ep, k1, he'⟩, rfl, q _ _ hp k2 (I.hok.fresh (Nat.le_succ _))⟩
theorem nt_list {α : Type} [DecidableEq α] [PySem.W.Datum α] (x : List α) : dD x ≠ PyData.none ∧ ∀ xs, dD x ≠ PyData.tuple xs := ⟨fun e => (nomatch (show PyData.list (x.map dD) = PyData.none from e)), fun xs e => (nomatch (show PyData.list (x.map dD) = PyData.tuple xs from e))⟩
theorem cr_sorted1 (hu : X.A.units + 64 < cLine) : CallR X (.builtin "sorted") (rSortedT X.K Way) := cr_sortedT nt_list (by decide) hu
theorem cr_sorted2 (hu : X.A.units + 64 < cLine) : CallR X (.builtin "sorted") (rSortedT X.K (List Way)) := cr_sortedT nt_list (by decide) hu
end
end K25
namespace K25
open PySem PySem.Spec PyProof.Rows L2

/-! ### a call by keywords alone -/
section
variable {X : Cx} {CX : CXT} {k : Nat} {f : Addr} {fd : FuncData} {ps ks : List Str} {sp : Sp} {E : XK} {x : Str} {p pos : Pos} {kws : List Keyword} {tk : TA} {g : List Value → List Value → List Value} {gV : List V → List V → List V}
theorem pe_callK0 (F : FnOk X.prog X.w X.K X.mg X.base CX k f fd ps sp) (hr : Room k X.A) (hg : Gl X x) (hm : X.mg x = some (.ref f)) (hk : PySem.W.keepIn X.K (.ref f) = true) (hb : KBinds X.K fd ps ks g gV) (hx : Passes CX X E)
    (hkw : PK X kws tk) (hall : (backToKw pos (keywordEach kws X.env)).all (·.1.isSome) = true := by rfl) (hks : (backToKw pos (keywordEach kws X.env)).filterMap (·.1) = ks := by rfl)
    (hdb : (x == ("__debug__" : Str)) = false := by decide)
    (hpl : ((backTo pos (starEach [] X.env)).any (·.1) || (backToKw pos (keywordEach kws X.env)).any (·.1.isNone)) = false := by rfl) :
    PE X (.Call (.Name x p) [] kws pos) (tCallK sp gV E tNil tk) := by
  refine ⟨fun pins s σ H Q I h => ?_⟩
  refine wpAny_Call_Name_kw (ld_glob I hg hm ?_ hdb)
  refine PySem.W.callWith_KW0 (h₀ := X.base) I.ok.mod.kin hk hall ?_ hpl
  refine thn (hkw.run pos pins s σ H _ I h) fun ws s2 ⟨zs, H2, I2, rz, q2⟩ => ⟨I2.kIn, ?_⟩
  rw [hks]
  exact run_fnk (us := []) (vs := []) F hr hb hx I2 .nil rz q2
end

/-! ### a def by its name and its promise -/
structure Cal (P : Program) (w : World) (K : PySem.W.Frag) (mg : Str → Option Value) (base : Heap) (k : Nat) (x : Str) (sp : Sp) : Prop where
  ex : ∃ (f : Addr) (fd : FuncData) (ps : List Str), FnOk P w K mg base CX0 k f fd ps sp ∧ mg x = some (.ref f) ∧ PySem.W.keepIn K (.ref f) = true ∧ Binds K fd ps []
section
variable {X : Cx} {j k : Nat} {sp : Sp} {x : Str} {p pos : PySem.Pos} {e : Expr} {es : List Expr} {t : TA}
theorem pe_c (c : Cal X.prog X.w X.K X.mg X.base k x sp) (hr : Room j X.A) (hk : k ≤ j) (hg : Gl X x) (ha : PA X (e :: es) t)
    (hdb : (x == ("__debug__" : Str)) = false := by decide) (he : starEach (e :: es) X.env = (false, eval e X.env) :: starEach es X.env := by rfl) (hpl : (backTo pos (starEach es X.env)).any (·.1) = false := by rfl) :
    PE X (.Call (.Name x p) (e :: es) [] pos) (tCall sp [] E0 t) := by
  obtain ⟨f, fd, ps, F, hm, kp, b⟩ := c.ex
  exact pe_call F (hr.mono hk) hg hm kp b .nil pass0 ha hdb he hpl
theorem pe_gc {v : V} (hg : Gl X x) (h : ∃ u, X.mg x = some u ∧ RelV v u) (hd : (x == ("__debug__" : Str)) = false := by decide) : PE X (.Name x pos) (tC v) := by
  obtain ⟨u, hm, r⟩ := h
  exact pe_glob hg hm r hd
end

/-! ### the rules with the written part as a letter -/
section
variable {X : Cx} {K : PySem.W.Frag}
theorem ix_listK (h : X.K = K) : IxR X (rIxL K) := by subst h; exact ix_list
theorem sl_listK (h : X.K = K) : SlR X (rSlL K) := by subst h; exact sl_list
theorem pi_listK {tg l : Expr} {tl : TE} (h : X.K = K) (hl : PE X l tl) : PI X tg l (iList K tl) := by subst h; exact pi_list hl
theorem pi_tupK {tg l : Expr} {tl : TE} (h : X.K = K) (hl : PE X l tl) : PI X tg l (iTup K tl) := by subst h; exact pi_tup hl
theorem cr_anyK (h : X.K = K) (hc : X.calm = true) : CallR X (.builtin "any") (rAny K) := by subst h; exact cr_any hc
theorem cr_allK (h : X.K = K) (hc : X.calm = true) : CallR X (.builtin "all") (rAll K) := by subst h; exact cr_all hc
theorem cr_sumK (h : X.K = K) (hc : X.calm = true) : CallR X (.builtin "sum") (rSum K) := by subst h; exact cr_sum hc
theorem cr_minK (h : X.K = K) (hc : X.calm = true) : CallR X (.builtin "min") (rMin K) := by subst h; exact cr_min hc
theorem cr_maxK (h : X.K = K) (hc : X.calm = true) : CallR X (.builtin "max") (rMax K) := by subst h; exact cr_max hc
theorem cr_sortedK (h : X.K = K) : CallR X (.builtin "sorted") (rSorted K) := by subst h; exact cr_sorted
theorem cr_sorted1K (h : X.K = K) (hu : X.A.units + 64 < cLine) : CallR X (.builtin "sorted") (rSortedT K Way) := by subst h; exact cr_sorted1 hu
theorem cr_sorted2K (h : X.K = K) (hu : X.A.units + 64 < cLine) : CallR X (.builtin "sorted") (rSortedT K (List Way)) := by subst h; exact cr_sorted2 hu
theorem op_notInDK (h : X.K = K) (hu : X.A.units + 65 < cLine) : OpR X (compareOp .NotIn) (rNotInD K) := by subst h; exact op_notInD hu
theorem op_eqDK (h : X.K = K) (hu : X.A.units + 64 < cLine) : OpR X (compareOp .Eq) (rEqD K) := by subst h; exact op_eqD hu
theorem op_neDK (h : X.K = K) (hu : X.A.units + 64 < cLine) : OpR X (compareOp .NotEq) (rNeD K) := by subst h; exact op_neD hu
theorem op_inK (h : X.K = K) : OpR X (compareOp .In) (rIn K false) := by subst h; exact op_in_seq
def rLenK (K : PySem.W.Frag) : List V → Hp → VK → Prop := fun xs H Q => ∃ p ys, xs = [.ref p] ∧ (SqL K H p ys ∨ SqT K H p ys) ∧ Q (.int ys.length) H
theorem call_lenK (h : X.K = K) : CallR X (.builtin "len") (rLenK K) := by subst h; exact call_len_seq
def rListK (K : PySem.W.Frag) : List V → Hp → VK → Prop := fun xs H Q => ∃ p ys, xs = [.ref p] ∧ (SqL K H p ys ∨ SqT K H p ys) ∧ ∀ l, H l = none → Q (.ref l) (upd H l (.lst ys))
theorem call_listK (h : X.K = K) : CallR X (.type "list") (rListK K) := by subst h; exact call_list_of
theorem pe_revLK {e : Expr} {te : TE} {k : Nat} {p1 p2 p3 pos : PySem.Pos} (h : X.K = K) (he : PE X e te) : PE X (.Subscript e (.Slice none none (some (.UnaryOp .USub (.Constant (.int 1) k p1) p2)) p3) pos) (tRevL K te) := by subst h; exact pe_revL he
theorem pg_tupK {es : List Expr} {k : Nat} {t : TGs} {n : Nat} {pos : PySem.Pos} (h : X.K = K) (hc : X.calm = true) (hs : PGs X es t)
    (hn : (assignEach es X.env).length = n := by rfl) (hst : (assignEach es X.env).findIdx? (·.1) = none := by rfl) : PG X (.Tuple es k pos) (gTup K n t) := by subst h; exact pg_tup hc hs hn hst
theorem pi_enumK {e : Expr} {ta : TA} {p pos tpos : PySem.Pos} {elts : List Expr} {kk : Nat} (h : X.K = K) (hg : Gl X "enumerate") (hm : X.mg "enumerate" = none) (ha : PA X [e] ta) (hs : starEach [e] X.env = [(false, eval e X.env)] := by rfl) :
    PI X (.Tuple elts kk tpos) (.Call (.Name "enumerate" p) [e] [] pos) (iEnum K ta) := by subst h; exact pi_enum hg hm ha hs
theorem pi_zipK {e e2 : Expr} {ta : TA} {p pos tpos : PySem.Pos} {elts : List Expr} {kk : Nat} (h : X.K = K) (hg : Gl X "zip") (hm : X.mg "zip" = none) (ha : PA X [e, e2] ta)
    (hs : starEach [e, e2] X.env = (false, eval e X.env) :: starEach [e2] X.env := by rfl) (hpl : (backTo pos (starEach [e2] X.env)).any (·.1) = false := by rfl) :
    PI X (.Tuple elts kk tpos) (.Call (.Name "zip" p) [e, e2] [] pos) (iZip K ta) := by subst h; exact pi_zip hg hm ha hs hpl
end

/-! ### sizes -/
theorem sz {n : Nat} (h : n ≤ 100000) : n ≤ sizeLine := Nat.le_trans h (by decide)
theorem szl {n : Nat} (h : n ≤ 100000) : n < sizeLine := Nat.lt_of_le_of_lt h (by decide)

/-! ### comprehensions -/
theorem range_step {β : Type} (p : Nat → Bool) (f : Nat → β) (i : Nat) : ((List.range (i + 1)).filter p).map f = ((List.range i).filter p).map f ++ (if p i = true then [f i] else []) := by
  rw [List.range_succ, List.filter_append, List.map_append]
  cases h : p i <;> simp [h]
/-- a comprehension over anything walked: p the test, f the item, by the turn -/
theorem lcW {J : It} {n : Nat} {Gp : Hp → Prop} {Y : Nat → Hp → V → Hp → Prop} (w : Walk J n Gp Y) {g : TG} {tt : TT} {te : TE} {vs : List Nat} {σ : L2.St} {G H : Hp} {D : Addr} {Qd : Hp → Prop} {β : Type} {R : Rl β} (mR : Mono R) (p : Nat → Bool) (f : Nat → β) (hD : H D = none) (gs : Same G H) (hn : n ≤ 100000)
    (hG : ∀ G' H', Step G H G' H' → Gp H')
    (turn : ∀ i G' H' x H1, i < n → Step G H G' H' → Y i H' x H1 → ∀ (N0 : Hp → Prop) (N1 : V → Hp → Prop), (p i = false → ∀ G2 H2, Step G' H' G2 H2 → N0 H2) → (p i = true → ∀ v G2 H2, Step G' H' G2 H2 → R G2 v (f i) → N1 v H2) →
      g x (wipe σ vs) H1 fun σ2 H2 => wipe σ2 vs = wipe σ vs ∧ tt σ2 H2 fun b H3 => if b = true then te σ2 H3 N1 else N0 H3)
    (k : ∀ G' H', Step G H G' H' → RL R G' (.ref D) (((List.range n).filter p).map f) → Qd H') :
    ∃ W : Nat → Nat → Hp → Prop, (∃ m, W 0 m (upd H D (.lst []))) ∧ ∀ i m H, W i m H →
      (J.stop i H ∧ Qd H) ∨ (J.go i H ∧ ∃ Nx : Hp → Prop, (∀ H', Nx H' → ∃ m', m' < m ∧ W (i + 1) m' H') ∧ ∀ x H', J.yld i H x H' → g x (wipe σ vs) H' fun σ2 H2 => wipe σ2 vs = wipe σ vs ∧ tt σ2 H2 fun b H3 =>
        if b = true then te σ2 H3 fun y H4 => ∃ acc, H4 D = some (.lst acc) ∧ acc.length < sizeLine ∧ Nx (upd H4 D (.lst (acc ++ [y]))) else Nx H3) := by
  refine lc_it w (Qd := Qd) (fun i H' => ∃ G' acc, Step G H G' H' ∧ G' D = none ∧ H' D = some (.lst acc) ∧ Paired (R G') acc (((List.range i).filter p).map f)) ?_ ?_ ?_ ?_
  · exact ⟨G, [], .aside gs hD _, gs.free hD, upd_same, .nil⟩
  · rintro i H' _ ⟨G', acc, st, _, _, _⟩
    exact hG G' H' st
  · rintro i x H' H1 hi ⟨G', acc, st, gd, hd, pr⟩ y
    refine turn i G' H' x H1 hi st y _ _ ?_ ?_
    · intro hp G2 H2 s2
      refine ⟨G2, acc, st.trans s2, s2.out hd gd, s2.hh D _ hd, ?_⟩
      rw [range_step, hp, if_neg Bool.false_ne_true, List.append_nil]
      exact Paired.imp' pr fun _ _ h => mR.up (s2.gS st.gh) h
    · intro hp v G2 H2 s2 r
      have hd2 := s2.hh D _ hd
      have gd2 := s2.out hd gd
      have hl : acc.length ≤ i := by
        rw [paired_len pr, List.length_map]
        have := List.length_filter_le p (List.range i)
        rw [List.length_range] at this
        exact this
      refine ⟨acc, hd2, szl (by omega), G2, acc ++ [v], (st.trans s2).set hD gd2 _, gd2, upd_same, ?_⟩
      rw [range_step, hp, if_pos rfl]
      exact paired_append (Paired.imp' pr fun _ _ h => mR.up (s2.gS st.gh) h) (paired_one r)
  · rintro H' ⟨G', acc, st, gd, hd, pr⟩
    refine k (upd G' D (.lst acc)) H' (st.seal hD gd hd) ⟨D, acc, rfl, upd_same, ?_⟩
    exact Paired.imp' pr fun _ _ h => mR.up (same_new gd _) h
theorem range_fm {α β : Type} (p : α → Bool) (f : α → β) (d : α) : ∀ as : List α, ((List.range as.length).filter fun i => p (as.getD i d)).map (fun i => f (as.getD i d)) = (as.filter p).map f := by
  intro as
  have e : as = (List.range as.length).map fun i => as.getD i d := by
    refine List.ext_getElem (by simp) fun i h1 h2 => ?_
    rw [List.getElem_map, List.getElem_range, List.getD_eq_getElem?_getD, List.getElem?_eq_getElem h1]
    rfl
  conv => rhs; rw [e, List.filter_map, List.map_map]
  rfl
/-- over a list of data, one name -/
theorem lcL {K : PySem.W.Frag} {a : Addr} {xs : List V} {α β : Type} [Inhabited α] {as : List α} {j : Nat} {tt : TT} {te : TE} {vs : List Nat} {σ : L2.St} {G H : Hp} {D : Addr} {Qd : Hp → Prop} {S : Rl α} {R : Rl β} (mS : Mono S) (mR : Mono R) (p : α → Bool) (f : α → β) (hD : H D = none) (gs : Same G H)
    (hx : G a = some (.lst xs)) (px : Paired (S G) xs as) (hn : as.length ≤ 100000) (hw : ∀ x, wipe ((wipe σ vs).set j (some x)) vs = wipe σ vs)
    (turn : ∀ x d G' H', x ∈ xs → d ∈ as → Step G H G' H' → S G' x d → ∀ (N0 : Hp → Prop) (N1 : V → Hp → Prop), (p d = false → ∀ G2 H2, Step G' H' G2 H2 → N0 H2) → (p d = true → ∀ v G2 H2, Step G' H' G2 H2 → R G2 v (f d) → N1 v H2) →
      tt ((wipe σ vs).set j (some x)) H' fun b H3 => if b = true then te ((wipe σ vs).set j (some x)) H3 N1 else N0 H3)
    (k : ∀ G' H', Step G H G' H' → RL R G' (.ref D) ((as.filter p).map f) → Qd H') :
    ∃ W : Nat → Nat → Hp → Prop, (∃ m, W 0 m (upd H D (.lst []))) ∧ ∀ i m H, W i m H →
      ((Itl K a).stop i H ∧ Qd H) ∨ ((Itl K a).go i H ∧ ∃ Nx : Hp → Prop, (∀ H', Nx H' → ∃ m', m' < m ∧ W (i + 1) m' H') ∧ ∀ x H', (Itl K a).yld i H x H' → (gName j) x (wipe σ vs) H' fun σ2 H2 => wipe σ2 vs = wipe σ vs ∧ tt σ2 H2 fun b H3 =>
        if b = true then te σ2 H3 fun y H4 => ∃ acc, H4 D = some (.lst acc) ∧ acc.length < sizeLine ∧ Nx (upd H4 D (.lst (acc ++ [y]))) else Nx H3) := by
  have hl := paired_len px
  refine lcW (walk_list (K := K) (a := a) (xs := xs)) mR (fun i => p (as.getD i default)) (fun i => f (as.getD i default)) hD gs (by omega) (fun G' H' st => SqL.of (st.hh a _ (gs a _ hx))) ?_ ?_
  · rintro i G' H' x H1 hi st ⟨rfl, hxi⟩ N0 N1 h0 h1
    obtain ⟨d, hd, sd⟩ := paired_get px hxi
    have ed : as.getD i default = d := by rw [List.getD_eq_getElem?_getD, hd]; rfl
    rw [ed] at h0 h1
    exact ⟨hw x, turn x d G' H1 (List.mem_of_getElem? hxi) (List.mem_of_getElem? hd) st (mS.up (st.gS gs) sd) N0 N1 h0 h1⟩
  · intro G' H' st r
    rw [hl, range_fm] at r
    exact k G' H' st r
/-- over a range from lo -/
theorem lcR {lo : Int} {n : Nat} {β : Type} {j : Nat} {tt : TT} {te : TE} {vs : List Nat} {σ : L2.St} {G H : Hp} {D : Addr} {Qd : Hp → Prop} {R : Rl β} (mR : Mono R) (p : Nat → Bool) (f : Nat → β) (hD : H D = none) (gs : Same G H) (hn : n ≤ 100000) (hw : ∀ x, wipe ((wipe σ vs).set j (some x)) vs = wipe σ vs)
    (turn : ∀ i G' H', i < n → Step G H G' H' → ∀ (N0 : Hp → Prop) (N1 : V → Hp → Prop), (p i = false → ∀ G2 H2, Step G' H' G2 H2 → N0 H2) → (p i = true → ∀ v G2 H2, Step G' H' G2 H2 → R G2 v (f i) → N1 v H2) →
      tt ((wipe σ vs).set j (some (.int (lo + (i : Nat))))) H' fun b H3 => if b = true then te ((wipe σ vs).set j (some (.int (lo + (i : Nat))))) H3 N1 else N0 H3)
    (k : ∀ G' H', Step G H G' H' → RL R G' (.ref D) (((List.range n).filter p).map f) → Qd H') :
    ∃ W : Nat → Nat → Hp → Prop, (∃ m, W 0 m (upd H D (.lst []))) ∧ ∀ i m H, W i m H →
      ((Itr lo n).stop i H ∧ Qd H) ∨ ((Itr lo n).go i H ∧ ∃ Nx : Hp → Prop, (∀ H', Nx H' → ∃ m', m' < m ∧ W (i + 1) m' H') ∧ ∀ x H', (Itr lo n).yld i H x H' → (gName j) x (wipe σ vs) H' fun σ2 H2 => wipe σ2 vs = wipe σ vs ∧ tt σ2 H2 fun b H3 =>
        if b = true then te σ2 H3 fun y H4 => ∃ acc, H4 D = some (.lst acc) ∧ acc.length < sizeLine ∧ Nx (upd H4 D (.lst (acc ++ [y]))) else Nx H3) := by
  refine lcW (walk_range (lo := lo) (n := n)) mR p f hD gs hn (fun _ _ _ => trivial) ?_ k
  rintro i G' H' x H1 hi st ⟨rfl, rfl⟩ N0 N1 h0 h1
  exact ⟨hw _, turn i G' H1 hi st N0 N1 h0 h1⟩
/-- zip of two lists of numbers -/
theorem lcZ {K : PySem.W.Frag} {a b : Addr} {as bs : List Nat} {β : Type} {j l : Nat} {te : TE} {vs : List Nat} {σ : L2.St} {G H : Hp} {D : Addr} {Qd : Hp → Prop} {R : Rl β} (mR : Mono R) (f : Nat → Nat → β) (hD : H D = none) (gs : Same G H)
    (ha : G a = some (.lst (as.map iv))) (hb : G b = some (.lst (bs.map iv))) (hn : as.length ≤ 100000) (hw : ∀ x y, wipe (((wipe σ vs).set j (some x)).set l (some y)) vs = wipe σ vs)
    (turn : ∀ m n G' H', Step G H G' H' → ∀ (N1 : V → Hp → Prop), (∀ v G2 H2, Step G' H' G2 H2 → R G2 v (f m n) → N1 v H2) → te (((wipe σ vs).set j (some (iv m))).set l (some (iv n))) H' N1)
    (k : ∀ G' H', Step G H G' H' → RL R G' (.ref D) (List.zipWith f as bs) → Qd H') :
    ∃ W : Nat → Nat → Hp → Prop, (∃ m, W 0 m (upd H D (.lst []))) ∧ ∀ i m H, W i m H →
      ((Itz K a b).stop i H ∧ Qd H) ∨ ((Itz K a b).go i H ∧ ∃ Nx : Hp → Prop, (∀ H', Nx H' → ∃ m', m' < m ∧ W (i + 1) m' H') ∧ ∀ x H', (Itz K a b).yld i H x H' → (gTup K 2 (gCons (gName j) (gCons (gName l) gNil))) x (wipe σ vs) H' fun σ2 H2 => wipe σ2 vs = wipe σ vs ∧ tYes σ2 H2 fun b H3 =>
        if b = true then te σ2 H3 fun y H4 => ∃ acc, H4 D = some (.lst acc) ∧ acc.length < sizeLine ∧ Nx (upd H4 D (.lst (acc ++ [y]))) else Nx H3) := by
  refine lcW (walk_zip (K := K) (a := a) (b := b) (xs := as.map iv) (ys := bs.map iv) rfl) mR (fun _ => true) (fun i => f (as.getD i 0) (bs.getD i 0)) hD gs (by rw [List.length_map]; omega) (fun G' H' st => ⟨SqL.of (st.hh a _ (gs a _ ha)), SqL.of (st.hh b _ (gs b _ hb))⟩) ?_ ?_
  · rintro i G' H' x H1 hi st ⟨T, u, v, rfl, nT, rfl, e1, e2⟩ N0 N1 h0 h1
    replace e1 : (as.map iv)[i]? = some u := e1
    replace e2 : (bs.map iv)[i]? = some v := e2
    rw [List.getElem?_map] at e1 e2
    obtain ⟨m, em, rfl⟩ := Option.map_eq_some_iff.mp e1
    obtain ⟨n, en, rfl⟩ := Option.map_eq_some_iff.mp e2
    have st2 : Step G' H' G' (upd H' T (.tup [iv m, iv n])) := .aside st.gh nT _
    refine ⟨T, _, rfl, .inl (.inl upd_same), rfl, iv m, [iv n], rfl, iv n, [], rfl, rfl, hw _ _, ?_⟩
    refine turn m n G' _ (st.trans st2) N1 fun v G2 H2 s2 r => h1 rfl v G2 H2 (st2.trans s2) ?_
    rw [List.getD_eq_getElem?_getD, List.getD_eq_getElem?_getD, em, en]
    exact r
  · intro G' H' st r
    refine k G' H' st ?_
    have e : ((List.range (min (as.map iv).length (bs.map iv).length)).filter fun _ => true).map (fun i => f (as.getD i 0) (bs.getD i 0)) = List.zipWith f as bs := by
      rw [List.filter_eq_self.mpr (fun _ _ => rfl)]
      refine List.ext_getElem (by simp) fun i h1 h2 => ?_
      rw [List.length_zipWith] at h2
      rw [List.getElem_map, List.getElem_range, List.getElem_zipWith, List.getD_eq_getElem?_getD, List.getD_eq_getElem?_getD, List.getElem?_eq_getElem (by omega), List.getElem?_eq_getElem (by omega)]
      rfl
    rw [e] at r
    exact r
/-- [x for l in ls for x in l] -/
theorem lc2 {K : PySem.W.Frag} {a : Addr} {xs : List V} {α : Type} {L : List (List α)} {j l : Nat} {vs vs1 : List Nat} {σ : L2.St} {G H : Hp} {D : Addr} {Qd : Hp → Prop} {S : Rl α} (mS : Mono S) (hD : H D = none) (gs : Same G H)
    (hx : G a = some (.lst xs)) (px : Paired (RL S G) xs L) (hn : L.flatten.length ≤ 100000) (hw : ∀ x, wipe ((wipe σ vs).set j (some x)) vs = wipe σ vs)
    (hj : ∀ x : V, ((wipe σ vs).set j (some x))[j]? = some (some x)) (hw1 : ∀ x y : V, wipe ((wipe ((wipe σ vs).set j (some x)) vs1).set l (some y)) vs1 = wipe ((wipe σ vs).set j (some x)) vs1)
    (hl : ∀ x y : V, ((wipe ((wipe σ vs).set j (some x)) vs1).set l (some y))[l]? = some (some y))
    (k : ∀ G' H', Step G H G' H' → RL S G' (.ref D) L.flatten → Qd H') :
    ∃ W : Nat → Nat → Hp → Prop, (∃ m, W 0 m (upd H D (.lst []))) ∧ ∀ i m H, W i m H →
      ((Itl K a).stop i H ∧ Qd H) ∨ ((Itl K a).go i H ∧ ∃ Nx : Hp → Prop, (∀ H', Nx H' → ∃ m', m' < m ∧ W (i + 1) m' H') ∧ ∀ x H', (Itl K a).yld i H x H' → (gName j) x (wipe σ vs) H' fun σ2 H2 => wipe σ2 vs = wipe σ vs ∧ tYes σ2 H2 fun b H3 =>
        if b = true then (iList K (tVar j)) σ2 H3 fun J1 H4 => ∃ W1 : Nat → Nat → Hp → Prop, (∃ m, W1 0 m H4) ∧ ∀ j k H, W1 j k H →
          (J1.stop j H ∧ Nx H) ∨ (J1.go j H ∧ ∃ Nx1 : Hp → Prop, (∀ H', Nx1 H' → ∃ k', k' < k ∧ W1 (j + 1) k' H') ∧ ∀ x H', J1.yld j H x H' → (gName l) x (wipe σ2 vs1) H' fun σ3 H5 => wipe σ3 vs1 = wipe σ2 vs1 ∧ tYes σ3 H5 fun b H6 =>
            if b = true then (tVar l) σ3 H6 fun y H7 => ∃ acc, H7 D = some (.lst acc) ∧ acc.length < sizeLine ∧ Nx1 (upd H7 D (.lst (acc ++ [y]))) else Nx1 H6)
        else Nx H3) := by
  have hlen := paired_len px
  -- behind i lists and j items of the next one
  let Inv0 : Nat → Hp → Prop := fun i H' => ∃ acc, Same H H' ∧ H' D = some (.lst acc) ∧ Paired (S G) acc (L.take i).flatten
  have gD : G D = none := gs.free hD
  refine ⟨fun i m H' => m = xs.length - i ∧ i ≤ xs.length ∧ Inv0 i H', ⟨xs.length, by simp, Nat.zero_le _, [], same_new hD _, upd_same, .nil⟩, ?_⟩
  rintro i m H' ⟨rfl, hi, acc, sm, hd, pr⟩
  have hA : SqL K H' a xs := SqL.of (sm a _ (gs a _ hx))
  by_cases hlt : i < xs.length
  · refine .inr ⟨⟨xs, xs[i], hA, by simp [hlt]⟩, Inv0 (i + 1), fun H2 h2 => ⟨xs.length - (i + 1), by omega, rfl, hlt, h2⟩, fun x H2 y => ?_⟩
    obtain ⟨rfl, y⟩ := y
    obtain ⟨lot, hlot, b, us, rfl, gb, pu⟩ := paired_get px (y xs hA)
    refine ⟨hw _, ?_⟩
    simp only [tYes, if_true]
    have hB : ∀ {H3 : Hp}, Same H H3 → SqL K H3 b us := fun s3 => SqL.of (s3 b _ (gs b _ gb))
    refine ⟨.ref b, hj _, b, rfl, ⟨us, hB sm⟩, ?_⟩
    refine ⟨fun t m H3 => m = us.length - t ∧ t ≤ us.length ∧ ∃ acc, Same H H3 ∧ H3 D = some (.lst acc) ∧ Paired (S G) acc ((L.take i).flatten ++ lot.take t), ⟨us.length, by simp, Nat.zero_le _, acc, sm, hd, by rw [List.take_zero, List.append_nil]; exact pr⟩, ?_⟩
    rintro t m H3 ⟨rfl, ht, acc3, sm3, hd3, pr3⟩
    have hul := paired_len pu
    by_cases htl : t < us.length
    · refine .inr ⟨⟨us, us[t], hB sm3, by simp [htl]⟩, fun H4 => ∃ acc, Same H H4 ∧ H4 D = some (.lst acc) ∧ Paired (S G) acc ((L.take i).flatten ++ lot.take (t + 1)), fun H4 h4 => ⟨us.length - (t + 1), by omega, rfl, htl, h4⟩, fun x H4 y4 => ?_⟩
      obtain ⟨rfl, y4⟩ := y4
      have hxt := y4 us (hB sm3)
      obtain ⟨d, hdt, sd⟩ := paired_get pu hxt
      refine ⟨hw1 _ _, ?_⟩
      simp only [tYes, if_true]
      have hll : acc3.length ≤ 100000 := by
        rw [paired_len pr3]
        have h1 : (L.take i).flatten.length + lot.length ≤ L.flatten.length := by
          have e : L = L.take i ++ lot :: L.drop (i + 1) := by
            have hiL : i < L.length := by omega
            have : L[i] = lot := by
              have := List.getElem?_eq_getElem hiL
              rw [hlot] at this
              exact (Option.some.inj this).symm
            rw [← this, ← List.drop_eq_getElem_cons hiL, List.take_append_drop]
          conv => rhs; rw [e]
          rw [List.flatten_append, List.flatten_cons, List.length_append, List.length_append]
          omega
        rw [List.length_append, List.length_take]
        omega
      refine ⟨x, hl _ _, acc3, hd3, szl hll, acc3 ++ [x], fun c o e => by rw [upd_ne (ne_of_none e hD)]; exact sm3 c o e, upd_same, ?_⟩
      rw [List.take_add_one, hdt, ← List.append_assoc]
      exact paired_append pr3 (paired_one sd)
    · refine .inl ⟨⟨us, hB sm3, by omega⟩, acc3, sm3, hd3, ?_⟩
      have e : lot.take t = lot := List.take_of_length_le (by omega)
      rw [e] at pr3
      rw [List.take_add_one, hlot, List.flatten_append]
      simpa using pr3
  · refine .inl ⟨⟨xs, hA, by omega⟩, ?_⟩
    have e : L.take i = L := List.take_of_length_le (by omega)
    rw [e] at pr
    refine k (upd G D (.lst acc)) H' ⟨sm, ?_, fun b hb => upd_ne (fun e => hb (by rw [e]; exact hD))⟩ ⟨D, acc, rfl, upd_same, Paired.imp' pr fun _ _ h => mS.up (same_new gD _) h⟩
    intro b u q
    by_cases hb : b = D
    · subst hb; rw [upd_same] at q; rw [← q]; exact hd
    · rw [upd_ne hb] at q; exact sm b u (gs b u q)
end K25
namespace K25
open PySem PySem.Spec PyProof.Rows L2

/-! ### the text -/
def topS (i : Nat) : Stmt := PySem.Challenge.pw_fromplaces_k25_whole_lots_of_ways.main.body.getD i (.Pass ⟨0, 0, 0, 0⟩)
abbrev sIsInteger : Stmt := topS 8
abbrev NIsInteger : List Str := ["value"]
theorem scIsInteger : FnScope NIsInteger ["value"] (defScope sIsInteger) := ⟨rfl, rfl, rfl, by decide +kernel, rfl, by decide +kernel, by decide +kernel⟩
abbrev sIsCount : Stmt := topS 9
abbrev NIsCount : List Str := ["value"]
theorem scIsCount : FnScope NIsCount ["value"] (defScope sIsCount) := ⟨rfl, rfl, rfl, by decide +kernel, rfl, by decide +kernel, by decide +kernel⟩
abbrev sIsList : Stmt := topS 10
abbrev NIsList : List Str := ["value"]
theorem scIsList : FnScope NIsList ["value"] (defScope sIsList) := ⟨rfl, rfl, rfl, by decide +kernel, rfl, by decide +kernel, by decide +kernel⟩
abbrev sWantAtMost : Stmt := topS 11
abbrev NWantAtMost : List Str := ["what", "limit", "number"]
theorem scWantAtMost : FnScope NWantAtMost ["what", "limit", "number"] (defScope sWantAtMost) := ⟨rfl, rfl, rfl, by decide +kernel, rfl, by decide +kernel, by decide +kernel⟩
abbrev sWantCounts : Stmt := topS 15
abbrev NWantCounts : List Str := ["value", "count"]
theorem scWantCounts : FnScope NWantCounts ["value"] (defScope sWantCounts) := ⟨rfl, rfl, rfl, by decide +kernel, rfl, by decide +kernel, by decide +kernel⟩
abbrev sWantMany : Stmt := topS 16
abbrev NWantMany : List Str := ["value", "most"]
theorem scWantMany : FnScope NWantMany ["value", "most"] (defScope sWantMany) := ⟨rfl, rfl, rfl, by decide +kernel, rfl, by decide +kernel, by decide +kernel⟩
abbrev sCommonOf : Stmt := topS 17
abbrev NCommonOf : List Str := ["counts", "found", "count"]
theorem scCommonOf : FnScope NCommonOf ["counts"] (defScope sCommonOf) := ⟨rfl, rfl, rfl, by decide +kernel, rfl, by decide +kernel, by decide +kernel⟩
abbrev sMetMarks : Stmt := topS 18
abbrev NMetMarks : List Str := ["counts", "many", "found", "number", "count"]
theorem scMetMarks : FnScope NMetMarks ["counts", "many"] (defScope sMetMarks) := ⟨rfl, rfl, rfl, by decide +kernel, rfl, by decide +kernel, by decide +kernel⟩
abbrev sGapsOf : Stmt := topS 19
abbrev NGapsOf : List Str := ["counts", "step", "least", "marks", "found", "row", "number", "here", "count"]
theorem scGapsOf : FnScope NGapsOf ["counts"] (defScope sGapsOf) := ⟨rfl, rfl, rfl, by decide +kernel, rfl, by decide +kernel, by decide +kernel⟩
abbrev sManyWays : Stmt := topS 24
abbrev NManyWays : List Str := ["counts", "many", "found", "count", "number"]
theorem scManyWays : FnScope NManyWays ["counts", "many"] (defScope sManyWays) := ⟨rfl, rfl, rfl, by decide +kernel, rfl, by decide +kernel, by decide +kernel⟩
abbrev sWaysFrom : Stmt := topS 25
abbrev NWaysFrom : List Str := ["counts", "marks", "many", "found", "first", "left", "rest"]
theorem scWaysFrom : FnScope NWaysFrom ["counts", "marks", "many"] (defScope sWaysFrom) := ⟨rfl, rfl, rfl, by decide +kernel, rfl, by decide +kernel, by decide +kernel⟩
abbrev sWaysOf : Stmt := topS 26
abbrev NWaysOf : List Str := ["counts", "many", "at"]
theorem scWaysOf : FnScope NWaysOf ["counts", "many"] (defScope sWaysOf) := ⟨rfl, rfl, rfl, by decide +kernel, rfl, by decide +kernel, by decide +kernel⟩
abbrev sAreNeighbours : Stmt := topS 27
abbrev NAreNeighbours : List Str := ["way", "other", "near", "far"]
theorem scAreNeighbours : FnScope NAreNeighbours ["way", "other"] (defScope sAreNeighbours) := ⟨rfl, rfl, rfl, by decide +kernel, rfl, by decide +kernel, by decide +kernel⟩
abbrev sLotsAmong : Stmt := topS 28
abbrev NLotsAmong : List Str := ["some", "lots", "way", "near", "far", "lot", "other"]
theorem scLotsAmong : FnScope NLotsAmong ["some"] (defScope sLotsAmong) := ⟨rfl, rfl, rfl, by decide +kernel, rfl, by decide +kernel, by decide +kernel⟩
abbrev sManyLots : Stmt := topS 29
abbrev NManyLots : List Str := ["counts", "marks", "number", "ends", "pieces", "at", "near", "piece", "rests", "count", "to", "rest"]
theorem scManyLots : FnScope NManyLots ["counts", "marks", "number"] (defScope sManyLots) := ⟨rfl, rfl, rfl, by decide +kernel, rfl, by decide +kernel, by decide +kernel⟩
abbrev sTurningOf : Stmt := topS 30
abbrev NTurningOf : List Str := ["counts", "unmet", "most", "marks", "number"]
theorem scTurningOf : FnScope NTurningOf ["counts"] (defScope sTurningOf) := ⟨rfl, rfl, rfl, by decide +kernel, rfl, by decide +kernel, by decide +kernel⟩
abbrev sToldWays : Stmt := topS 31
abbrev NToldWays : List Str := ["counts", "many", "told"]
theorem scToldWays : FnScope NToldWays ["counts", "many"] (defScope sToldWays) := ⟨rfl, rfl, rfl, by decide +kernel, rfl, by decide +kernel, by decide +kernel⟩
abbrev sWays : Stmt := topS 32
abbrev NWays : List Str := ["counts", "many"]
theorem scWays : FnScope NWays ["counts", "many"] (defScope sWays) := ⟨rfl, rfl, rfl, by decide +kernel, rfl, by decide +kernel, by decide +kernel⟩
abbrev sLotsOfWays : Stmt := topS 33
abbrev NLotsOfWays : List Str := ["counts", "many"]
theorem scLotsOfWays : FnScope NLotsOfWays ["counts", "many"] (defScope sLotsOfWays) := ⟨rfl, rfl, rfl, by decide +kernel, rfl, by decide +kernel, by decide +kernel⟩
abbrev sTurningCounts : Stmt := topS 34
abbrev NTurningCounts : List Str := ["counts", "told"]
theorem scTurningCounts : FnScope NTurningCounts ["counts"] (defScope sTurningCounts) := ⟨rfl, rfl, rfl, by decide +kernel, rfl, by decide +kernel, by decide +kernel⟩
abbrev sLawPot : Stmt := topS 36
abbrev NLawPot : List Str := ["_law_script", "_law_k", "_law_cell"]
theorem scLawPot : FnScope NLawPot ["_law_script", "_law_k"] (defScope sLawPot) := ⟨rfl, rfl, rfl, by decide +kernel, rfl, by decide +kernel, by decide +kernel⟩
abbrev sLawDraw : Stmt := topS 37
abbrev NLawDraw : List Str := ["_law_pot_here", "_law_many", "_law_digit"]
theorem scLawDraw : FnScope NLawDraw ["_law_pot_here", "_law_many"] (defScope sLawDraw) := ⟨rfl, rfl, rfl, by decide +kernel, rfl, by decide +kernel, by decide +kernel⟩
abbrev sLawWays : Stmt := topS 38
abbrev NLawWays : List Str := ["_law_counts_here", "_law_many", "_law_found", "_law_first", "_law_rest"]
theorem scLawWays : FnScope NLawWays ["_law_counts_here", "_law_many"] (defScope sLawWays) := ⟨rfl, rfl, rfl, by decide +kernel, rfl, by decide +kernel, by decide +kernel⟩
abbrev sLawMeet : Stmt := topS 39
abbrev NLawMeet : List Str := ["_law_way", "_law_other", "_law_near", "_law_far"]
theorem scLawMeet : FnScope NLawMeet ["_law_way", "_law_other"] (defScope sLawMeet) := ⟨rfl, rfl, rfl, by decide +kernel, rfl, by decide +kernel, by decide +kernel⟩
abbrev sLawLots : Stmt := topS 40
abbrev NLawLots : List Str := ["_law_some", "_law_lots_here", "_law_way", "_law_held", "_law_left", "_law_lot", "_law_other"]
theorem scLawLots : FnScope NLawLots ["_law_some"] (defScope sLawLots) := ⟨rfl, rfl, rfl, by decide +kernel, rfl, by decide +kernel, by decide +kernel⟩
abbrev sLawCounts : Stmt := topS 41
abbrev NLawCounts : List Str := ["_law_pot_here", "_law_most_many", "_law_most", "_law_found", "_law_turn"]
theorem scLawCounts : FnScope NLawCounts ["_law_pot_here", "_law_most_many", "_law_most"] (defScope sLawCounts) := ⟨rfl, rfl, rfl, by decide +kernel, rfl, by decide +kernel, by decide +kernel⟩
abbrev sLawTotal : Stmt := topS 42
abbrev NLawTotal : List Str := ["_law_lot", "_law_found", "_law_way", "_law_near", "_law_far"]
theorem scLawTotal : FnScope NLawTotal ["_law_lot"] (defScope sLawTotal) := ⟨rfl, rfl, rfl, by decide +kernel, rfl, by decide +kernel, by decide +kernel⟩
abbrev sLawRight : Stmt := topS 43
abbrev NLawRight : List Str := ["_law_pot_here", "_law_counts_here", "_law_many", "_law_some", "_law_due", "_law_told", "_law_whole", "_law_lot", "_law_mate", "_law_way"]
theorem scLawRight : FnScope NLawRight ["_law_pot_here"] (defScope sLawRight) := ⟨rfl, rfl, rfl, by decide +kernel, rfl, by decide +kernel, by decide +kernel⟩
abbrev sLaw : Stmt := topS 44
abbrev NLaw : List Str := ["_law_script", "_law_k"]
theorem scLaw : FnScope NLaw ["_law_script"] (defScope sLaw) := ⟨rfl, rfl, rfl, by decide +kernel, rfl, by decide +kernel, by decide +kernel⟩

/-- a def of the text, under its name -/
structure Df (K : PySem.W.Frag) (mg : Str → Option Value) (x : Str) (st : Stmt) : Prop where
  ex : ∃ f fd, Fun K x x st f fd ∧ mg x = some (.ref f)
structure Txt (mg : Str → Option Value) : Prop where
  int_ : mg "int" = none
  bool_ : mg "bool" = none
  list_ : mg "list" = none
  tuple_ : mg "tuple" = none
  isinstance_ : mg "isinstance" = none
  len_ : mg "len" = none
  any_ : mg "any" = none
  all_ : mg "all" = none
  range_ : mg "range" = none
  zip_ : mg "zip" = none
  enumerate_ : mg "enumerate" = none
  sorted_ : mg "sorted" = none
  sum_ : mg "sum" = none
  min_ : mg "min" = none
  max_ : mg "max" = none
  abs_ : mg "abs" = none
  divmod_ : mg "divmod" = none
  gcd : mg "gcd" = some (.builtin "math.gcd")
  MOST_COUNTS : ∃ u, mg "MOST_COUNTS" = some u ∧ RelV (.int 8) u
  MOST_COUNT : ∃ u, mg "MOST_COUNT" = some u ∧ RelV (.int 48) u
  MOST_MANY : ∃ u, mg "MOST_MANY" = some u ∧ RelV (.int 200) u
  MOST_WAYS : ∃ u, mg "MOST_WAYS" = some u ∧ RelV (.int 400) u
  MOST_TURNING : ∃ u, mg "MOST_TURNING" = some u ∧ RelV (.int 24) u
section
variable {P : Program} {w : World} {K : PySem.W.Frag} {mg : Str → Option Value} {base : Heap}
theorem cal_of {x : Str} {st : Stmt} {N ps : List Str} {k : Nat} {sp : Sp} (D : Df K mg x st) (S : FnScope N ps (defScope st))
    (hb : ∀ (kV doc pm : Value) (an : Option Addr) (cdv ct : Value) (us : List Value), us.length = ps.length → bindArgs (PySem.W.fnOf x x (defArgs st) (defBody st) (defScope st) .none kV doc pm an cdv ct) ⟨us, []⟩ = pure (ps.zip us))
    (len : ∀ vs H Q E, sp vs H Q E → vs.length = ps.length)
    (hbody : ∀ (f : Addr) (cdv : Value) (A : Around) (outer : List Env) (s : Shared) (H : Hp) (vs : List V) (Q : VK) (E : XK), Room k (A.deeper (envOfC x (defScope st) s.heap.objs.size f cdv)) → sp vs H Q E →
      ∃ t, PSs (cxOf CX0 P w K mg base N x (defScope st) f cdv A outer s H E).nox (defBody st) t ∧ t { nx := fun _ H' => Q .non H', rt := Q } (start N vs) H) : Cal P w K mg base (k + 1) x sp := by
  obtain ⟨f, fd, F, m⟩ := D.ex
  exact ⟨f, fd, ps, F.ok S len (hbody f), m, F.kp, F.binds hb⟩

theorem bT {p : Prop} [Decidable p] (h : p) : V.bl (decide p) = V.bl true := by rw [decide_eq_true h]
theorem bF {p : Prop} [Decidable p] (h : ¬ p) : V.bl (decide p) = V.bl false := by rw [decide_eq_false h]
theorem qT {p : Prop} [Decidable p] {Q : VK} {H : Hp} (h : p) (q : Q (.bl true) H) : Q (.bl (decide p)) H := by rw [decide_eq_true h]; exact q
theorem qF {p : Prop} [Decidable p] {Q : VK} {H : Hp} (h : ¬ p) (q : Q (.bl false) H) : Q (.bl (decide p)) H := by rw [decide_eq_false h]; exact q
theorem tyes {te : TE} {σ : L2.St} {H : Hp} {N0 : Hp → Prop} {N1 : VK} (h : te σ H N1) : tYes σ H (fun b H3 => if b = true then te σ H3 N1 else N0 H3) := by
  show (if true = true then te σ H N1 else N0 H)
  rw [if_pos rfl]
  exact h
/-! ### the small ones -/
def spIsInteger : Sp := fun vs H Q _ => ∃ n : Int, vs = [.int n] ∧ Q (.bl true) H
theorem ok_is_integer (D : Df K mg "is_integer" sIsInteger) (T : Txt mg) : Cal P w K mg base 1 "is_integer" spIsInteger := by
  refine cal_of D scIsInteger (fun _ _ _ _ _ _ us hl => match us, hl with | [_], _ => rfl) (fun vs H Q E h => ?_) (fun f cdv A outer s H vs Q E hr h => ?_)
  · obtain ⟨n, rfl, _⟩ := h; rfl
  obtain ⟨n, rfl, q⟩ := h
  refine ⟨_, (pss_one (ps_ret (pe_and (pe_callB call_isi (by rfl) T.isinstance_ (by decide +kernel) (pa_cons (pv 0) (pa_cons (pe_bltn (v := .ty "int") (by rfl) T.int_ (by decide +kernel) rfl) pa_nil))) (pe_one (pe_not (pe_callB call_isi (by rfl) T.isinstance_ (by decide +kernel) (pa_cons (pv 0) (pa_cons (pe_bltn (v := .ty "bool") (by rfl) T.bool_ (by decide +kernel) rfl) pa_nil)))))))), ?_⟩
  refine ⟨_, rfl, .int n, .ty "int", _, _, true, rfl, .ty _, .base (.int n), kit_ty (by decide +kernel), true, rfl, ?_⟩
  rw [if_pos rfl]
  refine ⟨_, rfl, .int n, .ty "bool", _, _, false, rfl, .ty _, .base (.int n), kit_ty (by decide +kernel), false, rfl, ?_⟩
  exact q
def spIsCount : Sp := fun vs H Q _ => ∃ n : Int, vs = [.int n] ∧ 0 ≤ n ∧ Q (.bl true) H
theorem ok_is_count (D : Df K mg "is_count" sIsCount) (T : Txt mg) (c_is_integer : Cal P w K mg base 1 "is_integer" spIsInteger) : Cal P w K mg base 2 "is_count" spIsCount := by
  refine cal_of D scIsCount (fun _ _ _ _ _ _ us hl => match us, hl with | [_], _ => rfl) (fun vs H Q E h => ?_) (fun f cdv A outer s H vs Q E hr h => ?_)
  · obtain ⟨n, rfl, _⟩ := h; rfl
  obtain ⟨n, rfl, h0, q⟩ := h
  refine ⟨_, (pss_one (ps_ret (pe_and (pe_c c_is_integer hr (by decide) (by rfl) (pa_cons (pv 0) pa_nil)) (pe_one (pe_cmpR op_ge (pv 0) pe_int (nomark _)))))), ?_⟩
  refine ⟨_, rfl, n, rfl, true, rfl, ?_⟩
  rw [if_pos rfl]
  refine ⟨_, rfl, n, 0, rfl, rfl, ?_⟩
  exact qT (Q := Q) h0 q
def spIsList : Sp := fun vs H Q _ => ∃ a xs, vs = [.ref a] ∧ (H a = some (.lst xs) ∨ H a = some (.tup xs)) ∧ ∀ H', Same H H' → Q (.bl true) H'
theorem ok_is_list (D : Df K mg "is_list" sIsList) (T : Txt mg) : Cal P w K mg base 1 "is_list" spIsList := by
  refine cal_of D scIsList (fun _ _ _ _ _ _ us hl => match us, hl with | [_], _ => rfl) (fun vs H Q E h => ?_) (fun f cdv A outer s H vs Q E hr h => ?_)
  · obtain ⟨a, xs, rfl, _⟩ := h; rfl
  obtain ⟨a, xs, rfl, ha, q⟩ := h
  refine ⟨_, (pss_one (ps_ret (pe_callB call_isiT (by rfl) T.isinstance_ (by decide +kernel) (pa_cons (pv 0) (pa_cons (pe_tup (pa_cons (pe_bltn (v := .ty "list") (by rfl) T.list_ (by decide +kernel) rfl) (pa_cons (pe_bltn (v := .ty "tuple") (by rfl) T.tuple_ (by decide +kernel) rfl) pa_nil))) pa_nil))))), ?_⟩
  refine ⟨_, rfl, (by show 2 ≤ sizeLine; decide), fun p hp => ?_⟩
  have sm := same_new hp (.tup [.ty "list", .ty "tuple"])
  rcases ha with ha | ha
  · refine ⟨.ref a, p, _, _, _, true, rfl, upd_same, .cons (.ty _) (.cons (.ty _) .nil), .base (.lst (sm a _ ha)), kitAny_cons (b := true) (kit_ty (by decide +kernel)) (fun z => nomatch z) (fun _ => rfl), q _ sm⟩
  · refine ⟨.ref a, p, _, _, _, true, rfl, upd_same, .cons (.ty _) (.cons (.ty _) .nil), .base (.tup (sm a _ ha)), kitAny_cons (b := false) (kit_ty (by decide +kernel)) (fun _ => kitAny_cons (b := true) (kit_ty (by decide +kernel)) (fun z => nomatch z) (fun _ => rfl)) (fun z => nomatch z), q _ sm⟩
def spAtMost : Sp := fun vs H Q _ => ∃ (v : V) (l n : Int), vs = [v, .int l, .int n] ∧ n ≤ l ∧ Q .non H
theorem ok_want_at_most (D : Df K mg "want_at_most" sWantAtMost) : Cal P w K mg base 1 "want_at_most" spAtMost := by
  refine cal_of D scWantAtMost (fun _ _ _ _ _ _ us hl => match us, hl with | [_, _, _], _ => rfl) (fun vs H Q E h => ?_) (fun f cdv A outer s H vs Q E hr h => ?_)
  · obtain ⟨v, l, n, rfl, _⟩ := h; rfl
  obtain ⟨v, l, n, rfl, h0, q⟩ := h
  refine ⟨_, (pss_one (ps_if (pt_cmpR op_gt (pv 2) (pv 1) (nomark _)) (pss_one ps_never) pss_nil)), ?_⟩
  refine ⟨_, rfl, _, rfl, n, l, rfl, rfl, false, ?_, ?_⟩
  · exact bF (by omega)
  · exact iteF q
def spWantMany : Sp := fun vs H Q _ => ∃ n m : Int, vs = [.int n, .int m] ∧ 0 ≤ n ∧ n ≤ m ∧ Q .non H
theorem ok_want_many (D : Df K mg "want_many" sWantMany) (c_is_count : Cal P w K mg base 2 "is_count" spIsCount) : Cal P w K mg base 3 "want_many" spWantMany := by
  refine cal_of D scWantMany (fun _ _ _ _ _ _ us hl => match us, hl with | [_, _], _ => rfl) (fun vs H Q E h => ?_) (fun f cdv A outer s H vs Q E hr h => ?_)
  · obtain ⟨n, m, rfl, _⟩ := h; rfl
  obtain ⟨n, m, rfl, h0, h1, q⟩ := h
  refine ⟨_, (pss_one (ps_if (PW.pt (pw_or (pt_not (pt_val (pe_c c_is_count hr (by decide) (by rfl) (pa_cons (pv 0) pa_nil)))) (pw_or1 (pt_cmpR op_gt (pv 0) (pv 1) (nomark _))))) (pss_one ps_never) pss_nil)), ?_⟩
  refine ⟨_, rfl, n, rfl, h0, true, rfl, ?_⟩
  refine iteF ?_
  refine ⟨_, rfl, _, rfl, n, m, rfl, rfl, false, ?_, ?_⟩
  · exact bF (by omega)
  · exact iteF q
def gcdZ (ns : List Nat) : Int := (gcdL ns : Nat)
def spCommon : Sp := fun vs H Q _ => ∃ (a : Addr) (ns : List Nat), vs = [.ref a] ∧ H a = some (.lst (ns.map iv)) ∧ Q (.int (gcdL ns : Nat)) H
theorem ok_common_of (D : Df K mg "common_of" sCommonOf) (T : Txt mg) : Cal P w K mg base 1 "common_of" spCommon := by
  refine cal_of D scCommonOf (fun _ _ _ _ _ _ us hl => match us, hl with | [_], _ => rfl) (fun vs H Q E h => ?_) (fun f cdv A outer s H vs Q E hr h => ?_)
  · obtain ⟨a, ns, rfl, _⟩ := h; rfl
  obtain ⟨a, ns, rfl, ha, q⟩ := h
  refine ⟨_, (pss_cons (ps_set (i := 1) scCommonOf.nd rfl (by first | exact Or.inl rfl | exact Or.inr rfl) pe_int)
    (pss_cons (ps_for PassesOwn.never rfl (pi_listK (K := K) rfl (pv 0)) (pg_name (i := 2) scCommonOf.nd rfl (by first | exact Or.inl rfl | exact Or.inr rfl)) (pss_one (ps_set (i := 1) scCommonOf.nd rfl (by first | exact Or.inl rfl | exact Or.inr rfl) (pe_callBfun cr_gcd (by rfl) T.gcd (pa_cons (pv 1) (pa_cons (pv 2) pa_nil))))))
    (pss_one (ps_ret (pv 1))))), ?_⟩
  refine ⟨.ref a, rfl, a, rfl, ⟨_, SqL.of ha⟩, for_list (xs := ns.map iv) (fun i σ H' => ∃ y, σ = [some (.ref a), some (.int (((ns.take i).foldl Nat.gcd 0 : Nat) : Int)), y] ∧ H' = H) ⟨none, rfl, rfl⟩ ?_ ?_ ?_⟩
  · rintro i σ H' _ ⟨_, _, rfl⟩
    exact SqL.of ha
  · rintro i x σ H' hx ⟨y, rfl, rfl⟩
    rw [List.getElem?_map] at hx
    obtain ⟨n, hn, rfl⟩ := Option.map_eq_some_iff.mp hx
    refine ⟨_, rfl, _, rfl, _, (n : Int), rfl, ?_⟩
    refine ⟨some (iv n), ?_, rfl⟩
    rw [List.take_add_one, hn]
    show _ = [some (V.ref a), some (.int (((ns.take i ++ [n]).foldl Nat.gcd 0 : Nat) : Int)), some (iv n)]
    rw [List.foldl_append]
    rfl
  · rintro σ H' ⟨y, rfl, rfl⟩
    refine ⟨_, rfl, ?_⟩
    rw [List.take_of_length_le (by rw [List.length_map]; exact Nat.le_refl _)]
    exact q
end
end K25
namespace K25
open PySem PySem.Spec PyProof.Rows L2
section
variable {P : Program} {w : World} {K : PySem.W.Frag} {mg : Str → Option Value} {base : Heap}
/-! ### counts that are passed -/
def spWantCounts : Sp := fun vs H Q _ => ∃ (a : Addr) (ns : List Nat), vs = [.ref a] ∧ (H a = some (.lst (ns.map iv)) ∨ H a = some (.tup (ns.map iv))) ∧ 1 ≤ ns.length ∧ ns.length ≤ 8 ∧ (∀ n ∈ ns, 1 ≤ n ∧ n ≤ 48) ∧
  ∀ p H', H p = none → Same H H' → H' p = some (.lst (ns.map iv)) → Q (.ref p) H'
theorem all_true {n : Nat} : ((List.range n).map fun _ => true).all id = true := by simp
theorem ok_want_counts (D : Df K mg "want_counts" sWantCounts) (T : Txt mg) (c_is_count : Cal P w K mg base 2 "is_count" spIsCount) (c_is_list : Cal P w K mg base 1 "is_list" spIsList) : Cal P w K mg base 3 "want_counts" spWantCounts := by
  refine cal_of D scWantCounts (fun _ _ _ _ _ _ us hl => match us, hl with | [_], _ => rfl) (fun vs H Q E h => ?_) (fun f cdv A outer s H vs Q E hr h => ?_)
  · obtain ⟨a, ns, rfl, _⟩ := h; rfl
  obtain ⟨a, ns, rfl, ha, h1, h8, hn, q⟩ := h
  have hl : (ns.map iv).length = ns.length := List.length_map _
  have each : ∀ {H2 : Hp} {i : Nat} {x : V}, (ns.map iv)[i]? = some x → ∃ n : Nat, x = iv n ∧ 1 ≤ n ∧ n ≤ 48 := by
    intro H2 i x hx
    rw [List.getElem?_map] at hx
    obtain ⟨n, e, rfl⟩ := Option.map_eq_some_iff.mp hx
    exact ⟨n, rfl, hn n (List.mem_of_getElem? e)⟩
  rcases ha with ha | ha
  · refine ⟨_, (pss_cons (ps_if (PW.pt (pw_or (pt_not (pt_val (pe_c c_is_list hr (by decide) (by rfl) (pa_cons (pv 0) pa_nil)))) (pw_or1 (pt_not (pt_chain op_le op_le pe_int (pe_callB (call_lenK (K := K) rfl) (by rfl) T.len_ (by decide +kernel) (pa_cons (pv 0) pa_nil)) (pe_gc (by rfl) T.MOST_COUNTS)))))) (pss_one ps_never) pss_nil)
    (pss_cons (ps_if (pt_not (pt_val (pe_callB (cr_allK (K := K) rfl rfl) (by rfl) T.all_ (by decide +kernel) (pa_cons (pe_lc (own := [(("count" : Str), 1)]) rfl scWantCounts.nd (pi_listK (K := K) rfl (pv 0)) (blkOk_by (N := [("value" : Str), ("count" : Str)]) (sc := defScope sWantCounts) (own := [(("count" : Str), 1)]) (by decide +kernel)) (fun _ _ _ _ _ => (pg_name (i := 1) scWantCounts.nd rfl (Or.inl rfl))) (fun _ _ _ _ _ => pts_nil) (fun _ _ _ _ _ => (pe_and (pe_c c_is_count hr (by decide) (by rfl) (pa_cons (pv 1) pa_nil)) (pe_one (pe_chain op_le op_le pe_int (pv 1) (pe_gc (by rfl) T.MOST_COUNT)))))) pa_nil)))) (pss_one ps_never) pss_nil)
    (pss_one (ps_ret (pe_callTy (call_listK (K := K) rfl) (by rfl) T.list_ (by decide +kernel) (pa_cons (pv 0) pa_nil)))))), ?_⟩
    refine ⟨_, rfl, a, _, rfl, .inl ha, fun H1 s1 => ⟨true, rfl, ?_⟩⟩
    refine iteF ?_
    refine ⟨_, rfl, a, _, rfl, .inl (SqL.of (s1 a _ ha)), 1, _, rfl, rfl, _, rfl, ?_⟩
    rw [hl]
    refine ite2 (fun _ => ?_) (fun z => absurd (decide_eq_true (by omega)) z)
    refine ⟨_, 8, rfl, rfl, true, bT (by omega), iteF ?_⟩
    refine ⟨_, rfl, a, rfl, ⟨_, SqL.of (s1 a _ ha)⟩, ?_⟩
    refine fun D' hD => lcW (walk_list (K := K) (a := a) (xs := ns.map iv)) mRB (fun _ => true) (fun _ => true) hD (Same.refl H1) (by omega) (fun G' H' st => SqL.of (st.hh a _ (s1 a _ ha))) ?_ ?_
    · rintro i G' H' x H2 hi st ⟨rfl, hx⟩ N0 N1 h0 h1
      obtain ⟨n, rfl, k1, k2⟩ := each (H2 := H2) hx
      refine ⟨rfl, tyes ?_⟩
      refine ⟨_, rfl, (n : Int), rfl, by omega, true, rfl, ?_⟩
      refine iteT ?_
      refine ⟨_, rfl, 1, (n : Int), rfl, rfl, _, rfl, ?_⟩
      refine ite2 (fun _ => ?_) (fun z => absurd (decide_eq_true (by omega)) z)
      exact ⟨(n : Int), 48, rfl, rfl, h1 rfl _ G' H2 (.refl st.gh) (bT (by omega))⟩
    · intro G' H' st r
      obtain ⟨b, e, gb⟩ := rb_at r
      refine ⟨b, _, by rw [e], SqL.of (st.gh b _ gb), true, ?_, iteF ?_⟩
      · rw [List.filter_eq_self.mpr (fun _ _ => rfl), all_true]
      · refine ⟨_, rfl, a, _, rfl, .inl (SqL.of (st.hh a _ (s1 a _ ha))), fun l hl2 => ?_⟩
        exact q l _ (s1.free (st.hh.free hl2)) ((s1.trans st.hh).trans (same_new hl2 _)) upd_same
  · refine ⟨_, (pss_cons (ps_if (PW.pt (pw_or (pt_not (pt_val (pe_c c_is_list hr (by decide) (by rfl) (pa_cons (pv 0) pa_nil)))) (pw_or1 (pt_not (pt_chain op_le op_le pe_int (pe_callB (call_lenK (K := K) rfl) (by rfl) T.len_ (by decide +kernel) (pa_cons (pv 0) pa_nil)) (pe_gc (by rfl) T.MOST_COUNTS)))))) (pss_one ps_never) pss_nil)
    (pss_cons (ps_if (pt_not (pt_val (pe_callB (cr_allK (K := K) rfl rfl) (by rfl) T.all_ (by decide +kernel) (pa_cons (pe_lc (own := [(("count" : Str), 1)]) rfl scWantCounts.nd (pi_tupK (K := K) rfl (pv 0)) (blkOk_by (N := [("value" : Str), ("count" : Str)]) (sc := defScope sWantCounts) (own := [(("count" : Str), 1)]) (by decide +kernel)) (fun _ _ _ _ _ => (pg_name (i := 1) scWantCounts.nd rfl (Or.inl rfl))) (fun _ _ _ _ _ => pts_nil) (fun _ _ _ _ _ => (pe_and (pe_c c_is_count hr (by decide) (by rfl) (pa_cons (pv 1) pa_nil)) (pe_one (pe_chain op_le op_le pe_int (pv 1) (pe_gc (by rfl) T.MOST_COUNT)))))) pa_nil)))) (pss_one ps_never) pss_nil)
    (pss_one (ps_ret (pe_callTy (call_listK (K := K) rfl) (by rfl) T.list_ (by decide +kernel) (pa_cons (pv 0) pa_nil)))))), ?_⟩
    refine ⟨_, rfl, a, _, rfl, .inr ha, fun H1 s1 => ⟨true, rfl, ?_⟩⟩
    refine iteF ?_
    refine ⟨_, rfl, a, _, rfl, .inr (SqT.of (s1 a _ ha)), 1, _, rfl, rfl, _, rfl, ?_⟩
    rw [hl]
    refine ite2 (fun _ => ?_) (fun z => absurd (decide_eq_true (by omega)) z)
    refine ⟨_, 8, rfl, rfl, true, bT (by omega), iteF ?_⟩
    refine ⟨_, rfl, a, rfl, ⟨_, SqT.of (s1 a _ ha)⟩, ?_⟩
    refine fun D' hD => lcW (walk_tup (K := K) (a := a) (xs := ns.map iv)) mRB (fun _ => true) (fun _ => true) hD (Same.refl H1) (by omega) (fun G' H' st => SqT.of (st.hh a _ (s1 a _ ha))) ?_ ?_
    · rintro i G' H' x H2 hi st ⟨rfl, hx⟩ N0 N1 h0 h1
      obtain ⟨n, rfl, k1, k2⟩ := each (H2 := H2) hx
      refine ⟨rfl, tyes ?_⟩
      refine ⟨_, rfl, (n : Int), rfl, by omega, true, rfl, ?_⟩
      refine iteT ?_
      refine ⟨_, rfl, 1, (n : Int), rfl, rfl, _, rfl, ?_⟩
      refine ite2 (fun _ => ?_) (fun z => absurd (decide_eq_true (by omega)) z)
      exact ⟨(n : Int), 48, rfl, rfl, h1 rfl _ G' H2 (.refl st.gh) (bT (by omega))⟩
    · intro G' H' st r
      obtain ⟨b, e, gb⟩ := rb_at r
      refine ⟨b, _, by rw [e], SqL.of (st.gh b _ gb), true, ?_, iteF ?_⟩
      · rw [List.filter_eq_self.mpr (fun _ _ => rfl), all_true]
      · refine ⟨_, rfl, a, _, rfl, .inr (SqT.of (st.hh a _ (s1 a _ ha))), fun l hl2 => ?_⟩
        exact q l _ (s1.free (st.hh.free hl2)) ((s1.trans st.hh).trans (same_new hl2 _)) upd_same

/-! ### which numbers are met -/
def marksF (cs : List Nat) (m : Nat) : List Bool := (List.range (m + 1)).map (metB cs)
def mkF (cs : List Nat) (m i : Nat) : List Bool := (List.range (m + 1)).map fun k => decide (k ≤ i) && metB cs k
theorem mkF_len (cs : List Nat) (m i : Nat) : (mkF cs m i).length = m + 1 := by unfold mkF; rw [List.length_map, List.length_range]
theorem mkF_at {cs : List Nat} {m i k : Nat} (hk : k ≤ m) : (mkF cs m i)[k]? = some (decide (k ≤ i) && metB cs k) := by
  unfold mkF
  rw [List.getElem?_map, List.getElem?_range (by omega)]
  rfl
theorem mkF_start {cs : List Nat} (hp : Posi cs) (m : Nat) : [true] ++ (List.range m).map (fun _ => false) = mkF cs m 0 := by
  refine List.ext_getElem? fun k => ?_
  by_cases hk : k ≤ m
  · rw [mkF_at hk]
    cases k with
    | zero => simp [metB_zero hp]
    | succ k =>
      show ((List.range m).map fun _ => false)[k]? = _
      rw [List.getElem?_map, List.getElem?_range (by omega)]
      rfl
  · rw [List.getElem?_eq_none (by simp; omega), List.getElem?_eq_none (by rw [mkF_len]; omega)]
theorem mkF_set {cs : List Nat} {m i : Nat} (hi : i + 1 ≤ m) : (mkF cs m i).set (i + 1) (metB cs (i + 1)) = mkF cs m (i + 1) := by
  refine List.ext_getElem? fun k => ?_
  by_cases hk : k ≤ m
  · rw [mkF_at hk]
    by_cases e : k = i + 1
    · subst e
      rw [List.getElem?_set_self (by rw [mkF_len]; omega), decide_eq_true (Nat.le_refl _), Bool.true_and]
    · rw [List.getElem?_set_ne (Ne.symm e), mkF_at hk]
      congr 2
      exact decide_eq_decide.mpr (by omega)
  · rw [List.getElem?_eq_none (by rw [List.length_set, mkF_len]; omega), List.getElem?_eq_none (by rw [mkF_len]; omega)]
theorem mkF_end (cs : List Nat) (m : Nat) : mkF cs m m = marksF cs m := by
  unfold mkF marksF
  refine List.map_congr_left fun k hk => ?_
  rw [decide_eq_true (by have := List.mem_range.mp hk; omega), Bool.true_and]
theorem ix_nat {n j : Nat} (h : j < n) : ixN n (j : Int) = some j := by
  unfold ixN
  rw [if_pos (by omega), if_pos (by omega)]
  rfl
def spMarks : Sp := fun vs H Q _ => ∃ (a : Addr) (cs : List Nat) (m : Nat), vs = [.ref a, iv m] ∧ H a = some (.lst (cs.map iv)) ∧ Posi cs ∧ cs.length ≤ 1000 ∧ m ≤ 50000 ∧
  ∀ p H', H p = none → Same H H' → H' p = some (.lst ((marksF cs m).map V.bl)) → Q (.ref p) H'
theorem any_map {α : Type} (f : α → Bool) (l : List α) : (l.map f).any id = l.any f := by rw [List.any_map]; rfl
theorem ok_met_marks (D : Df K mg "met_marks" sMetMarks) (T : Txt mg) : Cal P w K mg base 1 "met_marks" spMarks := by
  refine cal_of D scMetMarks (fun _ _ _ _ _ _ us hl => match us, hl with | [_, _], _ => rfl) (fun vs H Q E h => ?_) (fun f cdv A outer s H vs Q E hr h => ?_)
  · obtain ⟨a, cs, m, rfl, _⟩ := h; rfl
  obtain ⟨a, cs, m, rfl, ha, hp, hlc, hm, q⟩ := h
  refine ⟨_, (pss_cons (ps_set (i := 2) scMetMarks.nd rfl (by first | exact Or.inl rfl | exact Or.inr rfl) (pe_op op_cat (pe_lst (pa_cons pe_bl pa_nil)) (pe_lc (own := [(("number" : Str), 3)]) rfl scMetMarks.nd (pi_range1 (by rfl) T.range_ (pa_cons (pv 1) pa_nil)) (blkOk_by (N := [("counts" : Str), ("many" : Str), ("found" : Str), ("number" : Str), ("count" : Str)]) (sc := defScope sMetMarks) (own := [(("number" : Str), 3)]) (by decide +kernel)) (fun _ _ _ _ _ => (pg_name (i := 3) scMetMarks.nd rfl (Or.inl rfl))) (fun _ _ _ _ _ => pts_nil) (fun _ _ _ _ _ => pe_bl))))
    (pss_cons (ps_for PassesOwn.never rfl (pi_range2 (by rfl) T.range_ (pa_cons pe_int (pa_cons (pe_op op_add (pv 1) pe_int) pa_nil))) (pg_name (i := 3) scMetMarks.nd rfl (by first | exact Or.inl rfl | exact Or.inr rfl)) (pss_one (ps_asg (pe_callB (cr_anyK (K := K) rfl rfl) (by rfl) T.any_ (by decide +kernel) (pa_cons (pe_lc (own := [(("count" : Str), 4)]) rfl scMetMarks.nd (pi_listK (K := K) rfl (pv 0)) (blkOk_by (N := [("counts" : Str), ("many" : Str), ("found" : Str), ("number" : Str), ("count" : Str)]) (sc := defScope sMetMarks) (own := [(("count" : Str), 4)]) (by decide +kernel)) (fun _ _ _ _ _ => (pg_name (i := 4) scMetMarks.nd rfl (Or.inl rfl))) (fun _ _ _ _ _ => pts_nil) (fun _ _ _ _ _ => (pe_and (pe_cmpR op_le (pv 4) (pv 3) (nomark _)) (pe_one (pe_ix (ix_listK (K := K) rfl) (pv 2) (pe_op op_sub (pv 3) (pv 4)) (fun _ _ => rfl)))))) pa_nil)) (pg_sub (pv 2) (pv 3) set_list))))
    (pss_one (ps_ret (pv 2))))), ?_⟩
  refine ⟨by show 1 ≤ sizeLine; decide, fun p1 np1 => ?_⟩
  refine ⟨_, rfl, (m : Int), rfl, by omega, by omega, ?_⟩
  rw [Int.toNat_natCast]
  refine fun D' nD => lcR mRB (fun _ => true) (fun _ => false) nD (Same.refl _) (by omega) (fun _ => rfl) (fun i G' H' hi st N0 N1 h0 h1 => tyes (h1 rfl _ G' H' (.refl st.gh) rfl)) ?_
  intro G' H1 st r
  rw [List.filter_eq_self.mpr (fun _ _ => rfl)] at r
  obtain ⟨b, e, gb⟩ := rb_at r
  cases e
  have sm1 : Same H H1 := (same_new np1 _).trans st.hh
  refine ⟨p1, D', [.bl true], _, rfl, rfl, st.hh p1 _ upd_same, st.gh _ _ gb, by rw [List.length_map, List.length_map, List.length_range]; exact sz (by show 1 + m ≤ 100000; omega), fun p2 np2 => ?_⟩
  have np2H : H p2 = none := sm1.free np2
  refine ⟨_, rfl, (m : Int), 1, rfl, rfl, 1, (m : Int) + 1, rfl, ⟨by omega, by omega, by omega, by omega⟩, ?_⟩
  have en : ((m : Int) + 1 - 1).toNat = m := by omega
  rw [en]
  refine for_range (lo := 1) (n := m) (fun i σ H' => ∃ y z, σ = [some (.ref a), some (iv m), some (.ref p2), y, z] ∧ Same H H' ∧ H' p2 = some (.lst ((mkF cs m i).map V.bl))) ⟨none, none, rfl, sm1.trans (same_new np2 _), ?_⟩ ?_ ?_
  · rw [upd_same, ← mkF_start hp, List.map_append]
    rfl
  · rintro i σ H2 hi ⟨y, z, rfl, sm2, e2⟩
    have ei : (1 : Int) + (i : Int) = ((i + 1 : Nat) : Int) := by omega
    rw [ei]
    have ha2 := sm2 a _ ha
    refine ⟨_, rfl, a, rfl, ⟨_, SqL.of ha2⟩, ?_⟩
    refine fun D3 nD3 => lcL (K := K) mRN mRB (fun _ => true) (fun c => decide (c ≤ i + 1) && metB cs (i + 1 - c)) nD3 (Same.refl H2) ha2 (iv_paired cs H2) (by omega) (fun _ => rfl) ?_ ?_
    · intro x c G3 H3 hx hc st3 ex N0 N1 _ h1
      rw [show x = iv c from ex]
      have hc0 := hp c hc
      refine tyes ?_
      refine ⟨_, rfl, _, rfl, (c : Int), ((i + 1 : Nat) : Int), rfl, rfl, decide (c ≤ i + 1), ?_, ?_⟩
      · exact congrArg V.bl (decide_eq_decide.mpr (by omega))
      · refine ite2 (fun t => ?_) (fun t => ?_)
        · have t' : c ≤ i + 1 := of_decide_eq_true t
          refine ⟨_, rfl, _, rfl, _, rfl, ((i + 1 : Nat) : Int), (c : Int), rfl, rfl, p2, _, _, _, rfl, rfl, SqL.of (st3.hh p2 _ e2), at_of (j := i + 1 - c) (by omega) (v := V.bl (metB cs (i + 1 - c))) ?_, ?_⟩
          · rw [List.getElem?_map, mkF_at (by omega), decide_eq_true (by omega), Bool.true_and]
            rfl
          · exact h1 rfl _ G3 H3 (.refl st3.gh) (by show _ = _; rw [decide_eq_true t', Bool.true_and])
        · have t' : decide (c ≤ i + 1) = false := Bool.eq_false_iff.mpr t
          exact h1 rfl _ G3 H3 (.refl st3.gh) (by show _ = _; rw [t', Bool.false_and])
    · intro G3 H3 st3 r3
      rw [List.filter_eq_self.mpr (fun _ _ => rfl)] at r3
      obtain ⟨b3, e3, gb3⟩ := rb_at r3
      refine ⟨b3, _, by rw [e3], SqL.of (st3.gh b3 _ gb3), ?_⟩
      rw [any_map, ← metB_rec hp (Nat.succ_pos i)]
      refine ⟨_, rfl, _, rfl, p2, _, ((i + 1 : Nat) : Int), i + 1, rfl, rfl, st3.hh p2 _ e2, ix_nat (by rw [List.length_map, mkF_len]; omega), ?_⟩
      refine ⟨_, _, rfl, fun b' o eb => ?_, ?_⟩
      · rw [upd_ne (ne_of_none eb np2H)]
        exact st3.hh _ _ (sm2 _ _ eb)
      · rw [upd_same, ← mkF_set (by omega), List.map_set]
  · rintro σ H2 ⟨y, z, rfl, sm2, e2⟩
    rw [mkF_end] at e2
    exact ⟨_, rfl, q p2 H2 np2H sm2 e2⟩
end
end K25
namespace K25
open PySem PySem.Spec PyProof.Rows L2
section
variable {P : Program} {w : World} {K : PySem.W.Frag} {mg : Str → Option Value} {base : Heap}
/-! ### how many ways -/
def spManyWays : Sp := fun vs H Q _ => ∃ (a : Addr) (cs : List Nat) (m l : Nat), vs = [.ref a, iv m] ∧ H a = some (.lst (cs.map iv)) ∧ 0 < l ∧ (∀ c ∈ cs, l ≤ c) ∧ m / l ≤ 5 ∧ m ≤ 1000 ∧ cs.length ≤ 4 ∧ (∀ c ∈ cs, c ≤ 1000) ∧
  ∀ (r : Nat) H', r ≤ 400 → Same H H' → Q (iv r) H'
theorem getD_set {fs : List Nat} {n v k : Nat} (hn : n < fs.length) : (fs.set n v).getD k 0 = if k = n then v else fs.getD k 0 := by
  rw [List.getD_eq_getElem?_getD, List.getD_eq_getElem?_getD]
  by_cases e : k = n
  · subst e; rw [if_pos rfl, List.getElem?_set_self hn]; rfl
  · rw [if_neg e, List.getElem?_set_ne (Ne.symm e)]
theorem get_of {fs : List Nat} {k : Nat} (h : k < fs.length) : (fs.map iv)[k]? = some (iv (fs.getD k 0)) := by
  rw [List.getElem?_map, List.getD_eq_getElem?_getD, List.getElem?_eq_getElem h]
  rfl
theorem map_iv_inj {fs : List Nat} {vs : List V} {G : Hp} (h : Paired (RN G) vs fs) : vs = fs.map iv := paired_iv h
theorem ok_many_ways (D : Df K mg "many_ways" sManyWays) (T : Txt mg) : Cal P w K mg base 1 "many_ways" spManyWays := by
  refine cal_of D scManyWays (fun _ _ _ _ _ _ us hl => match us, hl with | [_, _], _ => rfl) (fun vs H Q E h => ?_) (fun f cdv A outer s H vs Q E hr h => ?_)
  · obtain ⟨a, cs, m, l, rfl, _⟩ := h; rfl
  obtain ⟨a, cs, m, l, rfl, ha, hl, hlc, hq5, hm, hc4, hcm, q⟩ := h
  refine ⟨_, (pss_cons (ps_set (i := 2) scManyWays.nd rfl (by first | exact Or.inl rfl | exact Or.inr rfl) (pe_op op_cat (pe_lst (pa_cons pe_int pa_nil)) (pe_lc (own := [(("number" : Str), 4)]) rfl scManyWays.nd (pi_range1 (by rfl) T.range_ (pa_cons (pv 1) pa_nil)) (blkOk_by (N := [("counts" : Str), ("many" : Str), ("found" : Str), ("count" : Str), ("number" : Str)]) (sc := defScope sManyWays) (own := [(("number" : Str), 4)]) (by decide +kernel)) (fun _ _ _ _ _ => (pg_name (i := 4) scManyWays.nd rfl (Or.inl rfl))) (fun _ _ _ _ _ => pts_nil) (fun _ _ _ _ _ => pe_int))))
    (pss_cons (ps_for PassesOwn.never rfl (pi_listK (K := K) rfl (pv 0)) (pg_name (i := 3) scManyWays.nd rfl (by first | exact Or.inl rfl | exact Or.inr rfl)) (pss_one (ps_for PassesOwn.never rfl (pi_range2 (by rfl) T.range_ (pa_cons (pv 3) (pa_cons (pe_op op_add (pv 1) pe_int) pa_nil))) (pg_name (i := 4) scManyWays.nd rfl (by first | exact Or.inl rfl | exact Or.inr rfl)) (pss_one (ps_asg (pe_op op_add (pe_ix (ix_listK (K := K) rfl) (pv 2) (pv 4) (fun _ _ => rfl)) (pe_ix (ix_listK (K := K) rfl) (pv 2) (pe_op op_sub (pv 4) (pv 3)) (fun _ _ => rfl))) (pg_sub (pv 2) (pv 4) set_list))))))
    (pss_one (ps_ret (pe_ix (ix_listK (K := K) rfl) (pv 2) (pv 1) (fun _ _ => rfl)))))), ?_⟩
  refine ⟨by show 1 ≤ sizeLine; decide, fun p1 np1 => ?_⟩
  refine ⟨_, rfl, (m : Int), rfl, by omega, by omega, ?_⟩
  rw [Int.toNat_natCast]
  refine fun D' nD => lcR mRN (fun _ => true) (fun _ => 0) nD (Same.refl _) (by omega) (fun _ => rfl) (fun i G' H' hi st N0 N1 h0 h1 => tyes (h1 rfl _ G' H' (.refl st.gh) rfl)) ?_
  intro G' H1 st r
  rw [List.filter_eq_self.mpr (fun _ _ => rfl)] at r
  obtain ⟨b, e, gb⟩ := r1_at r
  cases e
  have sm1 : Same H H1 := (same_new np1 _).trans st.hh
  refine ⟨p1, D', [.int 1], _, rfl, rfl, st.hh p1 _ upd_same, st.gh _ _ gb, by rw [List.length_map, List.length_map, List.length_range]; exact sz (by show 1 + m ≤ 100000; omega), fun p2 np2 => ?_⟩
  have np2H : H p2 = none := sm1.free np2
  -- for count in counts
  refine ⟨.ref a, rfl, a, rfl, ⟨_, SqL.of ((sm1.trans (same_new np2 _)) a _ ha)⟩, ?_⟩
  refine for_list (xs := cs.map iv) (fun i σ H' => ∃ (fs : List Nat) (y z : Option V), σ = [some (.ref a), some (iv m), some (.ref p2), y, z] ∧ Same H H' ∧ H' p2 = some (.lst (fs.map iv)) ∧ fs.length = m + 1 ∧ ∀ k, k ≤ m → fs.getD k 0 ≤ bnd i (k / l)) ?_ ?_ ?_ ?_
  · refine ⟨1 :: (List.range m).map fun _ => 0, none, none, rfl, sm1.trans (same_new np2 _), ?_, by simp, fun k hk => ?_⟩
    · rw [upd_same]; rfl
    · rw [bnd]
      cases k with
      | zero => exact Nat.le_refl 1
      | succ k =>
        rw [List.getD_cons_succ, List.getD_eq_getElem?_getD, List.getElem?_map, List.getElem?_range (by omega)]
        exact Nat.zero_le 1
  · rintro i σ H' _ ⟨fs, y, z, _, s2, _⟩
    exact SqL.of (s2 a _ ha)
  · rintro i x σ H2 hx ⟨fs, y, z, rfl, s2, e2, lf, hb⟩
    rw [List.getElem?_map] at hx
    obtain ⟨c, hc, rfl⟩ := Option.map_eq_some_iff.mp hx
    have hcl := hlc c (List.mem_of_getElem? hc)
    have hc1000 := hcm c (List.mem_of_getElem? hc)
    refine ⟨_, rfl, _, rfl, (m : Int), 1, rfl, rfl, (c : Int), (m : Int) + 1, rfl, ⟨by omega, by omega, by omega, by omega⟩, ?_⟩
    have en : ((m : Int) + 1 - (c : Int)).toNat = m + 1 - c := by omega
    rw [en]
    refine for_range (lo := (c : Int)) (n := m + 1 - c) (fun t σ H' => ∃ (fs : List Nat) (z : Option V), σ = [some (.ref a), some (iv m), some (.ref p2), some (iv c), z] ∧ Same H H' ∧ H' p2 = some (.lst (fs.map iv)) ∧ fs.length = m + 1 ∧ ∀ k, k ≤ m → fs.getD k 0 ≤ bnd (if k < c + t then i + 1 else i) (k / l)) ?_ ?_ ?_
    · exact ⟨fs, z, rfl, s2, e2, lf, fun k hk => Nat.le_trans (hb k hk) (bnd_ks (by split <;> omega))⟩
    · rintro t σ H3 ht ⟨fs, z, rfl, s3, e3, lf, hb⟩
      have ei : (c : Int) + (t : Int) = ((c + t : Nat) : Int) := by omega
      rw [ei]
      refine ⟨_, rfl, _, rfl, p2, _, _, _, rfl, rfl, SqL.of e3, at_of (j := c + t) rfl (get_of (by omega)), ?_⟩
      refine ⟨_, rfl, _, rfl, _, rfl, ((c + t : Nat) : Int), (c : Int), rfl, rfl, p2, _, _, _, rfl, rfl, SqL.of e3, at_of (j := t) (by omega) (get_of (by omega)), ?_⟩
      refine ⟨_, _, rfl, rfl, ?_⟩
      refine ⟨_, rfl, _, rfl, p2, _, _, c + t, rfl, rfl, e3, ix_nat (by rw [List.length_map]; omega), ?_⟩
      refine ⟨fs.set (c + t) (fs.getD (c + t) 0 + fs.getD t 0), _, rfl, fun b' o eb => ?_, ?_, by rw [List.length_set]; exact lf, fun k hk => ?_⟩
      · rw [upd_ne (ne_of_none eb np2H)]
        exact s3 _ _ eb
      · rw [upd_same, List.map_set]
        rfl
      · rw [getD_set (by omega)]
        by_cases e : k = c + t
        · subst e
          rw [if_pos rfl, if_pos (by omega)]
          have h1 := hb (c + t) (by omega)
          rw [if_neg (by omega)] at h1
          have h2 := hb t (by omega)
          rw [if_pos (by omega)] at h2
          exact bnd_turn hl hcl (by omega) h1 (by rw [Nat.add_sub_cancel_left]; exact h2)
        · rw [if_neg e]
          exact Nat.le_trans (hb k hk) (bnd_ks (by split <;> split <;> omega))
    · rintro σ H3 ⟨fs, z, rfl, s3, e3, lf, hb⟩
      refine ⟨fs, _, z, rfl, s3, e3, lf, fun k hk => Nat.le_trans (hb k hk) (bnd_ks ?_)⟩
      split <;> omega
  · rintro σ H2 ⟨fs, y, z, rfl, s2, e2, lf, hb⟩
    refine ⟨_, rfl, _, rfl, p2, _, _, _, rfl, rfl, SqL.of e2, at_of (j := m) rfl (get_of (by omega)), q _ H2 ?_ s2⟩
    have h1 := hb m (Nat.le_refl m)
    rw [List.length_map] at h1
    have h2 := bnd_ks (j := cs.length) (k := 4) (q := m / l) hc4
    have h3 := bnd_qs (k := 4) hq5
    rw [bnd_45] at h3
    omega

/-! ### the search for gaps -/
theorem big_mul {cs : List Nat} (hp : Posi cs) (hne : cs ≠ []) (h9 : ∀ c ∈ cs, c ≤ 9) (hl : cs.length ≤ 4) : ∀ j, 324 ≤ j → metB cs (gcdL cs * j) = true := by
  intro j hj
  refine big_all hp hne h9 _ ⟨j, rfl⟩ ?_
  have h1 : cs.sum ≤ cs.length * 9 := by
    clear hne hp hl
    induction cs with
    | nil => simp
    | cons c cs ih =>
      have := ih fun d hd => h9 d (List.mem_cons_of_mem _ hd)
      have := h9 c List.mem_cons_self
      rw [List.sum_cons, List.length_cons, Nat.add_mul]
      omega
  have h2 : j ≤ gcdL cs * j := Nat.le_mul_of_pos_left j (gcdL_pos hp hne)
  have : cs.sum * 9 ≤ 36 * 9 := Nat.mul_le_mul_right 9 (by omega)
  omega
def spGaps : Sp := fun vs H Q _ => ∃ (a : Addr) (cs : List Nat), vs = [.ref a] ∧ H a = some (.lst (cs.map iv)) ∧ cs ≠ [] ∧ Posi cs ∧ (∀ c ∈ cs, c ≤ 9) ∧ cs.length ≤ 4 ∧
  ∀ p H' L, H p = none → Same H H' → H' p = some (.lst (L.map iv)) → GapOk cs (gcdL cs) L → (∀ x ∈ L, x ≤ 5000) → Q (.ref p) H'
theorem marks_snoc (cs : List Nat) (L : Nat) : (((List.range L).map (metB cs)).map V.bl) ++ [V.bl (metB cs L)] = ((List.range (L + 1)).map (metB cs)).map V.bl := by
  rw [List.range_succ, List.map_append, List.map_append]
  rfl
theorem marks_get {cs : List Nat} {L k : Nat} (h : k < L) : (((List.range L).map (metB cs)).map V.bl)[k]? = some (.bl (metB cs k)) := by
  rw [List.getElem?_map, List.getElem?_map, List.getElem?_range h]
  rfl
theorem marks_len (cs : List Nat) (L : Nat) : (((List.range L).map (metB cs)).map V.bl).length = L := by simp
theorem ok_gaps_of (D : Df K mg "gaps_of" sGapsOf) (T : Txt mg) (c_common_of : Cal P w K mg base 1 "common_of" spCommon) : Cal P w K mg base 2 "gaps_of" spGaps := by
  refine cal_of D scGapsOf (fun _ _ _ _ _ _ us hl => match us, hl with | [_], _ => rfl) (fun vs H Q E h => ?_) (fun f cdv A outer s H vs Q E hr h => ?_)
  · obtain ⟨a, cs, rfl, _⟩ := h; rfl
  obtain ⟨a, cs, rfl, ha, hne, hp, h9, hl4, q⟩ := h
  have hbig := big_mul hp hne h9 hl4
  have hg0 := gcdL_pos hp hne
  obtain ⟨c0, hc0⟩ := List.exists_mem_of_ne_nil cs hne
  have hg9 : gcdL cs ≤ 9 := Nat.le_trans (Nat.le_of_dvd (hp c0 hc0) (gcdL_dvd cs c0 hc0)) (h9 c0 hc0)
  generalize hg : gcdL cs = g at *
  have hgd : ∀ c ∈ cs, g ∣ c := by rw [← hg]; exact gcdL_dvd cs
  refine ⟨_, (pss_cons (ps_par (i := 1) (j := 2) rfl scGapsOf.nd rfl rfl (by decide) rfl rfl (pa_cons (pe_c c_common_of hr (by decide) (by rfl) (pa_cons (pv 0) pa_nil)) (pa_cons (pe_callB (cr_minK (K := K) rfl rfl) (by rfl) T.min_ (by decide +kernel) (pa_cons (pv 0) pa_nil)) pa_nil)) (by rfl))
    (pss_cons (ps_asg (pe_tup (pa_cons (pe_lst (pa_cons pe_bl pa_nil)) (pa_cons (pe_lst pa_nil) (pa_cons (pv 1) (pa_cons (pv 1) pa_nil))))) (pg_tupK (K := K) rfl rfl (pgs_cons (pg_name (i := 3) scGapsOf.nd rfl (by first | exact Or.inl rfl | exact Or.inr rfl)) (pgs_cons (pg_name (i := 4) scGapsOf.nd rfl (by first | exact Or.inl rfl | exact Or.inr rfl)) (pgs_cons (pg_name (i := 5) scGapsOf.nd rfl (by first | exact Or.inl rfl | exact Or.inr rfl)) (pgs_cons (pg_name (i := 6) scGapsOf.nd rfl (by first | exact Or.inl rfl | exact Or.inr rfl)) pgs_nil))))))
    (pss_cons (ps_while PassesOwn.never (pt_cmpR op_lt (pv 5) (pe_op op_add (pv 2) (pv 1)) (nomark _)) (pss_cons (ps_while PassesOwn.never (pt_cmpR op_le (pe_callB (call_lenK (K := K) rfl) (by rfl) T.len_ (by decide +kernel) (pa_cons (pv 3) pa_nil)) (pv 6) (nomark _)) (pss_cons (ps_set (i := 7) scGapsOf.nd rfl (by first | exact Or.inl rfl | exact Or.inr rfl) (pe_callB (call_lenK (K := K) rfl) (by rfl) T.len_ (by decide +kernel) (pa_cons (pv 3) pa_nil)))
    (pss_one (ps_expr (pe_bm PySem.F.plainAttrs_list PySem.F.slot_list_append PySem.F.type_list_append mt_append (pv 3) (pa_cons (pe_callB (cr_anyK (K := K) rfl rfl) (by rfl) T.any_ (by decide +kernel) (pa_cons (pe_lc (own := [(("count" : Str), 8)]) rfl scGapsOf.nd (pi_listK (K := K) rfl (pv 0)) (blkOk_by (N := [("counts" : Str), ("step" : Str), ("least" : Str), ("marks" : Str), ("found" : Str), ("row" : Str), ("number" : Str), ("here" : Str), ("count" : Str)]) (sc := defScope sGapsOf) (own := [(("count" : Str), 8)]) (by decide +kernel)) (fun _ _ _ _ _ => (pg_name (i := 8) scGapsOf.nd rfl (Or.inl rfl))) (fun _ _ _ _ _ => pts_nil) (fun _ _ _ _ _ => (pe_and (pe_cmpR op_le (pv 8) (pv 7) (nomark _)) (pe_one (pe_ix (ix_listK (K := K) rfl) (pv 3) (pe_op op_sub (pv 7) (pv 8)) (fun _ _ => rfl)))))) pa_nil)) pa_nil))))))
    (pss_cons (ps_if (pt_val (pe_ix (ix_listK (K := K) rfl) (pv 3) (pv 6) (fun _ _ => rfl))) (pss_one (ps_set (i := 5) scGapsOf.nd rfl (by first | exact Or.inl rfl | exact Or.inr rfl) (pe_op op_add (pv 5) (pv 1)))) (pss_cons (ps_expr (pe_bm PySem.F.plainAttrs_list PySem.F.slot_list_append PySem.F.type_list_append mt_append (pv 4) (pa_cons (pv 6) pa_nil)))
    (pss_one (ps_set (i := 5) scGapsOf.nd rfl (by first | exact Or.inl rfl | exact Or.inr rfl) (pv 1)))))
    (pss_one (ps_set (i := 6) scGapsOf.nd rfl (by first | exact Or.inl rfl | exact Or.inr rfl) (pe_op op_add (pv 6) (pv 1)))))))
    (pss_one (ps_ret (pv 4)))))), ?_⟩
  -- step, least
  refine ⟨_, rfl, a, cs, rfl, ha, ?_⟩
  rw [hg]
  refine ⟨_, rfl, a, cs.map fun (n : Nat) => (n : Int), rfl, SqL.of (by rw [ha, map_iv]), by rw [List.length_map]; exact List.length_pos_iff.mpr hne, fun mi hmi hle => ?_⟩
  obtain ⟨lm, hlm, rfl⟩ := List.mem_map.mp hmi
  have hlm9 := h9 lm hlm
  refine ⟨_, _, rfl, ?_⟩
  -- marks, found, row, number
  refine ⟨by show 1 ≤ sizeLine; decide, fun p1 n1 => ⟨by show 0 ≤ sizeLine; decide, fun p2 n2 => ⟨_, rfl, _, rfl, by show 4 ≤ sizeLine; decide, fun p3 n3 => ?_⟩⟩⟩
  have n2H : H p2 = none := (same_new n1 _).free n2
  have n12 : p1 ≠ p2 := ne_of_none upd_same n2
  have sm0 : Same H (upd (upd (upd H p1 (.lst [.bl true])) p2 (.lst [])) p3 (.tup [.ref p1, .ref p2, .int (g : Int), .int (g : Int)])) := ((same_new n1 _).trans (same_new n2 _)).trans (same_new n3 _)
  have n13 : p1 ≠ p3 := ne_of_none (H := upd (upd H p1 (.lst [.bl true])) p2 (.lst [])) (o := .lst [.bl true]) (by rw [upd_ne n12, upd_same]) n3
  have n23 : p2 ≠ p3 := ne_of_none upd_same n3
  refine ⟨p3, _, rfl, .inl (.inl upd_same), rfl, _, _, rfl, _, _, rfl, _, _, rfl, _, _, rfl, rfl, ?_⟩
  -- while row < least + step
  refine ⟨fun M σ H' => ∃ (fs : List Nat) (row number k t L : Nat) (y z : Option V), σ = [some (.ref a), some (iv g), some (iv lm), some (.ref p1), some (.ref p2), some (iv row), some (iv number), y, z] ∧ GI cs g fs row number k t ∧ Same H H' ∧
      H' p1 = some (.lst (((List.range L).map (metB cs)).map V.bl)) ∧ H' p2 = some (.lst (fs.map iv)) ∧ L ≤ number ∧ 0 < L ∧ M = 1000 - k ∧ k ≤ 400, ?_, ?_⟩
  · refine ⟨_, [], g, g, 0, 0, 1, none, none, rfl, GI.start hp g, sm0, ?_, ?_, hg0, Nat.one_pos, rfl, by omega⟩
    · rw [upd_ne n13, upd_ne n12, upd_same]
      show _ = some (HO.lst [V.bl (metB cs 0)])
      rw [metB_zero hp]
    · rw [upd_ne n23, upd_same]
      rfl
  · rintro M σ H2 ⟨fs, row, number, k, t, L, y, z, rfl, gi, s2, e1, e2, hL, hL0, rfl, hk4⟩
    refine ⟨_, rfl, _, rfl, _, rfl, (lm : Int), (g : Int), rfl, rfl, (row : Int), ((lm : Int) + (g : Int)), rfl, rfl, _, rfl, ?_⟩
    refine ite2 (fun tc => ?_) (fun tc => ?_)
    · have tc' : row < lm + g := by have := of_decide_eq_true tc; omega
      have hk := gi.bound hbig tc' hg0
      have hnum : number ≤ 9 * 401 := by
        rw [gi.num]
        exact Nat.mul_le_mul hg9 (by omega)
      refine ⟨fun σ' H' => ∃ (fs : List Nat) (row number k' t L : Nat) (y z : Option V), σ' = [some (.ref a), some (iv g), some (iv lm), some (.ref p1), some (.ref p2), some (iv row), some (iv number), y, z] ∧ GI cs g fs row number k' t ∧ Same H H' ∧
        H' p1 = some (.lst (((List.range L).map (metB cs)).map V.bl)) ∧ H' p2 = some (.lst (fs.map iv)) ∧ L ≤ number ∧ 0 < L ∧ k' = k + 1, ?_, ?_⟩
      · rintro σ' H' ⟨fs, row, number, k', t, L, y, z, e, gi', s', e1', e2', hL', hL0', rfl⟩
        exact ⟨1000 - (k + 1), by omega, fs, row, number, k + 1, t, L, y, z, e, gi', s', e1', e2', hL', hL0', rfl, by omega⟩
      -- while len(marks) <= number
      refine ⟨fun M σ H' => ∃ (L : Nat) (y z : Option V), σ = [some (.ref a), some (iv g), some (iv lm), some (.ref p1), some (.ref p2), some (iv row), some (iv number), y, z] ∧ Same H H' ∧
        H' p1 = some (.lst (((List.range L).map (metB cs)).map V.bl)) ∧ H' p2 = some (.lst (fs.map iv)) ∧ L ≤ number + 1 ∧ 0 < L ∧ M = number + 1 - L, ⟨_, L, y, z, rfl, s2, e1, e2, by omega, hL0, rfl⟩, ?_⟩
      rintro M σ H3 ⟨L, y, z, rfl, s3, e1, e2, hL, L0, rfl⟩
      refine ⟨_, rfl, p1, _, rfl, .inl (SqL.of e1), ?_⟩
      rw [marks_len]
      refine ⟨_, rfl, (L : Int), (number : Int), rfl, rfl, _, rfl, ?_⟩
      refine ite2 (fun tl => ?_) (fun tl => ?_)
      · have tl' : L ≤ number := by have := of_decide_eq_true tl; omega
        refine ⟨fun σ' H' => ∃ (y z : Option V), σ' = [some (.ref a), some (iv g), some (iv lm), some (.ref p1), some (.ref p2), some (iv row), some (iv number), y, z] ∧ Same H H' ∧
          H' p1 = some (.lst (((List.range (L + 1)).map (metB cs)).map V.bl)) ∧ H' p2 = some (.lst (fs.map iv)), ?_, ?_⟩
        · rintro σ' H' ⟨y, z, e, s', e1', e2'⟩
          exact ⟨number + 1 - (L + 1), by omega, L + 1, y, z, e, s', e1', e2', by omega, Nat.succ_pos L, rfl⟩
        -- here = len(marks)
        refine ⟨_, rfl, p1, _, rfl, .inl (SqL.of e1), ?_⟩
        rw [marks_len]
        -- marks.append(any([..]))
        refine ⟨.ref p1, rfl, .inl ⟨rfl, _, SqL.of e1⟩, ?_⟩
        have ha3 := s3 a _ ha
        refine ⟨.ref a, rfl, a, rfl, ⟨_, SqL.of ha3⟩, ?_⟩
        refine fun D3 nD3 => lcL (K := K) mRN mRB (fun _ => true) (fun c => decide (c ≤ L) && metB cs (L - c)) nD3 (Same.refl H3) ha3 (iv_paired cs H3) (by omega) (fun _ => rfl) ?_ ?_
        · intro x c G4 H4 hx hc st4 ex N0 N1 _ h1
          rw [show x = iv c from ex]
          have hcp := hp c hc
          refine tyes ?_
          refine ⟨_, rfl, _, rfl, (c : Int), (L : Int), rfl, rfl, decide (c ≤ L), ?_, ?_⟩
          · exact congrArg V.bl (decide_eq_decide.mpr (by omega))
          · refine ite2 (fun t => ?_) (fun t => ?_)
            · have t' : c ≤ L := of_decide_eq_true t
              refine ⟨_, rfl, _, rfl, _, rfl, (L : Int), (c : Int), rfl, rfl, p1, _, _, _, rfl, rfl, SqL.of (st4.hh p1 _ e1), at_of (j := L - c) (by omega) (marks_get (by omega)), ?_⟩
              exact h1 rfl _ G4 H4 (.refl st4.gh) (by show _ = _; rw [decide_eq_true t', Bool.true_and])
            · have t' : decide (c ≤ L) = false := Bool.eq_false_iff.mpr t
              exact h1 rfl _ G4 H4 (.refl st4.gh) (by show _ = _; rw [t', Bool.false_and])
        · intro G4 H4 st4 r4
          rw [List.filter_eq_self.mpr (fun _ _ => rfl)] at r4
          obtain ⟨b4, e4, gb4⟩ := rb_at r4
          refine ⟨b4, _, by rw [e4], SqL.of (st4.gh b4 _ gb4), ?_⟩
          rw [any_map, ← metB_rec hp L0]
          refine ⟨p1, _, _, rfl, rfl, st4.hh p1 _ e1, by rw [marks_len]; exact szl (by omega), _, _, rfl, fun b' o eb => ?_, ?_, ?_⟩
          · rw [upd_ne (ne_of_none eb n1)]
            exact st4.hh _ _ (s3 _ _ eb)
          · rw [upd_same, marks_snoc]
          · rw [upd_ne n12.symm]
            exact st4.hh _ _ e2
      · -- if marks[number]
        have tl' : L = number + 1 := by
          have : ¬ (L : Int) ≤ number := fun z => tl (decide_eq_true z)
          omega
        subst tl'
        refine ⟨_, rfl, _, rfl, p1, _, _, _, rfl, rfl, SqL.of e1, at_of (j := number) rfl (marks_get (by omega)), _, rfl, ?_⟩
        refine ite2 (fun tm => ?_) (fun tm => ?_)
        · refine ⟨_, rfl, _, rfl, (row : Int), (g : Int), rfl, rfl, ?_⟩
          refine ⟨_, rfl, _, rfl, (number : Int), (g : Int), rfl, rfl, ?_⟩
          exact ⟨fs, row + g, number + g, k + 1, t + 1, number + 1, y, z, rfl, gi.met tm, s3, e1, e2, by omega, by omega, rfl⟩
        · have tm' : metB cs number = false := Bool.eq_false_iff.mpr tm
          refine ⟨.ref p2, rfl, .inl ⟨rfl, _, SqL.of e2⟩, _, rfl, p2, _, _, rfl, rfl, e2, by rw [List.length_map]; exact szl (by have := gi.len; omega), ?_⟩
          refine ⟨_, rfl, ?_⟩
          refine ⟨_, rfl, _, rfl, (number : Int), (g : Int), rfl, rfl, ?_⟩
          refine ⟨fs ++ [number], g, number + g, k + 1, 0, number + 1, y, z, rfl, gi.unmet tm', fun b' o eb => ?_, ?_, ?_, by omega, by omega, rfl⟩
          · rw [upd_ne (ne_of_none eb n2H)]
            exact s3 _ _ eb
          · rw [upd_ne n12]
            exact e1
          · rw [upd_same, List.map_append]
            rfl
    · have tc' : ¬ row < lm + g := fun z => tc (decide_eq_true (by omega))
      refine ⟨_, rfl, q p2 H2 fs n2H s2 e2 (gi.ok hp hlm (hgd lm hlm) tc' hg0) fun x hx => ?_⟩
      have := gi.top x hx
      have : g * k ≤ 9 * 400 := Nat.mul_le_mul hg9 hk4
      omega
end
end K25
namespace K25
open PySem PySem.Spec PyProof.Rows L2
section
variable {P : Program} {w : World} {K : PySem.W.Frag} {mg : Str → Option Value} {base : Heap}
/-! ### neighbours -/
def spNbr : Sp := fun vs H Q _ => ∃ (x y : V) (u o : Way), vs = [x, y] ∧ R1 H x u ∧ R1 H y o ∧ u.length ≤ 100000 ∧ ∀ H', Same H H' → Q (.bl (nbr u o)) H'
theorem nbr_zip : ∀ u o : Way, (List.zipWith (fun m n => decide (0 < m) && decide (0 < n)) u o).any id = nbr u o
  | [], _ => by simp [nbr]
  | _ :: _, [] => by simp [nbr]
  | a :: u, b :: o => by
    have ih := nbr_zip u o
    show ((decide (0 < a) && decide (0 < b)) || (List.zipWith (fun m n => decide (0 < m) && decide (0 < n)) u o).any id) = ((decide (0 < a) && decide (0 < b)) || nbr u o)
    rw [ih]
theorem ok_are_neighbours (D : Df K mg "are_neighbours" sAreNeighbours) (T : Txt mg) : Cal P w K mg base 1 "are_neighbours" spNbr := by
  refine cal_of D scAreNeighbours (fun _ _ _ _ _ _ us hl => match us, hl with | [_, _], _ => rfl) (fun vs H Q E h => ?_) (fun f cdv A outer s H vs Q E hr h => ?_)
  · obtain ⟨x, y, u, o, rfl, _⟩ := h; rfl
  obtain ⟨x, y, u, o, rfl, hu, ho, hlen, q⟩ := h
  obtain ⟨a, rfl, ha⟩ := r1_at hu
  obtain ⟨b, rfl, hb⟩ := r1_at ho
  refine ⟨_, (pss_one (ps_ret (pe_callB (cr_anyK (K := K) rfl rfl) (by rfl) T.any_ (by decide +kernel) (pa_cons (pe_lc (own := [(("near" : Str), 2), (("far" : Str), 3)]) rfl scAreNeighbours.nd (pi_zipK (K := K) rfl (by rfl) T.zip_ (pa_cons (pv 0) (pa_cons (pv 1) pa_nil))) (blkOk_by (N := [("way" : Str), ("other" : Str), ("near" : Str), ("far" : Str)]) (sc := defScope sAreNeighbours) (own := [(("near" : Str), 2), (("far" : Str), 3)]) (by decide +kernel)) (fun _ _ _ _ _ => (pg_tupK (K := K) (n := 2) rfl rfl (pgs_cons (pg_name (i := 2) scAreNeighbours.nd rfl (Or.inl rfl)) (pgs_cons (pg_name (i := 3) scAreNeighbours.nd rfl (Or.inl rfl)) pgs_nil)))) (fun _ _ _ _ _ => pts_nil) (fun _ _ _ _ _ => (pe_and (pe_cmpR op_gt (pv 2) pe_int (nomark _)) (pe_one (pe_cmpR op_gt (pv 3) pe_int (nomark _)))))) pa_nil)))), ?_⟩
  refine ⟨_, rfl, _, rfl, a, b, _, _, rfl, SqL.of ha, SqL.of hb, ?_⟩
  refine fun D' nD => lcZ (K := K) mRB (fun m n => decide (0 < m) && decide (0 < n)) nD (Same.refl H) ha hb hlen (fun _ _ => rfl) ?_ ?_
  · intro m n G' H' st N1 h1
    refine ⟨_, rfl, (m : Int), 0, rfl, rfl, decide (0 < m), congrArg V.bl (decide_eq_decide.mpr (by omega)), ?_⟩
    refine ite2 (fun t => ?_) (fun t => ?_)
    · refine ⟨_, rfl, (n : Int), 0, rfl, rfl, h1 _ G' H' (.refl st.gh) ?_⟩
      show V.bl _ = V.bl _
      rw [t, Bool.true_and]
      exact congrArg V.bl (decide_eq_decide.mpr (by omega))
    · have t' : decide (0 < m) = false := Bool.eq_false_iff.mpr t
      exact h1 _ G' H' (.refl st.gh) (by show _ = _; rw [t', Bool.false_and])
  · intro G' H' st r
    obtain ⟨c, e, gc⟩ := rb_at r
    refine ⟨c, _, by rw [e], SqL.of (st.gh c _ gc), ?_⟩
    rw [nbr_zip]
    exact q H' st.hh
theorem ok_law_meet (D : Df K mg "_law_meet" sLawMeet) (T : Txt mg) : Cal P w K mg base 1 "_law_meet" spNbr := by
  refine cal_of D scLawMeet (fun _ _ _ _ _ _ us hl => match us, hl with | [_, _], _ => rfl) (fun vs H Q E h => ?_) (fun f cdv A outer s H vs Q E hr h => ?_)
  · obtain ⟨x, y, u, o, rfl, _⟩ := h; rfl
  obtain ⟨x, y, u, o, rfl, hu, ho, hlen, q⟩ := h
  obtain ⟨a, rfl, ha⟩ := r1_at hu
  obtain ⟨b, rfl, hb⟩ := r1_at ho
  refine ⟨_, (pss_one (ps_ret (pe_callB (cr_anyK (K := K) rfl rfl) (by rfl) T.any_ (by decide +kernel) (pa_cons (pe_lc (own := [(("_law_near" : Str), 2), (("_law_far" : Str), 3)]) rfl scLawMeet.nd (pi_zipK (K := K) rfl (by rfl) T.zip_ (pa_cons (pv 0) (pa_cons (pv 1) pa_nil))) (blkOk_by (N := [("_law_way" : Str), ("_law_other" : Str), ("_law_near" : Str), ("_law_far" : Str)]) (sc := defScope sLawMeet) (own := [(("_law_near" : Str), 2), (("_law_far" : Str), 3)]) (by decide +kernel)) (fun _ _ _ _ _ => (pg_tupK (K := K) (n := 2) rfl rfl (pgs_cons (pg_name (i := 2) scLawMeet.nd rfl (Or.inl rfl)) (pgs_cons (pg_name (i := 3) scLawMeet.nd rfl (Or.inl rfl)) pgs_nil)))) (fun _ _ _ _ _ => pts_nil) (fun _ _ _ _ _ => (pe_and (pe_cmpR op_gt (pv 2) pe_int (nomark _)) (pe_one (pe_cmpR op_gt (pv 3) pe_int (nomark _)))))) pa_nil)))), ?_⟩
  refine ⟨_, rfl, _, rfl, a, b, _, _, rfl, SqL.of ha, SqL.of hb, ?_⟩
  refine fun D' nD => lcZ (K := K) mRB (fun m n => decide (0 < m) && decide (0 < n)) nD (Same.refl H) ha hb hlen (fun _ _ => rfl) ?_ ?_
  · intro m n G' H' st N1 h1
    refine ⟨_, rfl, (m : Int), 0, rfl, rfl, decide (0 < m), congrArg V.bl (decide_eq_decide.mpr (by omega)), ?_⟩
    refine ite2 (fun t => ?_) (fun t => ?_)
    · refine ⟨_, rfl, (n : Int), 0, rfl, rfl, h1 _ G' H' (.refl st.gh) ?_⟩
      show V.bl _ = V.bl _
      rw [t, Bool.true_and]
      exact congrArg V.bl (decide_eq_decide.mpr (by omega))
    · have t' : decide (0 < m) = false := Bool.eq_false_iff.mpr t
      exact h1 _ G' H' (.refl st.gh) (by show _ = _; rw [t', Bool.false_and])
  · intro G' H' st r
    obtain ⟨c, e, gc⟩ := rb_at r
    refine ⟨c, _, by rw [e], SqL.of (st.gh c _ gc), ?_⟩
    rw [nbr_zip]
    exact q H' st.hh

/-! ### ways -/
theorem cut1 (xs : List V) (k : Nat) : cutV xs (some (k : Int)) none = xs.drop k := by
  unfold cutV
  rw [show HT.sIx xs.length 0 (some (k : Int)) = min k xs.length from HT.sIx_nat xs.length 0 k, HT.sIx_none]
  by_cases h : k ≤ xs.length
  · rw [Nat.min_eq_left h]
    exact List.take_of_length_le (by rw [List.length_drop]; exact Nat.le_refl _)
  · rw [Nat.min_eq_right (by omega), List.drop_of_length_le (Nat.le_refl _), List.drop_of_length_le (by omega), List.take_nil]
def MM (cs : List Nat) (m : Nat) : List (List Bool) := (List.range (cs.length - 1)).map fun j => marksF (cs.drop (j + 1)) m
theorem MM_cons (c d : Nat) (r : List Nat) (m : Nat) : MM (c :: d :: r) m = marksF (d :: r) m :: MM (d :: r) m := by
  unfold MM
  rw [show (c :: d :: r).length - 1 = r.length + 1 from rfl, show (d :: r).length - 1 = r.length from rfl, List.range_succ_eq_map, List.map_cons, List.map_map]
  rfl
abbrev wTo (c : Nat) (cs : List Nat) (n i : Nat) : List Way := (List.range i).flatMap fun f => (waysF cs (n - f * c)).map (f :: ·)
theorem wTo_succ (c : Nat) (cs : List Nat) (n i : Nat) : wTo c cs n (i + 1) = wTo c cs n i ++ (waysF cs (n - i * c)).map (i :: ·) := by
  unfold wTo
  rw [List.range_succ, List.flatMap_append, List.flatMap_cons, List.flatMap_nil, List.append_nil]
theorem wTo_le {c : Nat} {cs : List Nat} {n i j : Nat} (h : i ≤ j) : (wTo c cs n i).length ≤ (wTo c cs n j).length := by
  induction h with
  | refl => exact Nat.le_refl _
  | step _ ih => rw [wTo_succ, List.length_append]; omega
theorem wTo_all (c : Nat) (cs : List Nat) (n : Nat) : wTo c cs n (n / c + 1) = waysF (c :: cs) n := rfl
theorem wTo_len {c : Nat} {cs : List Nat} {n i B : Nat} (hi : i < n / c + 1) (h : (waysF (c :: cs) n).length ≤ B) : (wTo c cs n i).length + (waysF cs (n - i * c)).length ≤ B := by
  have := wTo_le (c := c) (cs := cs) (n := n) (show i + 1 ≤ n / c + 1 from hi)
  rw [wTo_succ, List.length_append, List.length_map, wTo_all] at this
  omega
theorem ways_bnd {l : Nat} (hl : 0 < l) : ∀ {cs : List Nat}, (∀ c ∈ cs, l ≤ c) → ∀ n, (waysF cs n).length ≤ bnd cs.length (n / l)
  | [], _, n => by unfold waysF; rw [List.length_nil, bnd]; split <;> simp
  | c :: cs, h, n => by
    have hc := h c List.mem_cons_self
    have ih := fun n => ways_bnd hl (fun d hd => h d (List.mem_cons_of_mem _ hd)) n
    induction n using Nat.strongRecOn with
    | _ n ih2 =>
      by_cases hn : c ≤ n
      · have e : (waysF (c :: cs) n).length = (waysF cs n).length + (waysF (c :: cs) (n - c)).length := by
          have e1 : n / c = (n - c) / c + 1 := by
            have hc0 : 0 < c := by omega
            rw [Nat.div_eq_sub_div hc0 hn]
          show ((List.range (n / c + 1)).flatMap fun f => (waysF cs (n - f * c)).map (f :: ·)).length = (waysF cs n).length + ((List.range ((n - c) / c + 1)).flatMap fun f => (waysF cs (n - c - f * c)).map (f :: ·)).length
          rw [List.range_succ_eq_map, List.flatMap_cons, List.length_append, List.length_map, Nat.zero_mul, Nat.sub_zero, e1, List.flatMap_map]
          congr 1
          rw [List.length_flatMap, List.length_flatMap]
          congr 1
          refine List.map_congr_left fun f _ => ?_
          rw [List.length_map, List.length_map]
          congr 2
          rw [Nat.succ_mul]
          omega
        rw [e]
        exact bnd_turn hl hc hn (ih n) (ih2 (n - c) (by omega))
      · have e : n / c = 0 := Nat.div_eq_of_lt (by omega)
        show ((List.range (n / c + 1)).flatMap fun f => (waysF cs (n - f * c)).map (f :: ·)).length ≤ bnd (cs.length + 1) (n / l)
        rw [e, show List.range (0 + 1) = [0] from rfl, List.flatMap_cons, List.flatMap_nil, List.append_nil, List.length_map, Nat.zero_mul, Nat.sub_zero]
        exact Nat.le_trans (ih n) (bnd_k _ _)
theorem cons_of_pos {cs : List Nat} (h : 1 ≤ cs.length) : ∃ c r, cs = c :: r := by
  cases cs with
  | nil => simp at h
  | cons c r => exact ⟨c, r, rfl⟩
def spWaysFrom (L : Nat) : Sp := fun vs H Q _ => ∃ (G : Hp) (a b : Addr) (cs : List Nat) (n m : Nat), vs = [.ref a, .ref b, iv n] ∧ Same G H ∧ G a = some (.lst (cs.map iv)) ∧ RL RBs G (.ref b) (MM cs m) ∧ n ≤ m ∧ m ≤ 1000 ∧ 1 ≤ cs.length ∧ cs.length ≤ L ∧ cs.length ≤ 1000 ∧ Posi cs ∧ (∀ c ∈ cs, c ≤ 1000) ∧
  (waysF cs n).length ≤ 400 ∧ ∀ v G' H', Step G H G' H' → R2' G' v (waysF cs n) → Q v H'
theorem none_from {x : Str} {st : Stmt} (D : Df K mg x st) {ps : List Str} {sp : Sp}
    (hb : ∀ (kV doc pm : Value) (an : Option Addr) (cdv ct : Value) (us : List Value), us.length = ps.length → bindArgs (PySem.W.fnOf x x (defArgs st) (defBody st) (defScope st) .none kV doc pm an cdv ct) ⟨us, []⟩ = pure (ps.zip us))
    (no : ∀ vs H Q E, ¬ sp vs H Q E) : Cal P w K mg base 0 x sp := by
  obtain ⟨f, fd, F, m⟩ := D.ex
  exact ⟨f, fd, ps, ⟨fun vs H Q E h => absurd h (no vs H Q E), fun A outer s H args us vs Q E _ _ _ _ h => absurd h (no vs H Q E)⟩, m, F.kp, F.binds hb⟩
theorem ok_ways_from (D : Df K mg "ways_from" sWaysFrom) (T : Txt mg) : ∀ L, Cal P w K mg base L "ways_from" (spWaysFrom L)
  | 0 => none_from D (ps := ["counts", "marks", "many"]) (fun _ _ _ _ _ _ us hl => match us, hl with | [_, _, _], _ => rfl) fun vs H Q E h => by
    obtain ⟨_, _, _, cs, _, _, _, _, _, _, _, _, h1, h2, _, _⟩ := h
    omega
  | L + 1 => by
    have c_ways_from := ok_ways_from D T L
    refine cal_of D scWaysFrom (fun _ _ _ _ _ _ us hl => match us, hl with | [_, _, _], _ => rfl) (fun vs H Q E h => ?_) (fun f cdv A outer s H vs Q E hr h => ?_)
    · obtain ⟨G, a, b, cs, n, m, rfl, _⟩ := h; rfl
    obtain ⟨G, a, b, cs, n, m, rfl, gs, ga, gb, hnm, hm, h1, hL, hl1000, hp, hc1000, hw, q⟩ := h
    obtain ⟨c, cs, rfl⟩ := cons_of_pos h1
    have hc := hp c List.mem_cons_self
    have hc1 := hc1000 c List.mem_cons_self
    have hcnt : SqL K H a ((c :: cs).map iv) := SqL.of (gs a _ ga)
    refine ⟨_, (pss_cons (ps_if (pt_cmpR op_eq (pe_callB (call_lenK (K := K) rfl) (by rfl) T.len_ (by decide +kernel) (pa_cons (pv 0) pa_nil)) pe_int (nomark _)) (pss_one (ps_ret (pe_ifExp (pt_cmpR op_eq (pe_op op_mul (pe_op op_fdiv (pv 2) (pe_ix (ix_listK (K := K) rfl) (pv 0) pe_int (fun _ _ => rfl))) (pe_ix (ix_listK (K := K) rfl) (pv 0) pe_int (fun _ _ => rfl))) (pv 2) (nomark _)) (pe_lst (pa_cons (pe_lst (pa_cons (pe_op op_fdiv (pv 2) (pe_ix (ix_listK (K := K) rfl) (pv 0) pe_int (fun _ _ => rfl))) pa_nil)) pa_nil)) (pe_lst pa_nil)))) pss_nil)
    (pss_cons (ps_set (i := 3) scWaysFrom.nd rfl (by first | exact Or.inl rfl | exact Or.inr rfl) (pe_lst pa_nil))
    (pss_cons (ps_for PassesOwn.never rfl (pi_range1 (by rfl) T.range_ (pa_cons (pe_op op_add (pe_op op_fdiv (pv 2) (pe_ix (ix_listK (K := K) rfl) (pv 0) pe_int (fun _ _ => rfl))) pe_int) pa_nil)) (pg_name (i := 4) scWaysFrom.nd rfl (by first | exact Or.inl rfl | exact Or.inr rfl)) (pss_cons (ps_set (i := 5) scWaysFrom.nd rfl (by first | exact Or.inl rfl | exact Or.inr rfl) (pe_op op_sub (pv 2) (pe_op op_mul (pv 4) (pe_ix (ix_listK (K := K) rfl) (pv 0) pe_int (fun _ _ => rfl)))))
    (pss_one (ps_if (pt_val (pe_ix (ix_listK (K := K) rfl) (pe_ix (ix_listK (K := K) rfl) (pv 1) pe_int (fun _ _ => rfl)) (pv 5) (fun _ _ => rfl))) (pss_one (ps_expr (pe_bm PySem.F.plainAttrs_list PySem.F.slot_list_extend PySem.F.type_list_extend mt_extend (pv 3) (pa_cons (pe_lc (own := [(("rest" : Str), 6)]) rfl scWaysFrom.nd (pi_listK (K := K) rfl (pe_c c_ways_from hr (Nat.le_refl _) (by rfl) (pa_cons (pe_slice (sl_listK (K := K) rfl) (pv 0) (po_some pe_int) po_none) (pa_cons (pe_slice (sl_listK (K := K) rfl) (pv 1) (po_some pe_int) po_none) (pa_cons (pv 5) pa_nil))))) (blkOk_by (N := [("counts" : Str), ("marks" : Str), ("many" : Str), ("found" : Str), ("first" : Str), ("left" : Str), ("rest" : Str)]) (sc := defScope sWaysFrom) (own := [(("rest" : Str), 6)]) (by decide +kernel)) (fun _ _ _ _ _ => (pg_name (i := 6) scWaysFrom.nd rfl (Or.inl rfl))) (fun _ _ _ _ _ => pts_nil) (fun _ _ _ _ _ => (pe_op op_cat (pe_lst (pa_cons (pv 4) pa_nil)) (pv 6)))) pa_nil)))) pss_nil))))
    (pss_one (ps_ret (pv 3)))))), ?_⟩
    refine ⟨_, rfl, a, _, rfl, .inl hcnt, rfl, _, rfl, ite2 (fun t => ?_) (fun t => ?_)⟩
    · -- one count
      have t' : cs = [] := by
        have e : (((c :: cs).map iv).length : Int) = 1 := V.int.inj (of_decide_eq_true t)
        rw [List.length_map, List.length_cons] at e
        exact List.length_eq_zero_iff.mp (by omega)
      subst t'
      have a0 : atI ([c].map iv) 0 = some (iv c) := at_of (j := 0) rfl rfl
      have e1 : (n : Int) / (c : Int) = ((n / c : Nat) : Int) := (Int.natCast_ediv n c).symm
      have hq : n / c ≤ n := Nat.div_le_self n c
      have hz : (0 : Int) ≤ ((n / c : Nat) : Int) := Int.natCast_nonneg _
      have hmul : CMul ((n / c : Nat) : Int) (c : Int) := .inl ⟨by omega, by omega⟩
      refine ⟨_, rfl, _, rfl, a, _, 0, _, rfl, rfl, hcnt, a0, (n : Int), (c : Int), rfl, rfl, ⟨by omega, by omega⟩, ?_⟩
      refine ⟨_, rfl, a, _, 0, _, rfl, rfl, hcnt, a0, ((n / c : Nat) : Int), (c : Int), rfl, rfl, hmul, ?_⟩
      refine ⟨_, rfl, rfl, _, rfl, ite2 (fun t => ?_) (fun t => ?_)⟩
      · have t' : n / c * c = n := by
          have : ((n / c : Nat) : Int) * (c : Int) = (n : Int) := V.int.inj (of_decide_eq_true t)
          rw [← Int.natCast_mul] at this
          exact Int.ofNat.inj this
        refine ⟨_, rfl, _, rfl, a, _, 0, _, rfl, rfl, hcnt, a0, (n : Int), (c : Int), rfl, rfl, ⟨by omega, by omega⟩, ?_⟩
        refine ⟨by show 1 ≤ sizeLine; decide, fun p1 n1 => ⟨by show 1 ≤ sizeLine; decide, fun p2 n2 => ?_⟩⟩
        have st1 := Step.make gs n1 (.lst [iv (n / c)])
        have st2 := st1.trans (Step.make st1.gh n2 (.lst [.ref p1]))
        refine q _ _ _ st2 ?_
        rw [waysF_one hc, if_pos t']
        exact ⟨p2, [.ref p1], rfl, upd_same, paired_one (r1_of (by rw [upd_ne (ne_of_none upd_same n2), upd_same]; rfl))⟩
      · have t' : ¬ n / c * c = n := by
          intro z
          refine t (decide_eq_true (congrArg V.int ?_))
          rw [← Int.natCast_mul, z]
        refine ⟨by show 0 ≤ sizeLine; decide, fun p1 n1 => q _ _ _ (Step.make gs n1 (.lst [])) ?_⟩
        rw [waysF_one hc, if_neg t']
        exact ⟨p1, [], rfl, upd_same, .nil⟩
    · -- two counts or more
      obtain ⟨d, r, rfl⟩ : ∃ d r, cs = d :: r := by
        refine cons_of_pos ?_
        refine Classical.byContradiction fun z => t (decide_eq_true (congrArg V.int ?_))
        rw [List.length_map, List.length_cons]
        omega
      rw [MM_cons] at gb
      obtain ⟨b, mv, eb, gb0, pm⟩ := gb
      cases eb
      obtain ⟨mh, mt, rfl, rmh, pmt⟩ : ∃ mh mt, mv = mh :: mt ∧ RBs G mh (marksF (d :: r) m) ∧ Paired (RBs G) mt (MM (d :: r) m) := by
        cases pm with
        | cons h t => exact ⟨_, _, rfl, h, t⟩
      obtain ⟨am, rfl, gm⟩ := rb_at rmh
      refine ⟨by show 0 ≤ sizeLine; decide, fun p3 n3 => ?_⟩
      have a0 : atI ((c :: d :: r).map iv) 0 = some (iv c) := at_of (j := 0) rfl rfl
      have e1 : (n : Int) / (c : Int) = ((n / c : Nat) : Int) := (Int.natCast_ediv n c).symm
      have hq : n / c ≤ n := Nat.div_le_self n c
      have hz : (0 : Int) ≤ ((n / c : Nat) : Int) := Int.natCast_nonneg _
      have s3 := same_new n3 (.lst [])
      refine ⟨_, rfl, _, rfl, a, _, 0, _, rfl, rfl, SqL.of (s3 a _ (gs a _ ga)), a0, (n : Int), (c : Int), rfl, rfl, ⟨by omega, by omega⟩, ?_⟩
      refine ⟨((n / c : Nat) : Int), 1, rfl, rfl, ((n / c : Nat) : Int) + 1, rfl, by omega, by omega, ?_⟩
      have e2 : (((n / c : Nat) : Int) + 1).toNat = n / c + 1 := by omega
      rw [e2]
      refine for_range (lo := 0) (n := n / c + 1) (fun i σ H' => ∃ (Gt : Hp) (acc : List V) (y4 y5 : Option V), σ = [some (.ref a), some (.ref b), some (iv n), some (.ref p3), y4, y5, none] ∧ Step G H Gt H' ∧ Gt p3 = none ∧ H' p3 = some (.lst acc) ∧ Paired (R1 Gt) acc (wTo c (d :: r) n i)) ?_ ?_ ?_
      · exact ⟨G, [], none, none, rfl, Step.aside gs n3 _, gs.free n3, upd_same, .nil⟩
      · rintro i σ H2 hi ⟨Gt, acc, y4, y5, rfl, st, g3, h3, pa⟩
        have gS : Same G Gt := st.gS gs
        have hif : i * c ≤ n := by
          have : i ≤ n / c := by omega
          exact (Nat.le_div_iff_mul_le hc).mp this
        have hi1 : i ≤ n := by omega
        have ei : (0 : Int) + (i : Int) = (i : Int) := Int.zero_add _
        rw [ei]
        have ha2 : SqL K H2 a ((c :: d :: r).map iv) := SqL.of (st.gh a _ (gS a _ ga))
        -- left = many - first * counts[0]
        refine ⟨_, rfl, _, rfl, _, rfl, a, _, 0, _, rfl, rfl, ha2, a0, (i : Int), (c : Int), rfl, rfl, .inl ⟨by omega, by omega⟩, (n : Int), (i : Int) * (c : Int), rfl, rfl, ?_⟩
        have el : (n : Int) - (i : Int) * (c : Int) = ((n - i * c : Nat) : Int) := by rw [Int.ofNat_sub hif, Int.natCast_mul]
        dsimp only
        rw [el]
        -- if marks[0][left]
        refine ⟨_, rfl, b, _, 0, _, rfl, rfl, SqL.of (st.gh b _ (gS b _ gb0)), at_of (j := 0) rfl rfl, _, rfl, am, _, ((n - i * c : Nat) : Int), _, rfl, rfl, SqL.of (st.gh am _ (gS am _ gm)), at_of (j := n - i * c) rfl (marks_get (by omega)), _, rfl, ?_⟩
        refine ite2 (fun tm => ?_) (fun tm => ?_)
        · -- found.extend(..)
          refine ⟨.ref p3, rfl, .inl ⟨rfl, _, SqL.of h3⟩, ?_⟩
          refine ⟨_, rfl, 1, rfl, a, _, rfl, ha2, fun p4 n4 => ?_⟩
          have st4 := st.trans (Step.make st.gh n4 (.lst (cutV ((c :: d :: r).map iv) (some 1) none)))
          refine ⟨_, rfl, 1, rfl, b, _, rfl, SqL.of (st4.gh b _ (st4.gS gs b _ gb0)), fun p5 n5 => ?_⟩
          have st5' := Step.make st4.gh n5 (.lst (cutV (.ref am :: mt) (some 1) none))
          have st5 := st4.trans st5'
          refine ⟨_, rfl, _, p4, p5, d :: r, n - i * c, m, rfl, st5.gh, ?_, ?_, by omega, hm, by simp, by simpa using hL, by simp at hl1000 ⊢; omega, fun e he => hp e (List.mem_cons_of_mem _ he), fun e he => hc1000 e (List.mem_cons_of_mem _ he), ?_, ?_⟩
          · rw [upd_ne (ne_of_none upd_same n5), upd_same]
            congr 2
            exact cut1 _ 1
          · refine ⟨p5, mt, rfl, ?_, Paired.imp' pmt fun _ _ h => mBs.up (st5.gS gs) h⟩
            rw [upd_same]
            congr 2
            exact cut1 _ 1
          · have := wTo_len hi hw
            omega
          intro v G6 H6 st6 r6
          obtain ⟨bw, ws, rfl, gw, pw⟩ := r6
          have st06 := st5.trans st6
          refine ⟨bw, rfl, ⟨_, SqL.of (st6.gh bw _ gw)⟩, ?_⟩
          have hsub := wTo_len hi hw
          refine fun D7 n7 => lcL (K := K) m1 m1 (fun _ => true) (fun o => i :: o) n7 st6.gh gw pw (by omega) (fun _ => rfl) ?_ ?_
          · intro x o G7 H7 hx ho st7 ex N0 N1 _ k1
            obtain ⟨bo, rfl, go⟩ := r1_at ex
            refine tyes ?_
            refine ⟨_, rfl, by show 1 ≤ sizeLine; decide, fun p8 n8 => ?_⟩
            have st8 := Step.aside st7.gh n8 (.lst [iv i])
            refine ⟨_, rfl, p8, bo, [iv i], _, rfl, rfl, upd_same, st8.gh bo _ go, ?_, fun p9 n9 => ?_⟩
            · have hlo : o.length = (d :: r).length := ((mem_waysF fun e he => hp e (List.mem_cons_of_mem _ he)).mp ho).1
              rw [List.length_map, hlo]
              have hl1 : (c :: d :: r).length ≤ 1000 := hl1000
              rw [List.length_cons] at hl1
              refine sz ?_
              show 1 + (d :: r).length ≤ 100000
              omega
            · refine k1 rfl (.ref p9) _ _ (st8.trans (Step.make st8.gh n9 _)) (r1_of ?_)
              rw [upd_same]
              rfl
          · intro G8 H8 st8 r8
            rw [List.filter_eq_self.mpr (fun _ _ => rfl)] at r8
            obtain ⟨b8, ws8, e8, g8, p8⟩ := r8
            cases e8
            have st08 := st6.trans st8
            have stt : Step Gt H2 G8 H8 := ⟨((same_new n4 _).trans (same_new n5 _)).trans st08.hh, st08.gh, fun z hz => by
              have z1 := (Step.make st.gh n4 (.lst (cutV ((c :: d :: r).map iv) (some 1) none))).trans (st5'.trans st08)
              exact z1.gg z hz⟩
            have h38 := stt.hh p3 _ h3
            have g38 := stt.out h3 g3
            refine ⟨p3, D7, acc, ws8, rfl, rfl, h38, st8.gh D7 _ g8, ?_, ?_⟩
            · rw [paired_len pa, paired_len p8, List.length_map]
              exact sz (by omega)
            · refine ⟨G8, acc ++ ws8, _, _, rfl, (st.trans stt).set n3 g38 _, g38, upd_same, ?_⟩
              rw [wTo_succ]
              exact paired_append (Paired.imp' pa fun _ _ h => m1.up (stt.gS st.gh) h) p8
        · have tm' : metB (d :: r) (n - i * c) = false := Bool.eq_false_iff.mpr tm
          refine ⟨Gt, acc, _, _, rfl, st, g3, h3, ?_⟩
          rw [wTo_succ, waysF_nil_of tm', List.map_nil, List.append_nil]
          exact pa
      · rintro σ H2 ⟨Gt, acc, y4, y5, rfl, st, g3, h3, pa⟩
        refine ⟨_, rfl, q (.ref p3) _ H2 (st.seal n3 g3 h3) ?_⟩
        exact ⟨p3, acc, rfl, upd_same, Paired.imp' pa fun _ _ h => m1.up (same_new g3 _) h⟩
end
end K25
namespace K25
open PySem PySem.Spec PyProof.Rows L2
section
variable {P : Program} {w : World} {K : PySem.W.Frag} {mg : Str → Option Value} {base : Heap}
def spWaysOf : Sp := fun vs H Q _ => ∃ (G : Hp) (a : Addr) (cs : List Nat) (n : Nat), vs = [.ref a, iv n] ∧ Same G H ∧ G a = some (.lst (cs.map iv)) ∧ n ≤ 1000 ∧ 1 ≤ cs.length ∧ cs.length ≤ 4 ∧ Posi cs ∧ (∀ c ∈ cs, c ≤ 1000) ∧ (waysF cs n).length ≤ 400 ∧
  ∀ v G' H', Step G H G' H' → R2' G' v (waysF cs n) → Q v H'
theorem ok_ways_of (D : Df K mg "ways_of" sWaysOf) (T : Txt mg) (c_ways_from : Cal P w K mg base 5 "ways_from" (spWaysFrom 5)) (c_met_marks : Cal P w K mg base 1 "met_marks" spMarks) : Cal P w K mg base 6 "ways_of" spWaysOf := by
  refine cal_of D scWaysOf (fun _ _ _ _ _ _ us hl => match us, hl with | [_, _], _ => rfl) (fun vs H Q E h => ?_) (fun f cdv A outer s H vs Q E hr h => ?_)
  · obtain ⟨G, a, cs, n, rfl, _⟩ := h; rfl
  obtain ⟨G, a, cs, n, rfl, gs, ga, hn, h1, h4, hp, hc1000, hw, q⟩ := h
  refine ⟨_, (pss_one (ps_ret (pe_c c_ways_from hr (by decide) (by rfl) (pa_cons (pv 0) (pa_cons (pe_lc (own := [(("at" : Str), 2)]) rfl scWaysOf.nd (pi_range2 (by rfl) T.range_ (pa_cons pe_int (pa_cons (pe_callB (call_lenK (K := K) rfl) (by rfl) T.len_ (by decide +kernel) (pa_cons (pv 0) pa_nil)) pa_nil))) (blkOk_by (N := [("counts" : Str), ("many" : Str), ("at" : Str)]) (sc := defScope sWaysOf) (own := [(("at" : Str), 2)]) (by decide +kernel)) (fun _ _ _ _ _ => (pg_name (i := 2) scWaysOf.nd rfl (Or.inl rfl))) (fun _ _ _ _ _ => pts_nil) (fun _ _ _ _ _ => (pe_c c_met_marks hr (by decide) (by rfl) (pa_cons (pe_slice (sl_listK (K := K) rfl) (pv 0) (po_some (pv 2)) po_none) (pa_cons (pv 1) pa_nil))))) (pa_cons (pv 1) pa_nil)))))), ?_⟩
  refine ⟨_, rfl, _, rfl, a, _, rfl, .inl (SqL.of (gs a _ ga)), 1, _, rfl, ⟨by omega, by omega, by omega, ?_⟩, ?_⟩
  · rw [List.length_map]; omega
  have en : (((cs.map iv).length : Int) - 1).toNat = cs.length - 1 := by rw [List.length_map]; omega
  rw [en]
  refine fun D3 n3 => lcR mBs (fun _ => true) (fun i => marksF (cs.drop (i + 1)) n) n3 gs (by omega) (fun _ => rfl) ?_ ?_
  · intro i G1 H1 hi st N0 N1 _ k1
    have ei : (1 : Int) + (i : Int) = ((i + 1 : Nat) : Int) := by omega
    rw [ei]
    refine tyes ?_
    refine ⟨_, rfl, _, rfl, ((i + 1 : Nat) : Int), rfl, a, _, rfl, SqL.of (st.gh a _ (st.gS gs a _ ga)), fun p4 n4 => ?_⟩
    rw [cut1]
    refine ⟨_, rfl, p4, cs.drop (i + 1), n, rfl, by rw [upd_same, List.map_drop], fun e he => hp e (List.mem_of_mem_drop he), by rw [List.length_drop]; omega, by omega, fun p5 H5 n5 s5 e5 => ?_⟩
    have st4 := Step.aside st.gh n4 (.lst (cs.map iv |>.drop (i + 1)))
    have st5 := Step.of_same st4.gh s5
    exact k1 rfl _ _ H5 ((st4.trans st5).seal ((same_new n4 _).free n5) (st.gh.free ((same_new n4 _).free n5)) e5) (rb_of upd_same)
  · intro G1 H1 st r
    rw [List.filter_eq_self.mpr (fun _ _ => rfl)] at r
    refine ⟨_, rfl, G1, a, D3, cs, n, n, rfl, st.gh, st.gS gs a _ ga, r, Nat.le_refl n, hn, h1, by omega, by omega, hp, hc1000, hw, fun v G2 H2 st2 r2 => q v G2 H2 (st.trans st2) r2⟩

def spLawWays (L : Nat) : Sp := fun vs H Q _ => ∃ (G : Hp) (a : Addr) (cs : List Nat) (n : Nat), vs = [.ref a, iv n] ∧ Same G H ∧ G a = some (.lst (cs.map iv)) ∧ n ≤ 1000 ∧ cs.length + 1 ≤ L ∧ cs.length ≤ 1000 ∧ Posi cs ∧ (∀ c ∈ cs, c ≤ 1000) ∧ (waysF cs n).length ≤ 400 ∧
  ∀ v G' H', Step G H G' H' → R2' G' v (waysF cs n) → Q v H'
theorem ok_law_ways (D : Df K mg "_law_ways" sLawWays) (T : Txt mg) : ∀ L, Cal P w K mg base L "_law_ways" (spLawWays L)
  | 0 => none_from D (ps := ["_law_counts_here", "_law_many"]) (fun _ _ _ _ _ _ us hl => match us, hl with | [_, _], _ => rfl) fun vs H Q E h => by
    obtain ⟨_, _, cs, _, _, _, _, _, h1, _⟩ := h
    omega
  | L + 1 => by
    have c_law_ways := ok_law_ways D T L
    refine cal_of D scLawWays (fun _ _ _ _ _ _ us hl => match us, hl with | [_, _], _ => rfl) (fun vs H Q E h => ?_) (fun f cdv A outer s H vs Q E hr h => ?_)
    · obtain ⟨G, a, cs, n, rfl, _⟩ := h; rfl
    obtain ⟨G, a, cs, n, rfl, gs, ga, hn, hL, hl1000, hp, hc1000, hw, q⟩ := h
    refine ⟨_, (pss_cons (ps_if (pt_cmpR (op_eqDK (K := K) rfl hr.units) (pv 0) (pe_lst pa_nil) (nomark _)) (pss_one (ps_ret (pe_ifExp (pt_cmpR op_eq (pv 1) pe_int (nomark _)) (pe_lst (pa_cons (pe_lst pa_nil) pa_nil)) (pe_lst pa_nil)))) pss_nil)
    (pss_cons (ps_set (i := 2) scLawWays.nd rfl (by first | exact Or.inl rfl | exact Or.inr rfl) (pe_lst pa_nil))
    (pss_cons (ps_for PassesOwn.never rfl (pi_range1 (by rfl) T.range_ (pa_cons (pe_op op_add (pe_op op_fdiv (pv 1) (pe_ix (ix_listK (K := K) rfl) (pv 0) pe_int (fun _ _ => rfl))) pe_int) pa_nil)) (pg_name (i := 3) scLawWays.nd rfl (by first | exact Or.inl rfl | exact Or.inr rfl)) (pss_one (ps_for PassesOwn.never rfl (pi_listK (K := K) rfl (pe_c c_law_ways hr (Nat.le_refl _) (by rfl) (pa_cons (pe_slice (sl_listK (K := K) rfl) (pv 0) (po_some pe_int) po_none) (pa_cons (pe_op op_sub (pv 1) (pe_op op_mul (pv 3) (pe_ix (ix_listK (K := K) rfl) (pv 0) pe_int (fun _ _ => rfl)))) pa_nil)))) (pg_name (i := 4) scLawWays.nd rfl (by first | exact Or.inl rfl | exact Or.inr rfl)) (pss_one (ps_expr (pe_bm PySem.F.plainAttrs_list PySem.F.slot_list_append PySem.F.type_list_append mt_append (pv 2) (pa_cons (pe_op op_cat (pe_lst (pa_cons (pv 3) pa_nil)) (pv 4)) pa_nil)))))))
    (pss_one (ps_ret (pv 2)))))), ?_⟩
    -- if counts == []
    refine ⟨_, rfl, by show 0 ≤ sizeLine; decide, fun p0 n0 => ?_⟩
    have st0 := Step.make gs n0 (.lst [])
    refine ⟨dD cs, dD ([] : Way), dp1.dp (r1_of (st0.hh a _ (gs a _ ga))), dp1.dp (r1_of upd_same), sh1 _, sh1 _, _, rfl, ?_⟩
    rw [eq_dD]
    refine ite2 (fun t => ?_) (fun t => ?_)
    · have t' : cs = [] := of_decide_eq_true t
      subst t'
      refine ⟨_, rfl, rfl, _, rfl, ite2 (fun t => ?_) (fun t => ?_)⟩
      · have e : (n : Int) = 0 := V.int.inj (of_decide_eq_true t)
        have e' : n = 0 := by omega
        subst e'
        refine ⟨by show 0 ≤ sizeLine; decide, fun p1 n1 => ⟨by show 1 ≤ sizeLine; decide, fun p2 n2 => ?_⟩⟩
        have st1 := st0.trans (Step.make st0.gh n1 (.lst []))
        have st2 := st1.trans (Step.make st1.gh n2 (.lst [.ref p1]))
        refine q _ _ _ st2 ⟨p2, [.ref p1], rfl, upd_same, paired_one (r1_of (by rw [upd_ne (ne_of_none upd_same n2), upd_same]; rfl))⟩
      · have t' : n ≠ 0 := fun z => t (decide_eq_true (by rw [z]; rfl))
        refine ⟨by show 0 ≤ sizeLine; decide, fun p1 n1 => q _ _ _ (st0.trans (Step.make st0.gh n1 (.lst []))) ?_⟩
        have : waysF [] n = [] := by unfold waysF; rw [if_neg t']
        rw [this]
        exact ⟨p1, [], rfl, upd_same, .nil⟩
    · have t' : cs ≠ [] := fun z => t (decide_eq_true z)
      obtain ⟨c, r, rfl⟩ := cons_of_pos (cs := cs) (List.length_pos_iff.mpr t')
      have hc := hp c List.mem_cons_self
      have hc1 := hc1000 c List.mem_cons_self
      have gs0 := st0.gh
      have ga0 : (upd G p0 (.lst [])) a = some (.lst ((c :: r).map iv)) := st0.gS gs a _ ga
      refine ⟨by show 0 ≤ sizeLine; decide, fun p3 n3 => ?_⟩
      have a0 : atI ((c :: r).map iv) 0 = some (iv c) := at_of (j := 0) rfl rfl
      have hq : n / c ≤ n := Nat.div_le_self n c
      have hz : (0 : Int) ≤ ((n / c : Nat) : Int) := Int.natCast_nonneg _
      have st3 := Step.aside gs0 n3 (.lst [])
      refine ⟨_, rfl, _, rfl, a, _, 0, _, rfl, rfl, SqL.of (st3.gh a _ ga0), a0, (n : Int), (c : Int), rfl, rfl, ⟨by omega, by omega⟩, ?_⟩
      refine ⟨((n / c : Nat) : Int), 1, rfl, rfl, ((n / c : Nat) : Int) + 1, rfl, by omega, by omega, ?_⟩
      have e2 : (((n / c : Nat) : Int) + 1).toNat = n / c + 1 := by omega
      rw [e2]
      refine for_range (lo := 0) (n := n / c + 1) (fun i σ H' => ∃ (Gt : Hp) (acc : List V) (y3 y4 : Option V), σ = [some (.ref a), some (iv n), some (.ref p3), y3, y4] ∧ Step (upd G p0 (.lst [])) (upd H p0 (.lst [])) Gt H' ∧ Gt p3 = none ∧ H' p3 = some (.lst acc) ∧ Paired (R1 Gt) acc (wTo c r n i)) ?_ ?_ ?_
      · exact ⟨_, [], none, none, rfl, st3, gs0.free n3, upd_same, .nil⟩
      · rintro i σ H2 hi ⟨Gt, acc, y3, y4, rfl, st, g3, h3, pa⟩
        have gS := st.gS gs0
        have hif : i * c ≤ n := by
          have : i ≤ n / c := by omega
          exact (Nat.le_div_iff_mul_le hc).mp this
        have hi1 : i ≤ n := by omega
        have ei : (0 : Int) + (i : Int) = (i : Int) := Int.zero_add _
        rw [ei]
        have ha2 : SqL K H2 a ((c :: r).map iv) := SqL.of (st.gh a _ (gS a _ ga0))
        have el : (n : Int) - (i : Int) * (c : Int) = ((n - i * c : Nat) : Int) := by rw [Int.ofNat_sub hif, Int.natCast_mul]
        -- for rest in law_ways(counts[1:], many - first * counts[0])
        refine ⟨_, rfl, 1, rfl, a, _, rfl, ha2, fun p4 n4 => ?_⟩
        have st4' := Step.make st.gh n4 (.lst (cutV ((c :: r).map iv) (some 1) none))
        have st4 := st.trans st4'
        refine ⟨_, rfl, _, rfl, _, rfl, a, _, 0, _, rfl, rfl, SqL.of (st4.gh a _ (st4.gS gs0 a _ ga0)), a0, (i : Int), (c : Int), rfl, rfl, .inl ⟨by omega, by omega⟩, (n : Int), (i : Int) * (c : Int), rfl, rfl, ?_⟩
        refine ⟨_, p4, r, n - i * c, ?_, st4.gh, ?_, by omega, by simpa using hL, by simp at hl1000; omega, fun e he => hp e (List.mem_cons_of_mem _ he), fun e he => hc1000 e (List.mem_cons_of_mem _ he), ?_, ?_⟩
        · show [V.ref p4, V.int ((n : Int) - (i : Int) * (c : Int))] = _
          rw [el]
          rfl
        · rw [upd_same]
          congr 2
          exact cut1 _ 1
        · have := wTo_len hi hw
          omega
        intro v G6 H6 st6 r6
        obtain ⟨bw, ws, rfl, gw, pw⟩ := r6
        have stt : Step Gt H2 G6 H6 := st4'.trans st6
        refine ⟨bw, rfl, ⟨_, SqL.of (st6.gh bw _ gw)⟩, ?_⟩
        have hsub := wTo_len hi hw
        have h36 := stt.hh p3 _ h3
        have g36 := stt.out h3 g3
        have st06 := st.trans stt
        have lws := paired_len pw
        refine for_list (xs := ws) (fun t σ H' => ∃ (Gu : Hp) (acc' : List V) (y4 : Option V), σ = [some (.ref a), some (iv n), some (.ref p3), some (iv i), y4] ∧ Step (upd G p0 (.lst [])) (upd H p0 (.lst [])) Gu H' ∧ Same G6 Gu ∧ Gu p3 = none ∧ H' p3 = some (.lst acc') ∧
          Paired (R1 Gu) acc' (wTo c r n i ++ ((waysF r (n - i * c)).map (i :: ·)).take t)) ?_ ?_ ?_ ?_
        · refine ⟨G6, acc, y4, rfl, st06, Same.refl _, g36, h36, ?_⟩
          rw [List.take_zero, List.append_nil]
          exact Paired.imp' pa fun _ _ h => m1.up (stt.gS st.gh) h
        · rintro t σ H' _ ⟨Gu, acc', y4, _, su, s6, _⟩
          exact SqL.of (su.gh bw _ (s6 bw _ gw))
        · rintro t x σ H7 hx ⟨Gu, acc', y4, rfl, su, s6, gu3, hu3, pu⟩
          obtain ⟨o, ho, ro⟩ := paired_get pw hx
          obtain ⟨bo, rfl, go⟩ := r1_at (m1.up s6 ro)
          have hlo : o.length = r.length := ((mem_waysF fun e he => hp e (List.mem_cons_of_mem _ he)).mp (List.mem_of_getElem? ho)).1
          have hl1 : (c :: r).length ≤ 1000 := hl1000
          rw [List.length_cons] at hl1
          refine ⟨.ref p3, rfl, .inl ⟨rfl, _, SqL.of hu3⟩, ?_⟩
          refine ⟨_, rfl, by show 1 ≤ sizeLine; decide, fun p8 n8 => ?_⟩
          have st8 := Step.aside su.gh n8 (.lst [iv i])
          refine ⟨_, rfl, p8, bo, [iv i], _, rfl, rfl, upd_same, st8.gh bo _ go, ?_, fun p9 n9 => ?_⟩
          · rw [List.length_map, hlo]
            exact sz (by show 1 + r.length ≤ 100000; omega)
          · have st9 := st8.trans (Step.make st8.gh n9 (.lst ([iv i] ++ o.map iv)))
            have hu9 := st9.hh p3 _ hu3
            have gu9 := st9.out hu3 gu3
            have htl : t < ws.length := (List.getElem?_eq_some_iff.mp hx).1
            refine ⟨p3, acc', .ref p9, rfl, rfl, hu9, ?_, ?_⟩
            · rw [paired_len pu, List.length_append, List.length_take, List.length_map]
              exact szl (by omega)
            · refine ⟨_, acc' ++ [.ref p9], _, rfl, (su.trans st9).set ((same_new n0 _ |>.free n3 |> fun _ => n3)) gu9 _, s6.trans (st9.gS su.gh), gu9, upd_same, ?_⟩
              rw [List.take_add_one, List.getElem?_map, ho, ← List.append_assoc]
              exact paired_append (Paired.imp' pu fun _ _ h => m1.up (st9.gS su.gh) h) (paired_one (r1_of (by rw [upd_same]; rfl)))
        · rintro σ H7 ⟨Gu, acc', y4, rfl, su, s6, gu3, hu3, pu⟩
          refine ⟨Gu, acc', _, _, rfl, su, gu3, hu3, ?_⟩
          rw [wTo_succ]
          rw [List.take_of_length_le (by rw [List.length_map]; omega)] at pu
          exact pu
      · rintro σ H2 ⟨Gt, acc, y3, y4, rfl, st, g3, h3, pa⟩
        refine ⟨_, rfl, q (.ref p3) _ H2 (st0.trans (st.seal n3 g3 h3)) ?_⟩
        exact ⟨p3, acc, rfl, upd_same, Paired.imp' pa fun _ _ h => m1.up (same_new g3 _) h⟩
end
end K25
namespace K25
open PySem PySem.Spec PyProof.Rows L2
theorem hu65_of {A : Around} {k : Nat} (hr : Room k A) : A.units + 65 < cLine := by have := hr.un; omega
/-! ### lots -/
/-- a lot's list, made behind H0 -/
def R2f (H0 : Hp) : Rl (List Way) := fun G v x => R2' G v x ∧ ∃ q, v = .ref q ∧ H0 q = none
theorem mR2f (H0 : Hp) : Mono (R2f H0) := ⟨fun s h => ⟨m2.up s h.1, h.2⟩⟩
theorem len_flat {α : Type} : ∀ {L : List (List α)}, (∀ l ∈ L, l ≠ []) → L.length ≤ L.flatten.length
  | [], _ => Nat.le_refl _
  | l :: L, h => by
    have := len_flat (L := L) fun k hk => h k (List.mem_cons_of_mem _ hk)
    have := List.length_pos_iff.mpr (h l List.mem_cons_self)
    rw [List.flatten_cons, List.length_append, List.length_cons]
    omega
theorem mem_flat {α : Type} : ∀ {L : List (List α)} {l : List α}, l ∈ L → l.length ≤ L.flatten.length
  | k :: L, l, h => by
    rw [List.flatten_cons, List.length_append]
    rcases List.mem_cons.mp h with rfl | h
    · omega
    · have := mem_flat h
      omega
theorem filt_flat {α : Type} (p : List α → Bool) : ∀ (L : List (List α)), (L.filter p).flatten.length ≤ L.flatten.length
  | [] => Nat.le_refl _
  | l :: L => by
    have := filt_flat p L
    rw [List.filter_cons]
    split
    · rw [List.flatten_cons, List.flatten_cons, List.length_append, List.length_append]; omega
    · rw [List.flatten_cons, List.length_append]; omega
abbrev Lt (W : List Way) (i : Nat) : List (List Way) := (W.take i).foldl (cstep nbr (sortB lt1)) []
theorem Lt_is (W : List Way) (i : Nat) : IsLots nbr (W.take i) (Lt W i) := comps_lots nbr_comm sortB_perm _
theorem Lt_flat (W : List Way) (i : Nat) : (Lt W i).flatten.length ≤ W.length := by
  rw [(Lt_is W i).perm.length_eq, List.length_take]
  omega
theorem Lt_len (W : List Way) (i : Nat) : (Lt W i).length ≤ W.length := Nat.le_trans (len_flat (Lt_is W i).ne) (Lt_flat W i)
theorem Lt_succ {W : List Way} {i : Nat} {w : Way} (h : W[i]? = some w) : Lt W (i + 1) = cstep nbr (sortB lt1) (Lt W i) w := by
  unfold Lt
  rw [List.take_add_one, h, List.foldl_append]
  rfl
theorem not_near {L : List (List Way)} (p : List Way → Bool) : L.filter (fun lot => !(L.filter p).any fun z => decide (z = lot)) = L.filter fun lot => !p lot := by
  refine List.filter_congr fun lot hl => ?_
  congr 1
  rw [Bool.eq_iff_iff, List.any_eq_true]
  constructor
  · rintro ⟨z, hz, e⟩
    rw [← of_decide_eq_true e]
    exact (List.mem_filter.mp hz).2
  · intro h
    exact ⟨lot, List.mem_filter.mpr ⟨hl, h⟩, decide_eq_true rfl⟩
theorem any_toD (L : List (List Way)) (lot : List Way) : ((L.map dD).any fun z => PyData.eqv z (dD lot)) = L.any fun z => decide (z = lot) := by
  rw [List.any_map]
  congr 1
  funext z
  exact eq_dD z lot
theorem sort1 (l : List Way) : sortB PySem.W.DatumOrd.lt l = sortB lt1 l := by
  have : (PySem.W.DatumOrd.lt : Way → Way → Bool) = lt1 := by funext a b; exact ord1 a b
  rw [this]
theorem sort2 (l : List (List Way)) : sortB PySem.W.DatumOrd.lt l = sortB lt2 l := by
  have : (PySem.W.DatumOrd.lt : List Way → List Way → Bool) = lt2 := by funext a b; exact ord2 a b
  rw [this]
section
variable {P : Program} {w : World} {K : PySem.W.Frag} {mg : Str → Option Value} {base : Heap}
def spLots : Sp := fun vs H Q _ => ∃ (G : Hp) (a : Addr) (W : List Way), vs = [.ref a] ∧ Same G H ∧ RL R1 G (.ref a) W ∧ W.length ≤ 400 ∧ (∀ o ∈ W, o.length ≤ 1000) ∧
  ∀ v G' H', Step G H G' H' → RL (R2f H) G' v (lotsOf W) → Q v H'
theorem ok_lots_among (D : Df K mg "lots_among" sLotsAmong) (T : Txt mg) (c_are_neighbours : Cal P w K mg base 1 "are_neighbours" spNbr) : Cal P w K mg base 2 "lots_among" spLots := by
  refine cal_of D scLotsAmong (fun _ _ _ _ _ _ us hl => match us, hl with | [_], _ => rfl) (fun vs H Q E h => ?_) (fun f cdv A outer s H vs Q E hr h => ?_)
  · obtain ⟨G, a, W, rfl, _⟩ := h; rfl
  obtain ⟨G, a, W, rfl, gs, rW, h400, hl1000, q⟩ := h
  obtain ⟨_, ws, ea, ga, pW⟩ := rW
  cases ea
  have lws := paired_len pW
  refine ⟨_, (pss_cons (ps_set (i := 1) scLotsAmong.nd rfl (by first | exact Or.inl rfl | exact Or.inr rfl) (pe_lst pa_nil))
    (pss_cons (ps_for PassesOwn.never rfl (pi_listK (K := K) rfl (pv 0)) (pg_name (i := 2) scLotsAmong.nd rfl (by first | exact Or.inl rfl | exact Or.inr rfl)) (pss_cons (ps_set (i := 3) scLotsAmong.nd rfl (by first | exact Or.inl rfl | exact Or.inr rfl) (pe_lc (own := [(("lot" : Str), 5)]) rfl scLotsAmong.nd (pi_listK (K := K) rfl (pv 1)) (blkOk_by (N := [("some" : Str), ("lots" : Str), ("way" : Str), ("near" : Str), ("far" : Str), ("lot" : Str), ("other" : Str)]) (sc := defScope sLotsAmong) (own := [(("lot" : Str), 5)]) (by decide +kernel)) (fun _ _ _ _ _ => (pg_name (i := 5) scLotsAmong.nd rfl (Or.inl rfl))) (fun _ _ _ _ _ => (pts_one (pt_val (pe_callB (cr_anyK (K := K) rfl rfl) (by rfl) T.any_ (by decide +kernel) (pa_cons (pe_lc (own := [(("other" : Str), 6)]) rfl scLotsAmong.nd (pi_listK (K := K) rfl (pv 5)) (blkOk_by (N := [("some" : Str), ("lots" : Str), ("way" : Str), ("near" : Str), ("far" : Str), ("lot" : Str), ("other" : Str)]) (sc := relS _ (defScope sLotsAmong)) (own := [(("other" : Str), 6)]) (by decide +kernel)) (fun _ _ _ _ _ => (pg_name (i := 6) scLotsAmong.nd rfl (Or.inl rfl))) (fun _ _ _ _ _ => pts_nil) (fun _ _ _ _ _ => (pe_c c_are_neighbours hr (by decide) (by rfl) (pa_cons (pv 2) (pa_cons (pv 6) pa_nil))))) pa_nil))))) (fun _ _ _ _ _ => (pv 5))))
    (pss_cons (ps_setLc (i := 4) (own := [(("lot" : Str), 5)]) rfl scLotsAmong.nd rfl rfl (sw_true rfl rfl rfl (by decide +kernel)) (pi_listK (K := K) rfl (pv 1)) (blkOk_by (N := [("some" : Str), ("lots" : Str), ("way" : Str), ("near" : Str), ("far" : Str), ("lot" : Str), ("other" : Str)]) (sc := defScope sLotsAmong) (own := [(("lot" : Str), 5)]) (by decide +kernel)) (fun _ _ _ _ _ => (pg_name (i := 5) scLotsAmong.nd rfl (Or.inl rfl))) (fun _ _ _ _ _ => (pts_one (pt_cmpR (op_notInDK (K := K) rfl (hu65_of hr)) (pv 5) (pv 3) (by rfl)))) (fun _ _ _ _ _ => (pv 5)))
    (pss_one (ps_set (i := 1) scLotsAmong.nd rfl (by first | exact Or.inl rfl | exact Or.inr rfl) (pe_op op_cat (pv 4) (pe_lst (pa_cons (pe_callB (cr_sorted1K (K := K) rfl hr.units) (by rfl) T.sorted_ (by decide +kernel) (pa_cons (pe_op op_cat (pe_lc2 (own := [(("lot" : Str), 5), (("other" : Str), 6)]) (vs1 := [6]) rfl scLotsAmong.nd (pi_listK (K := K) rfl (pv 3)) (blkOk_by (N := [("some" : Str), ("lots" : Str), ("way" : Str), ("near" : Str), ("far" : Str), ("lot" : Str), ("other" : Str)]) (sc := defScope sLotsAmong) (own := [(("lot" : Str), 5), (("other" : Str), 6)]) (by decide +kernel)) (by decide) (fun _ _ _ _ _ => (pg_name (i := 5) scLotsAmong.nd rfl (Or.inl rfl))) (fun _ _ _ _ _ => pts_nil) (fun _ _ _ _ _ => (pi_listK (K := K) rfl (pv 5))) (fun _ _ _ _ _ => (pg_name (i := 6) scLotsAmong.nd rfl (Or.inl rfl))) (fun _ _ _ _ _ => pts_nil) (fun _ _ _ _ _ => (pv 6))) (pe_lst (pa_cons (pv 2) pa_nil))) pa_nil)) pa_nil))))))))
    (pss_one (ps_ret (pe_callB (cr_sorted2K (K := K) rfl hr.units) (by rfl) T.sorted_ (by decide +kernel) (pa_cons (pv 1) pa_nil)))))), ?_⟩
  refine ⟨by show 0 ≤ sizeLine; decide, fun p0 n0 => ?_⟩
  have st0 := Step.make gs n0 (.lst [])
  refine ⟨_, rfl, a, rfl, ⟨_, SqL.of (st0.hh a _ (gs a _ ga))⟩, ?_⟩
  refine for_list (xs := ws) (fun i σ H' => ∃ (Gt : Hp) (pl : Addr) (vs : List V) (y2 y3 y4 : Option V), σ = [some (.ref a), some (.ref pl), y2, y3, y4, none, none] ∧ Step G H Gt H' ∧ Gt pl = some (.lst vs) ∧ Paired (R2f H Gt) vs (Lt W i)) ?_ ?_ ?_ ?_
  · exact ⟨_, p0, [], none, none, none, rfl, st0, upd_same, .nil⟩
  · rintro i σ H' _ ⟨Gt, pl, vs, y2, y3, y4, _, st, _⟩
    exact SqL.of (st.hh a _ (gs a _ ga))
  · rintro i x σ H2 hx ⟨Gt, pl, vs, y2, y3, y4, rfl, st, gpl, pv⟩
    obtain ⟨o, ho, rx0⟩ := paired_get pW hx
    have rx : R1 Gt x o := m1.up (st.gS gs) rx0
    have hol : o.length ≤ 1000 := hl1000 o (List.mem_of_getElem? ho)
    have hLf := Lt_flat W i
    have hLl := Lt_len W i
    -- near
    refine ⟨_, rfl, pl, rfl, ⟨_, SqL.of (st.gh pl _ gpl)⟩, ?_⟩
    refine fun D1 d1 => lcL (K := K) (mR2f H) (mR2f H) (fun lot => hit nbr o lot) (fun lot => lot) d1 st.gh gpl pv (by omega) (fun _ => rfl) ?_ ?_
    · intro y lot G3 H3 hy hlot st3 ex N0 N1 h0 h1
      obtain ⟨⟨bl, us, rfl, gl, pu⟩, fr⟩ := id ex
      have hll := mem_flat hlot
      refine ⟨_, rfl, bl, rfl, ⟨_, SqL.of (st3.gh bl _ gl)⟩, ?_⟩
      refine fun D2 d2 => lcL (K := K) m1 mRB (fun _ => true) (fun v => nbr o v) d2 st3.gh gl pu (by omega) (fun _ => rfl) ?_ ?_
      · intro z v G4 H4 hz hv st4 ez N0' N1' _ k1
        refine tyes ⟨_, rfl, _, rfl, _, _, o, v, rfl, m1.up (((st3.gS st.gh).trans (st4.gS st3.gh)).trans st4.gh) rx, m1.up st4.gh ez, by omega, fun H5 s5 => k1 rfl _ G4 H5 (Step.of_same st4.gh s5) rfl⟩
      · intro G4 H4 st4 r4
        rw [List.filter_eq_self.mpr (fun _ _ => rfl)] at r4
        obtain ⟨b4, e4, g4⟩ := rb_at r4
        refine ⟨b4, _, by rw [e4], SqL.of (st4.gh b4 _ g4), _, rfl, ?_⟩
        rw [any_map]
        refine ite2 (fun t => ⟨_, rfl, h1 t _ G4 H4 st4 ((mR2f H).up (st4.gS st3.gh) ex)⟩) (fun t => h0 (Bool.eq_false_iff.mpr t) G4 H4 st4)
    intro G3 H3 st3 r3
    rw [List.map_id'] at r3
    obtain ⟨_, ns, en, gn, pn⟩ := id r3
    cases en
    -- far
    have gpl3 := st3.gS st.gh pl _ gpl
    have pv3 : Paired (R2f H G3) vs (Lt W i) := Paired.imp' pv fun _ _ h => (mR2f H).up (st3.gS st.gh) h
    refine ⟨_, rfl, pl, rfl, ⟨_, SqL.of (st3.gh pl _ gpl3)⟩, ?_⟩
    refine fun D5 d5 => lcL (K := K) (mR2f H) (mR2f H) (fun lot => !((Lt W i).filter (hit nbr o)).any fun z => decide (z = lot)) (fun lot => lot) d5 st3.gh gpl3 pv3 (by omega) (fun _ => rfl) ?_ ?_
    · intro y lot G5 H5 hy hlot st5 ex N0 N1 h0 h1
      have rn5 : R3 H5 (.ref D1) ((Lt W i).filter (hit nbr o)) := m3.up st5.gh (m3.up (st5.gS st3.gh) ⟨D1, ns, rfl, gn, Paired.imp' pn fun _ _ h => h.1⟩)
      refine ⟨_, rfl, _, rfl, dD lot, ((Lt W i).filter (hit nbr o)).map dD, dp2.dp (m2.up st5.gh ex.1), dp3.dp rn5, sh2 lot, sh3 _, _, rfl, ?_⟩
      rw [any_toD]
      refine ite2 (fun t => ⟨_, rfl, h1 t _ G5 H5 (.refl st5.gh) ex⟩) (fun t => h0 (Bool.eq_false_iff.mpr t) G5 H5 (.refl st5.gh))
    intro G5 H5 st5 r5
    rw [List.map_id', not_near] at r5
    obtain ⟨_, fs, ef, gf, pf⟩ := id r5
    cases ef
    -- lots = far + [sorted([..] + [way])]
    have pn5 : Paired (RL R1 G5) ns ((Lt W i).filter (hit nbr o)) := Paired.imp' pn fun _ _ h => m2.up (st5.gS st3.gh) h.1
    have hff := filt_flat (hit nbr o) (Lt W i)
    refine ⟨_, rfl, ?_⟩
    refine ⟨_, rfl, D1, rfl, ⟨_, SqL.of (st5.gh D1 _ (st5.gS st3.gh D1 _ gn))⟩, ?_⟩
    refine fun D6 d6 => lc2 (K := K) m1 d6 st5.gh (st5.gS st3.gh D1 _ gn) pn5 (by omega) (fun _ => rfl) (fun _ => rfl) (fun _ _ => rfl) (fun _ _ => rfl) ?_
    intro G6 H6 st6 r6
    obtain ⟨_, zs, ez, gz, pz⟩ := id r6
    cases ez
    have st56 := st3.trans (st5.trans st6)
    refine ⟨_, rfl, by show 1 ≤ sizeLine; decide, fun p7 n7 => ?_⟩
    have st7 := Step.aside st6.gh n7 (.lst [x])
    refine ⟨D6, p7, zs, [x], rfl, rfl, st7.gh D6 _ gz, upd_same, ?_, fun p8 n8 => ?_⟩
    · rw [paired_len pz]
      exact sz (by show _ + 1 ≤ 100000; omega)
    have st8 := Step.make st7.gh n8 (.lst (zs ++ [x]))
    have p8p : Paired (R1 (upd G6 p8 (.lst (zs ++ [x])))) (zs ++ [x]) (((Lt W i).filter (hit nbr o)).flatten ++ [o]) :=
      paired_append (Paired.imp' pz fun _ _ h => m1.up (st8.gS st7.gh) h) (paired_one (m1.up ((st56.gS st.gh).trans (st8.gS st7.gh)) rx))
    refine ⟨p8, zs ++ [x], _, R1 (upd G6 p8 (.lst (zs ++ [x]))), rfl, SqL.of upd_same, p8p, fun v k h => dp1.dp (m1.up st8.gh h), fun ys p9 pm ps n9 => ?_⟩
    rw [sort1] at ps
    have st9 := Step.make st8.gh n9 (.lst ys)
    refine ⟨by show 1 ≤ sizeLine; decide, fun p10 n10 => ?_⟩
    have st10 := Step.aside st9.gh n10 (.lst [.ref p9])
    have st610 : Step G6 H6 _ _ := st7.trans (st8.trans (st9.trans st10))
    have st0t := st.trans (st56.trans st610)
    have gf10 := st610.gS st6.gh D5 _ (st6.gS st5.gh D5 _ gf)
    have n9H : H p9 = none := by
      have s1 := (st.trans (st56.trans (st7.trans st8))).hh
      exact s1.free n9
    refine ⟨D5, p10, fs, [.ref p9], rfl, rfl, st10.gh D5 _ gf10, upd_same, ?_, fun p11 n11 => ?_⟩
    · rw [paired_len pf]
      have := List.length_filter_le (fun lot => !hit nbr o lot) (Lt W i)
      exact sz (by show _ + 1 ≤ 100000; omega)
    have st11 := Step.make st10.gh n11 (.lst (fs ++ [.ref p9]))
    refine ⟨_, p11, fs ++ [.ref p9], _, _, _, rfl, st0t.trans st11, upd_same, ?_⟩
    rw [Lt_succ ho]
    refine paired_append (Paired.imp' pf fun _ _ h => (mR2f H).up (((st6.gS st5.gh).trans (st610.gS st6.gh)).trans (st11.gS st10.gh)) h) (paired_one ⟨?_, p9, rfl, n9H⟩)
    have r9 : R2' (upd (upd G6 p8 (.lst (zs ++ [x]))) p9 (.lst ys)) (.ref p9) (sortB lt1 (((Lt W i).filter (hit nbr o)).flatten ++ [o])) := ⟨p9, ys, rfl, upd_same, Paired.imp' ps fun _ _ h => m1.up (st9.gS st8.gh) h⟩
    exact m2.up (st11.gS st10.gh) r9
  · rintro σ H2 ⟨Gt, pl, vs, y2, y3, y4, rfl, st, gpl, pv⟩
    refine ⟨_, rfl, pl, vs, _, R2f H Gt, rfl, SqL.of (st.gh pl _ gpl), pv, fun v k h => dp2.dp (m2.up st.gh h.1), fun ys p pm ps np => ?_⟩
    rw [sort2] at ps
    have st1 := Step.make st.gh np (.lst ys)
    refine q (.ref p) _ _ (st.trans st1) ⟨p, ys, rfl, upd_same, ?_⟩
    have e : Lt W ws.length = rawLots W := by
      unfold Lt rawLots comps
      rw [List.take_of_length_le (by omega)]
    rw [e] at ps
    exact Paired.imp' ps fun _ _ h => (mR2f H).up (st1.gS st.gh) h
end
end K25
namespace K25
open PySem PySem.Spec PyProof.Rows L2
section
variable {P : Program} {w : World} {K : PySem.W.Frag} {mg : Str → Option Value} {base : Heap}
theorem take_filter {α : Type} (p : α → Bool) {L : List α} {t : Nat} {x : α} (h : L[t]? = some x) : (L.take (t + 1)).filter p = (L.take t).filter p ++ (if p x = true then [x] else []) := by
  rw [List.take_add_one, h, List.filter_append]
  cases e : p x <;> simp [e]
theorem take_flat {α : Type} (p : List α → Bool) (L : List (List α)) (t : Nat) : ((L.take t).filter p).flatten.length ≤ L.flatten.length := by
  refine Nat.le_trans (filt_flat p _) ?_
  conv => rhs; rw [← List.take_append_drop t L, List.flatten_append, List.length_append]
  omega
theorem ok_law_lots (D : Df K mg "_law_lots" sLawLots) (T : Txt mg) (c_law_meet : Cal P w K mg base 1 "_law_meet" spNbr) : Cal P w K mg base 2 "_law_lots" spLots := by
  refine cal_of D scLawLots (fun _ _ _ _ _ _ us hl => match us, hl with | [_], _ => rfl) (fun vs H Q E h => ?_) (fun f cdv A outer s H vs Q E hr h => ?_)
  · obtain ⟨G, a, W, rfl, _⟩ := h; rfl
  obtain ⟨G, a, W, rfl, gs, rW, h400, hl1000, q⟩ := h
  obtain ⟨_, ws, ea, ga, pW⟩ := rW
  cases ea
  have lws := paired_len pW
  refine ⟨_, (pss_cons (ps_set (i := 1) scLawLots.nd rfl (by first | exact Or.inl rfl | exact Or.inr rfl) (pe_lst pa_nil))
    (pss_cons (ps_for PassesOwn.never rfl (pi_listK (K := K) rfl (pv 0)) (pg_name (i := 2) scLawLots.nd rfl (by first | exact Or.inl rfl | exact Or.inr rfl)) (pss_cons (ps_par (i := 3) (j := 4) rfl scLawLots.nd rfl rfl (by decide) rfl rfl (pa_cons (pe_lst (pa_cons (pv 2) pa_nil)) (pa_cons (pe_lst pa_nil) pa_nil)) (by rfl))
    (pss_cons (ps_for PassesOwn.never rfl (pi_listK (K := K) rfl (pv 1)) (pg_name (i := 5) scLawLots.nd rfl (by first | exact Or.inl rfl | exact Or.inr rfl)) (pss_one (ps_if (pt_val (pe_callB (cr_anyK (K := K) rfl rfl) (by rfl) T.any_ (by decide +kernel) (pa_cons (pe_lc (own := [(("_law_other" : Str), 6)]) rfl scLawLots.nd (pi_listK (K := K) rfl (pv 5)) (blkOk_by (N := [("_law_some" : Str), ("_law_lots_here" : Str), ("_law_way" : Str), ("_law_held" : Str), ("_law_left" : Str), ("_law_lot" : Str), ("_law_other" : Str)]) (sc := defScope sLawLots) (own := [(("_law_other" : Str), 6)]) (by decide +kernel)) (fun _ _ _ _ _ => (pg_name (i := 6) scLawLots.nd rfl (Or.inl rfl))) (fun _ _ _ _ _ => pts_nil) (fun _ _ _ _ _ => (pe_c c_law_meet hr (by decide) (by rfl) (pa_cons (pv 2) (pa_cons (pv 6) pa_nil))))) pa_nil))) (pss_one (ps_set (i := 3) scLawLots.nd rfl (by first | exact Or.inl rfl | exact Or.inr rfl) (pe_op op_cat (pv 3) (pv 5)))) (pss_one (ps_expr (pe_bm PySem.F.plainAttrs_list PySem.F.slot_list_append PySem.F.type_list_append mt_append (pv 4) (pa_cons (pv 5) pa_nil)))))))
    (pss_one (ps_set (i := 1) scLawLots.nd rfl (by first | exact Or.inl rfl | exact Or.inr rfl) (pe_op op_cat (pv 4) (pe_lst (pa_cons (pe_callB (cr_sorted1K (K := K) rfl hr.units) (by rfl) T.sorted_ (by decide +kernel) (pa_cons (pv 3) pa_nil)) pa_nil))))))))
    (pss_one (ps_ret (pe_callB (cr_sorted2K (K := K) rfl hr.units) (by rfl) T.sorted_ (by decide +kernel) (pa_cons (pv 1) pa_nil)))))), ?_⟩
  refine ⟨by show 0 ≤ sizeLine; decide, fun p0 n0 => ?_⟩
  have st0 := Step.make gs n0 (.lst [])
  refine ⟨_, rfl, a, rfl, ⟨_, SqL.of (st0.hh a _ (gs a _ ga))⟩, ?_⟩
  refine for_list (xs := ws) (fun i σ H' => ∃ (Gt : Hp) (pl : Addr) (vs : List V) (y2 y3 y4 y5 : Option V), σ = [some (.ref a), some (.ref pl), y2, y3, y4, y5, none] ∧ Step G H Gt H' ∧ Gt pl = some (.lst vs) ∧ Paired (R2f H Gt) vs (Lt W i)) ?_ ?_ ?_ ?_
  · exact ⟨_, p0, [], none, none, none, none, rfl, st0, upd_same, .nil⟩
  · rintro i σ H' _ ⟨Gt, pl, vs, y2, y3, y4, y5, _, st, _⟩
    exact SqL.of (st.hh a _ (gs a _ ga))
  · rintro i x σ H2 hx ⟨Gt, pl, vs, y2, y3, y4, y5, rfl, st, gpl, pv⟩
    obtain ⟨o, ho, rx0⟩ := paired_get pW hx
    have rx : R1 Gt x o := m1.up (st.gS gs) rx0
    have hol : o.length ≤ 1000 := hl1000 o (List.mem_of_getElem? ho)
    have hLf := Lt_flat W i
    have hLl := Lt_len W i
    have lvs := paired_len pv
    -- held, left = [way], []
    refine ⟨_, rfl, by show 1 ≤ sizeLine; decide, fun ph nh => ⟨by show 0 ≤ sizeLine; decide, fun pf nf => ?_⟩⟩
    have sth := Step.make st.gh nh (.lst [x])
    have stf := Step.aside sth.gh nf (.lst [])
    have nfH : H pf = none := (st.trans sth).hh.free nf
    refine ⟨_, _, rfl, ?_⟩
    -- for lot in lots_here
    have gpl0 := sth.gS st.gh pl _ gpl
    refine ⟨_, rfl, pl, rfl, ⟨_, SqL.of (stf.gh pl _ gpl0)⟩, ?_⟩
    refine for_list (xs := vs) (fun t σ H' => ∃ (Gu : Hp) (pk : Addr) (hs ls : List V) (y5 : Option V), σ = [some (.ref a), some (.ref pl), some x, some (.ref pk), some (.ref pf), y5, none] ∧ Step G H Gu H' ∧ Same Gt Gu ∧ Gu pk = some (.lst hs) ∧ Paired (R1 Gu) hs ([o] ++ (((Lt W i).take t).filter (hit nbr o)).flatten) ∧
      Gu pf = none ∧ H' pf = some (.lst ls) ∧ Paired (R2f H Gu) ls (((Lt W i).take t).filter fun lot => !hit nbr o lot)) ?_ ?_ ?_ ?_
    · refine ⟨_, ph, [x], [], y5, rfl, st.trans (sth.trans stf), sth.gS st.gh, upd_same, ?_, sth.gh.free nf, upd_same, ?_⟩
      · rw [List.take_zero]
        exact paired_one (m1.up (sth.gS st.gh) rx)
      · rw [List.take_zero]
        exact .nil
    · rintro t σ H' _ ⟨Gu, pk, hs, ls, y5, _, su, sg, _⟩
      exact SqL.of (su.gh pl _ (sg pl _ gpl))
    · rintro t y σ H3 hy ⟨Gu, pk, hs, ls, y5, rfl, su, sg, gk, pk1, gf, hf, pl1⟩
      obtain ⟨lot, hlot, ey⟩ := paired_get pv hy
      have ex := (mR2f H).up sg ey
      have hll := mem_flat (List.mem_of_getElem? hlot)
      obtain ⟨⟨bl, us, rfl, gl, pu⟩, fr⟩ := id ex
      -- if any([..])
      refine ⟨_, rfl, bl, rfl, ⟨_, SqL.of (su.gh bl _ gl)⟩, ?_⟩
      refine fun D2 d2 => lcL (K := K) m1 mRB (fun _ => true) (fun v => nbr o v) d2 su.gh gl pu (by omega) (fun _ => rfl) ?_ ?_
      · intro z v G4 H4 hz hv st4 ez N0' N1' _ k1
        refine tyes ⟨_, rfl, _, rfl, _, _, o, v, rfl, m1.up ((sg.trans (st4.gS su.gh)).trans st4.gh) rx, m1.up st4.gh ez, by omega, fun H5 s5 => k1 rfl _ G4 H5 (Step.of_same st4.gh s5) rfl⟩
      intro G4 H4 st4 r4
      rw [List.filter_eq_self.mpr (fun _ _ => rfl)] at r4
      obtain ⟨b4, e4, g4⟩ := rb_at r4
      refine ⟨b4, _, by rw [e4], SqL.of (st4.gh b4 _ g4), _, rfl, ?_⟩
      rw [any_map]
      have gk4 := st4.gS su.gh pk _ gk
      have hf4 := st4.hh pf _ hf
      have gf4 := st4.out hf gf
      have hfl := take_flat (hit nbr o) (Lt W i) t
      refine ite2 (fun tt => ?_) (fun tt => ?_)
      · have tt' : hit nbr o lot = true := tt
        -- held = held + lot
        refine ⟨_, rfl, _, rfl, pk, bl, hs, us, rfl, rfl, st4.gh pk _ gk4, st4.gh bl _ (st4.gS su.gh bl _ gl), ?_, fun p5 n5 => ?_⟩
        · rw [paired_len pk1, paired_len pu, List.length_append]
          exact sz (by show 1 + _ + _ ≤ 100000; omega)
        have st5 := Step.make st4.gh n5 (.lst (hs ++ us))
        have s45 := (st4.gS su.gh).trans (st5.gS st4.gh)
        refine ⟨_, p5, hs ++ us, ls, _, rfl, su.trans (st4.trans st5), sg.trans s45, upd_same, ?_, st5.out hf4 gf4, st5.hh pf _ hf4, ?_⟩
        · rw [take_filter _ hlot, if_pos tt', List.flatten_append, ← List.append_assoc]
          refine paired_append (Paired.imp' pk1 fun _ _ h => m1.up s45 h) ?_
          rw [List.flatten_cons, List.flatten_nil, List.append_nil]
          exact Paired.imp' pu fun _ _ h => m1.up s45 h
        · rw [take_filter _ hlot, tt', Bool.not_true, if_neg Bool.false_ne_true, List.append_nil]
          exact Paired.imp' pl1 fun _ _ h => (mR2f H).up s45 h
      · have tt' : hit nbr o lot = false := Bool.eq_false_iff.mpr tt
        -- left.append(lot)
        refine ⟨.ref pf, rfl, .inl ⟨rfl, _, SqL.of hf4⟩, _, rfl, pf, ls, _, rfl, rfl, hf4, ?_, ?_⟩
        · rw [paired_len pl1]
          have := List.length_filter_le (fun lot => !hit nbr o lot) ((Lt W i).take t)
          rw [List.length_take] at this
          exact szl (by omega)
        refine ⟨G4, pk, hs, ls ++ [.ref bl], _, rfl, (su.trans st4).set nfH gf4 _, sg.trans (st4.gS su.gh), gk4, ?_, gf4, upd_same, ?_⟩
        · rw [take_filter _ hlot, tt', if_neg Bool.false_ne_true, List.append_nil]
          exact Paired.imp' pk1 fun _ _ h => m1.up (st4.gS su.gh) h
        · rw [take_filter _ hlot, tt', Bool.not_false, if_pos rfl]
          exact paired_append (Paired.imp' pl1 fun _ _ h => (mR2f H).up (st4.gS su.gh) h) (paired_one ((mR2f H).up (st4.gS su.gh) ex))
    · rintro σ H3 ⟨Gu, pk, hs, ls, y5, rfl, su, sg, gk, pk1, gf, hf, pl1⟩
      rw [List.take_of_length_le (by omega)] at pk1 pl1
      -- lots_here = left + [sorted(held)]
      have su' := su.seal nfH gf hf
      have sgf := same_new gf (.lst ls)
      refine ⟨_, rfl, _, rfl, pk, hs, _, R1 Gu, rfl, SqL.of (su.gh pk _ gk), pk1, fun v k h => dp1.dp (m1.up su.gh h), fun ys p9 pm ps n9 => ?_⟩
      rw [sort1] at ps
      have st9 := Step.make su'.gh n9 (.lst ys)
      refine ⟨by show 1 ≤ sizeLine; decide, fun p10 n10 => ?_⟩
      have st10 := Step.aside st9.gh n10 (.lst [.ref p9])
      have s910 := (st9.trans st10)
      refine ⟨pf, p10, ls, [.ref p9], rfl, rfl, s910.hh pf _ hf, upd_same, ?_, fun p11 n11 => ?_⟩
      · rw [paired_len pl1]
        have := List.length_filter_le (fun lot => !hit nbr o lot) (Lt W i)
        exact sz (by show _ + 1 ≤ 100000; omega)
      have st11 := Step.make st10.gh n11 (.lst (ls ++ [.ref p9]))
      have sall := (sgf.trans (st9.gS su'.gh)).trans (st11.gS st10.gh)
      refine ⟨_, p11, ls ++ [.ref p9], _, _, _, _, rfl, su'.trans (s910.trans st11), upd_same, ?_⟩
      rw [Lt_succ ho]
      refine paired_append (Paired.imp' pl1 fun _ _ h => (mR2f H).up sall h) (paired_one ⟨?_, p9, rfl, su.hh.free n9⟩)
      have e9 : sortB lt1 ([o] ++ ((Lt W i).filter (hit nbr o)).flatten) = sortB lt1 (((Lt W i).filter (hit nbr o)).flatten ++ [o]) := sortB_congr s1 List.perm_append_comm
      rw [e9] at ps
      exact ⟨p9, ys, rfl, st11.gS st10.gh p9 _ upd_same, Paired.imp' ps fun _ _ h => m1.up sall h⟩
  · rintro σ H2 ⟨Gt, pl, vs, y2, y3, y4, y5, rfl, st, gpl, pv⟩
    refine ⟨_, rfl, pl, vs, _, R2f H Gt, rfl, SqL.of (st.gh pl _ gpl), pv, fun v k h => dp2.dp (m2.up st.gh h.1), fun ys p pm ps np => ?_⟩
    rw [sort2] at ps
    have st1 := Step.make st.gh np (.lst ys)
    refine q (.ref p) _ _ (st.trans st1) ⟨p, ys, rfl, upd_same, ?_⟩
    have e : Lt W ws.length = rawLots W := by
      unfold Lt rawLots comps
      rw [List.take_of_length_le (by omega)]
    rw [e] at ps
    exact Paired.imp' ps fun _ _ h => (mR2f H).up (st1.gS st.gh) h
end
end K25
namespace K25
open PySem PySem.Spec PyProof.Rows L2
section
variable {P : Program} {w : World} {K : PySem.W.Frag} {mg : Str → Option Value} {base : Heap}
/-! ### lots by positions -/
abbrev Pt (cs : List Nat) (n i : Nat) : List (List Nat) := ((ends cs n).take i).foldl (cstep (posadj cs n) id) []
theorem Pt_is (cs : List Nat) (n i : Nat) : IsLots (posadj cs n) ((ends cs n).take i) (Pt cs n i) := comps_lots (posadj_comm cs n) (fun l => List.Perm.refl l) _
theorem ends_len (cs : List Nat) (n : Nat) : (ends cs n).length ≤ cs.length := by
  unfold ends
  have := List.length_filter_le (fun i => decide (cs.getD i 0 ≤ n) && metB cs (n - cs.getD i 0)) (List.range cs.length)
  rw [List.length_range] at this
  exact this
theorem ends_lt {cs : List Nat} {n i : Nat} (h : i ∈ ends cs n) : i < cs.length := List.mem_range.mp (List.mem_filter.mp h).1
theorem Pt_flat (cs : List Nat) (n i : Nat) : (Pt cs n i).flatten.length ≤ cs.length := by
  rw [(Pt_is cs n i).perm.length_eq, List.length_take]
  have := ends_len cs n
  omega
theorem Pt_len (cs : List Nat) (n i : Nat) : (Pt cs n i).length ≤ cs.length := Nat.le_trans (len_flat (Pt_is cs n i).ne) (Pt_flat cs n i)
theorem Pt_lt {cs : List Nat} {n i : Nat} {l : List Nat} (hl : l ∈ Pt cs n i) {j : Nat} (hj : j ∈ l) : j < cs.length := ends_lt (List.mem_of_mem_take ((Pt_is cs n i).mem hl hj))
theorem Pt_succ {cs : List Nat} {n i x : Nat} (h : (ends cs n)[i]? = some x) : Pt cs n (i + 1) = cstep (posadj cs n) id (Pt cs n i) x := by
  unfold Pt
  rw [List.take_add_one, h, List.foldl_append]
  rfl
theorem any_toD1 (L : List Way) (lot : Way) : ((L.map dD).any fun z => PyData.eqv z (dD lot)) = L.any fun z => decide (z = lot) := by
  rw [List.any_map]
  congr 1
  funext z
  exact eq_dD z lot
theorem not_near1 {L : List Way} (p : Way → Bool) : L.filter (fun lot => !(L.filter p).any fun z => decide (z = lot)) = L.filter fun lot => !p lot := by
  refine List.filter_congr fun lot hl => ?_
  congr 1
  rw [Bool.eq_iff_iff, List.any_eq_true]
  constructor
  · rintro ⟨z, hz, e⟩
    rw [← of_decide_eq_true e]
    exact (List.mem_filter.mp hz).2
  · intro h
    exact ⟨lot, List.mem_filter.mpr ⟨hl, h⟩, decide_eq_true rfl⟩
theorem posadj_int (cs : List Nat) (n i j : Nat) : (decide ((0 : Int) ≤ (n : Int) - ((cs.getD i 0 : Nat) : Int) - ((cs.getD j 0 : Nat) : Int)) && metB cs ((n : Int) - ((cs.getD i 0 : Nat) : Int) - ((cs.getD j 0 : Nat) : Int)).toNat) = posadj cs n i j := by
  unfold posadj
  congr 1
  · exact decide_eq_decide.mpr (by omega)
  · congr 1
    omega
def spManyLots : Sp := fun vs H Q _ => ∃ (a b : Addr) (cs : List Nat) (n m : Nat), vs = [.ref a, .ref b, iv n] ∧ H a = some (.lst (cs.map iv)) ∧ H b = some (.lst ((marksF cs m).map V.bl)) ∧ n ≤ m ∧ cs.length ≤ 100 ∧
  ∀ H', Same H H' → Q (iv (pieces cs n).length) H'
theorem ok_many_lots (D : Df K mg "many_lots" sManyLots) (T : Txt mg) : Cal P w K mg base 1 "many_lots" spManyLots := by
  refine cal_of D scManyLots (fun _ _ _ _ _ _ us hl => match us, hl with | [_, _, _], _ => rfl) (fun vs H Q E h => ?_) (fun f cdv A outer s H vs Q E hr h => ?_)
  · obtain ⟨a, b, cs, n, m, rfl, _⟩ := h; rfl
  obtain ⟨a, b, cs, n, m, rfl, ha, hb, hnm, hlc, q⟩ := h
  have mk : ∀ {H' : Hp} {j : Nat}, Same H H' → j ≤ m → SqL K H' b ((marksF cs m).map V.bl) ∧ ((marksF cs m).map V.bl)[j]? = some (.bl (metB cs j)) := fun s hj => ⟨SqL.of (s b _ hb), marks_get (by omega)⟩
  refine ⟨_, (pss_cons (ps_setLc (i := 3) (own := [(("at" : Str), 5), (("count" : Str), 9)]) rfl scManyLots.nd rfl rfl (sw_true rfl rfl rfl (by decide +kernel)) (pi_enumK (K := K) rfl (by rfl) T.enumerate_ (pa_cons (pv 0) pa_nil)) (blkOk_by (N := [("counts" : Str), ("marks" : Str), ("number" : Str), ("ends" : Str), ("pieces" : Str), ("at" : Str), ("near" : Str), ("piece" : Str), ("rests" : Str), ("count" : Str), ("to" : Str), ("rest" : Str)]) (sc := defScope sManyLots) (own := [(("at" : Str), 5), (("count" : Str), 9)]) (by decide +kernel)) (fun _ _ _ _ _ => (pg_tupK (K := K) (n := 2) rfl rfl (pgs_cons (pg_name (i := 5) scManyLots.nd rfl (Or.inl rfl)) (pgs_cons (pg_name (i := 9) scManyLots.nd rfl (Or.inl rfl)) pgs_nil)))) (fun _ _ _ _ _ => (pts_one (PW.pt (pw_and (pt_cmpR op_le (pv 9) (pv 2) (nomark _)) (pw_and1 (pt_val (pe_ix (ix_listK (K := K) rfl) (pv 1) (pe_op op_sub (pv 2) (pv 9)) (fun _ _ => rfl)))))))) (fun _ _ _ _ _ => (pv 5)))
    (pss_cons (ps_set (i := 4) scManyLots.nd rfl (by first | exact Or.inl rfl | exact Or.inr rfl) (pe_lst pa_nil))
    (pss_cons (ps_for PassesOwn.never rfl (pi_listK (K := K) rfl (pv 3)) (pg_name (i := 5) scManyLots.nd rfl (by first | exact Or.inl rfl | exact Or.inr rfl)) (pss_cons (ps_set (i := 6) scManyLots.nd rfl (by first | exact Or.inl rfl | exact Or.inr rfl) (pe_lst pa_nil))
    (pss_cons (ps_for PassesOwn.never rfl (pi_listK (K := K) rfl (pv 4)) (pg_name (i := 7) scManyLots.nd rfl (by first | exact Or.inl rfl | exact Or.inr rfl)) (pss_cons (ps_setLc (i := 8) (own := [(("to" : Str), 10)]) rfl scManyLots.nd rfl rfl (sw_true rfl rfl rfl (by decide +kernel)) (pi_listK (K := K) rfl (pv 7)) (blkOk_by (N := [("counts" : Str), ("marks" : Str), ("number" : Str), ("ends" : Str), ("pieces" : Str), ("at" : Str), ("near" : Str), ("piece" : Str), ("rests" : Str), ("count" : Str), ("to" : Str), ("rest" : Str)]) (sc := defScope sManyLots) (own := [(("to" : Str), 10)]) (by decide +kernel)) (fun _ _ _ _ _ => (pg_name (i := 10) scManyLots.nd rfl (Or.inl rfl))) (fun _ _ _ _ _ => pts_nil) (fun _ _ _ _ _ => (pe_op op_sub (pe_op op_sub (pv 2) (pe_ix (ix_listK (K := K) rfl) (pv 0) (pv 5) (fun _ _ => rfl))) (pe_ix (ix_listK (K := K) rfl) (pv 0) (pv 10) (fun _ _ => rfl)))))
    (pss_one (ps_if (pt_val (pe_callB (cr_anyK (K := K) rfl rfl) (by rfl) T.any_ (by decide +kernel) (pa_cons (pe_lc (own := [(("rest" : Str), 11)]) rfl scManyLots.nd (pi_listK (K := K) rfl (pv 8)) (blkOk_by (N := [("counts" : Str), ("marks" : Str), ("number" : Str), ("ends" : Str), ("pieces" : Str), ("at" : Str), ("near" : Str), ("piece" : Str), ("rests" : Str), ("count" : Str), ("to" : Str), ("rest" : Str)]) (sc := defScope sManyLots) (own := [(("rest" : Str), 11)]) (by decide +kernel)) (fun _ _ _ _ _ => (pg_name (i := 11) scManyLots.nd rfl (Or.inl rfl))) (fun _ _ _ _ _ => pts_nil) (fun _ _ _ _ _ => (pe_and (pe_cmpR op_ge (pv 11) pe_int (nomark _)) (pe_one (pe_ix (ix_listK (K := K) rfl) (pv 1) (pv 11) (fun _ _ => rfl)))))) pa_nil))) (pss_one (ps_expr (pe_bm PySem.F.plainAttrs_list PySem.F.slot_list_append PySem.F.type_list_append mt_append (pv 6) (pa_cons (pv 7) pa_nil)))) pss_nil))))
    (pss_one (ps_set (i := 4) scManyLots.nd rfl (by first | exact Or.inl rfl | exact Or.inr rfl) (pe_op op_cat (pe_lc (own := [(("piece" : Str), 7)]) rfl scManyLots.nd (pi_listK (K := K) rfl (pv 4)) (blkOk_by (N := [("counts" : Str), ("marks" : Str), ("number" : Str), ("ends" : Str), ("pieces" : Str), ("at" : Str), ("near" : Str), ("piece" : Str), ("rests" : Str), ("count" : Str), ("to" : Str), ("rest" : Str)]) (sc := defScope sManyLots) (own := [(("piece" : Str), 7)]) (by decide +kernel)) (fun _ _ _ _ _ => (pg_name (i := 7) scManyLots.nd rfl (Or.inl rfl))) (fun _ _ _ _ _ => (pts_one (pt_cmpR (op_notInDK (K := K) rfl (hu65_of hr)) (pv 7) (pv 6) (by rfl)))) (fun _ _ _ _ _ => (pv 7))) (pe_lst (pa_cons (pe_op op_cat (pe_lc2 (own := [(("piece" : Str), 7), (("to" : Str), 10)]) (vs1 := [10]) rfl scManyLots.nd (pi_listK (K := K) rfl (pv 6)) (blkOk_by (N := [("counts" : Str), ("marks" : Str), ("number" : Str), ("ends" : Str), ("pieces" : Str), ("at" : Str), ("near" : Str), ("piece" : Str), ("rests" : Str), ("count" : Str), ("to" : Str), ("rest" : Str)]) (sc := defScope sManyLots) (own := [(("piece" : Str), 7), (("to" : Str), 10)]) (by decide +kernel)) (by decide) (fun _ _ _ _ _ => (pg_name (i := 7) scManyLots.nd rfl (Or.inl rfl))) (fun _ _ _ _ _ => pts_nil) (fun _ _ _ _ _ => (pi_listK (K := K) rfl (pv 7))) (fun _ _ _ _ _ => (pg_name (i := 10) scManyLots.nd rfl (Or.inl rfl))) (fun _ _ _ _ _ => pts_nil) (fun _ _ _ _ _ => (pv 10))) (pe_lst (pa_cons (pv 5) pa_nil))) pa_nil))))))))
    (pss_one (ps_ret (pe_callB (call_lenK (K := K) rfl) (by rfl) T.len_ (by decide +kernel) (pa_cons (pv 4) pa_nil))))))), ?_⟩
  -- ends
  refine ⟨_, rfl, a, _, rfl, SqL.of ha, ?_⟩
  refine fun D1 d1 => lcW (walk_enum (K := K) (a := a) (xs := cs.map iv)) mRN (fun i => decide (cs.getD i 0 ≤ n) && metB cs (n - cs.getD i 0)) (fun i => i) d1 (Same.refl H) (by rw [List.length_map]; omega) (fun G' H' st => SqL.of (st.hh a _ ha)) ?_ ?_
  · rintro i G1 H1 x H2 hi st ⟨T', u, v, rfl, nT, rfl, e1, e2⟩ N0 N1 h0 h1
    replace e1 : some (V.int (i : Nat)) = some u := e1
    replace e2 : (cs.map iv)[i]? = some v := e2
    cases e1
    rw [List.length_map] at hi
    rw [get_of hi] at e2
    cases e2
    have st2 : Step G1 H1 G1 (upd H1 T' (.tup [.int (i : Nat), iv (cs.getD i 0)])) := .aside st.gh nT _
    have sH := st.hh.trans st2.hh
    refine ⟨T', _, rfl, .inl (.inl upd_same), rfl, .int (i : Nat), [iv (cs.getD i 0)], rfl, iv (cs.getD i 0), [], rfl, rfl, rfl, ?_⟩
    refine ⟨_, rfl, _, rfl, ((cs.getD i 0 : Nat) : Int), (n : Int), rfl, rfl, decide (cs.getD i 0 ≤ n), congrArg V.bl (decide_eq_decide.mpr (by omega)), ?_⟩
    refine ite2 (fun t => ?_) (fun t => ?_)
    · have t' : cs.getD i 0 ≤ n := of_decide_eq_true t
      refine ⟨_, rfl, _, rfl, _, rfl, (n : Int), ((cs.getD i 0 : Nat) : Int), rfl, rfl, b, _, _, _, rfl, rfl, (mk sH (j := n - cs.getD i 0) (by omega)).1, at_of (j := n - cs.getD i 0) (by omega) (mk sH (by omega)).2, _, rfl, ?_⟩
      refine ite2 (fun t2 => ?_) (fun t2 => ?_)
      · exact ⟨_, rfl, h1 (by rw [t, t2]; rfl) _ G1 _ st2 rfl⟩
      · exact h0 (by rw [Bool.eq_false_iff.mpr t2, Bool.and_false]) G1 _ st2
    · exact h0 (by rw [Bool.eq_false_iff.mpr t, Bool.false_and]) G1 _ st2
  intro G1 H1 st1 r1
  have e1 : ((List.range (cs.map iv).length).filter fun i => decide (cs.getD i 0 ≤ n) && metB cs (n - cs.getD i 0)).map (fun i => i) = ends cs n := by
    rw [List.map_id', List.length_map]
    rfl
  rw [e1] at r1
  obtain ⟨_, ee, ge⟩ := r1_at r1
  cases ee
  have sg1 : Same G1 H1 := st1.gh
  -- pieces = []
  refine ⟨by show 0 ≤ sizeLine; decide, fun p2 n2 => ?_⟩
  have st2 := st1.trans (Step.make sg1 n2 (.lst []))
  have ge2 := (Step.make sg1 n2 (.lst [])).gS sg1 D1 _ ge
  -- for at in ends
  refine ⟨_, rfl, D1, rfl, ⟨_, SqL.of (st2.gh D1 _ ge2)⟩, ?_⟩
  refine for_list (xs := (ends cs n).map iv) (fun i σ H' => ∃ (Gt : Hp) (pl : Addr) (vs : List V) (y5 y6 y7 y8 : Option V), σ = [some (.ref a), some (.ref b), some (iv n), some (.ref D1), some (.ref pl), y5, y6, y7, y8, none, none, none] ∧ Step H H Gt H' ∧ Gt D1 = some (.lst ((ends cs n).map iv)) ∧
      Gt pl = some (.lst vs) ∧ Paired (R1 Gt) vs (Pt cs n i)) ?_ ?_ ?_ ?_
  · exact ⟨_, p2, [], none, none, none, none, rfl, st2, ge2, upd_same, .nil⟩
  · rintro i σ H' _ ⟨Gt, pl, vs, y5, y6, y7, y8, _, st, gd, _⟩
    exact SqL.of (st.gh D1 _ gd)
  · rintro i x σ H2 hx ⟨Gt, pl, vs, y5, y6, y7, y8, rfl, st, gd, gpl, pv⟩
    rw [List.getElem?_map] at hx
    obtain ⟨at_, hat, rfl⟩ := Option.map_eq_some_iff.mp hx
    have hatl := ends_lt (List.mem_of_getElem? hat)
    have hPf := Pt_flat cs n i
    have hPl := Pt_len cs n i
    have lvs := paired_len pv
    -- near = []
    refine ⟨by show 0 ≤ sizeLine; decide, fun pn nn => ?_⟩
    have stn := Step.aside st.gh nn (.lst [])
    have nnH : H pn = none := st.hh.free nn
    -- for piece in pieces
    refine ⟨_, rfl, pl, rfl, ⟨_, SqL.of (stn.gh pl _ gpl)⟩, ?_⟩
    refine for_list (xs := vs) (fun t σ H' => ∃ (Gu : Hp) (ns : List V) (y7 y8 : Option V), σ = [some (.ref a), some (.ref b), some (iv n), some (.ref D1), some (.ref pl), some (iv at_), some (.ref pn), y7, y8, none, none, none] ∧ Step H H Gu H' ∧ Same Gt Gu ∧ Gu pn = none ∧ H' pn = some (.lst ns) ∧
      Paired (R1 Gu) ns (((Pt cs n i).take t).filter (hit (posadj cs n) at_))) ?_ ?_ ?_ ?_
    · exact ⟨Gt, [], y7, y8, rfl, st.trans stn, Same.refl _, st.gh.free nn, upd_same, .nil⟩
    · rintro t σ H' _ ⟨Gu, ns, y7, y8, _, su, sg, _⟩
      exact SqL.of (su.gh pl _ (sg pl _ gpl))
    · rintro t y σ H3 hy ⟨Gu, ns, y7, y8, rfl, su, sg, gn, hn, pn1⟩
      obtain ⟨lot, hlot, ey⟩ := paired_get pv hy
      have hlotm := List.mem_of_getElem? hlot
      have hll := mem_flat hlotm
      have ex := m1.up sg ey
      obtain ⟨bl, rfl, gl⟩ := r1_at ex
      -- rests
      refine ⟨_, rfl, bl, rfl, ⟨_, SqL.of (su.gh bl _ gl)⟩, ?_⟩
      refine fun D3 d3 => lcL (K := K) mRN mRI (fun _ => true) (fun to => (n : Int) - ((cs.getD at_ 0 : Nat) : Int) - ((cs.getD to 0 : Nat) : Int)) d3 su.gh gl (iv_paired lot Gu) (by omega) (fun _ => rfl) ?_ ?_
      · intro z to G4 H4 hz hto st4 ez N0 N1 _ k1
        rw [show z = iv to from ez]
        have htl := Pt_lt hlotm hto
        have hA := st4.hh a _ (su.hh a _ ha)
        refine tyes ⟨_, rfl, _, rfl, _, rfl, a, _, _, _, rfl, rfl, SqL.of hA, at_of (j := at_) rfl (get_of hatl), (n : Int), ((cs.getD at_ 0 : Nat) : Int), rfl, rfl, ?_⟩
        refine ⟨_, rfl, _, rfl, a, _, _, _, rfl, rfl, SqL.of hA, at_of (j := to) rfl (get_of htl), _, ((cs.getD to 0 : Nat) : Int), rfl, rfl, k1 rfl _ G4 H4 (.refl st4.gh) rfl⟩
      intro G4 H4 st4 r4
      rw [List.filter_eq_self.mpr (fun _ _ => rfl)] at r4
      obtain ⟨_, zs, e4, g4, pz⟩ := r4
      cases e4
      have su4 := su.trans st4
      -- if any([..])
      refine ⟨_, rfl, D3, rfl, ⟨_, SqL.of (st4.gh D3 _ g4)⟩, ?_⟩
      refine fun D5 d5 => lcL (K := K) mRI mRB (fun _ => true) (fun r => decide (0 ≤ r) && metB cs r.toNat) d5 st4.gh g4 pz (by rw [List.length_map]; omega) (fun _ => rfl) ?_ ?_
      · intro z r G5 H5 hz hr' st5 ez N0 N1 _ k1
        rw [show z = .int r from ez]
        have hrn : r ≤ n := by
          obtain ⟨to, _, e⟩ := List.mem_map.mp hr'
          rw [← e]
          omega
        refine tyes ⟨_, rfl, r, 0, rfl, rfl, decide (0 ≤ r), rfl, ?_⟩
        refine ite2 (fun t1 => ?_) (fun t1 => ?_)
        · have t1' : 0 ≤ r := of_decide_eq_true t1
          have sH := (su4.trans st5).hh
          refine ⟨_, rfl, _, rfl, b, _, _, _, rfl, rfl, (mk sH (j := r.toNat) (by omega)).1, at_of (j := r.toNat) (by omega) (mk sH (by omega)).2, ?_⟩
          exact k1 rfl _ G5 H5 (.refl st5.gh) (by show _ = _; rw [t1, Bool.true_and])
        · exact k1 rfl _ G5 H5 (.refl st5.gh) (by show _ = _; rw [Bool.eq_false_iff.mpr t1, Bool.false_and])
      intro G5 H5 st5 r5
      rw [List.filter_eq_self.mpr (fun _ _ => rfl), List.map_map] at r5
      obtain ⟨b5, e5, g5⟩ := rb_at r5
      refine ⟨b5, _, by rw [e5], SqL.of (st5.gh b5 _ g5), _, rfl, ?_⟩
      rw [any_map]
      have eh : lot.any ((fun r : Int => decide (0 ≤ r) && metB cs r.toNat) ∘ fun to => (n : Int) - ((cs.getD at_ 0 : Nat) : Int) - ((cs.getD to 0 : Nat) : Int)) = hit (posadj cs n) at_ lot := by
        unfold hit
        congr 1
        funext to
        exact posadj_int cs n at_ to
      rw [eh]
      have st45 := st4.trans st5
      have hn5 := st45.hh pn _ hn
      have gn5 := st45.out hn gn
      have s45 := st45.gS su.gh
      refine ite2 (fun tt => ?_) (fun tt => ?_)
      · refine ⟨.ref pn, rfl, .inl ⟨rfl, _, SqL.of hn5⟩, _, rfl, pn, ns, _, rfl, rfl, hn5, ?_, ?_⟩
        · rw [paired_len pn1]
          have := List.length_filter_le (hit (posadj cs n) at_) ((Pt cs n i).take t)
          rw [List.length_take] at this
          exact szl (by omega)
        refine ⟨G5, ns ++ [.ref bl], _, _, rfl, (su.trans st45).set nnH gn5 _, sg.trans s45, gn5, upd_same, ?_⟩
        rw [take_filter _ hlot, if_pos tt]
        exact paired_append (Paired.imp' pn1 fun _ _ h => m1.up s45 h) (paired_one (m1.up s45 ex))
      · refine ⟨G5, ns, _, _, rfl, su.trans st45, sg.trans s45, gn5, hn5, ?_⟩
        rw [take_filter _ hlot, if_neg tt, List.append_nil]
        exact Paired.imp' pn1 fun _ _ h => m1.up s45 h
    · rintro σ H3 ⟨Gu, ns, y7, y8, rfl, su, sg, gn, hn, pn1⟩
      rw [List.take_of_length_le (by omega)] at pn1
      have su' := su.seal nnH gn hn
      have sgn := same_new gn (.lst ns)
      have gnn : (upd Gu pn (.lst ns)) pn = some (.lst ns) := upd_same
      have pn2 : Paired (R1 (upd Gu pn (.lst ns))) ns ((Pt cs n i).filter (hit (posadj cs n) at_)) := Paired.imp' pn1 fun _ _ h => m1.up sgn h
      have sgu : Same Gt (upd Gu pn (.lst ns)) := sg.trans sgn
      -- [piece for piece in pieces if piece not in near]
      refine ⟨_, rfl, pl, rfl, ⟨_, SqL.of (su'.gh pl _ (sgu pl _ gpl))⟩, ?_⟩
      refine fun D5 d5 => lcL (K := K) m1 m1 (fun lot => !((Pt cs n i).filter (hit (posadj cs n) at_)).any fun z => decide (z = lot)) (fun lot => lot) d5 su'.gh (sgu pl _ gpl) (Paired.imp' pv fun _ _ h => m1.up sgu h) (by omega) (fun _ => rfl) ?_ ?_
      · intro y lot G5 H5 hy hlot st5 ex N0 N1 h0 h1
        have rn5 : R2' H5 (.ref pn) ((Pt cs n i).filter (hit (posadj cs n) at_)) := m2.up st5.gh (m2.up (st5.gS su'.gh) ⟨pn, ns, rfl, gnn, pn2⟩)
        refine ⟨_, rfl, _, rfl, dD lot, ((Pt cs n i).filter (hit (posadj cs n) at_)).map dD, dp1.dp (m1.up st5.gh ex), dp2.dp rn5, sh1 lot, sh2 _, _, rfl, ?_⟩
        rw [any_toD1]
        refine ite2 (fun t => ⟨_, rfl, h1 t _ G5 H5 (.refl st5.gh) ex⟩) (fun t => h0 (Bool.eq_false_iff.mpr t) G5 H5 (.refl st5.gh))
      intro G5 H5 st5 r5
      rw [List.map_id', not_near1] at r5
      obtain ⟨_, fs, ef, gf, pf⟩ := id r5
      cases ef
      have hff := filt_flat (hit (posadj cs n) at_) (Pt cs n i)
      -- [[to for piece in near for to in piece] + [at]]
      refine ⟨_, rfl, pn, rfl, ⟨_, SqL.of (st5.gh pn _ (st5.gS su'.gh pn _ gnn))⟩, ?_⟩
      refine fun D6 d6 => lc2 (K := K) mRN d6 st5.gh (st5.gS su'.gh pn _ gnn) (Paired.imp' pn2 fun _ _ h => m1.up (st5.gS su'.gh) h) (by omega) (fun _ => rfl) (fun _ => rfl) (fun _ _ => rfl) (fun _ _ => rfl) ?_
      intro G6 H6 st6 r6
      obtain ⟨_, ez, gz⟩ := r1_at r6
      cases ez
      refine ⟨_, rfl, by show 1 ≤ sizeLine; decide, fun p7 n7 => ?_⟩
      have st7 := Step.aside st6.gh n7 (.lst [iv at_])
      refine ⟨D6, p7, _, [iv at_], rfl, rfl, st7.gh D6 _ gz, upd_same, ?_, fun p8 n8 => ?_⟩
      · rw [List.length_map]
        exact sz (by show _ + 1 ≤ 100000; omega)
      have st8 := Step.make st7.gh n8 (.lst (((Pt cs n i).filter (hit (posadj cs n) at_)).flatten.map iv ++ [iv at_]))
      refine ⟨by show 1 ≤ sizeLine; decide, fun p10 n10 => ?_⟩
      have st10 := Step.aside st8.gh n10 (.lst [.ref p8])
      have st610 := st7.trans (st8.trans st10)
      refine ⟨D5, p10, fs, [.ref p8], rfl, rfl, st10.gh D5 _ (st610.gS st6.gh D5 _ (st6.gS st5.gh D5 _ gf)), upd_same, ?_, fun p11 n11 => ?_⟩
      · rw [paired_len pf]
        exact sz (Nat.le_trans (Nat.add_le_add_right (List.length_filter_le _ (Pt cs n i)) 1) (by omega))
      have st11 := Step.make st10.gh n11 (.lst (fs ++ [.ref p8]))
      have sall := ((st6.gS st5.gh).trans (st610.gS st6.gh)).trans (st11.gS st10.gh)
      refine ⟨_, p11, fs ++ [.ref p8], _, _, _, _, rfl, su'.trans (st5.trans (st6.trans (st610.trans st11))), ?_, upd_same, ?_⟩
      · exact sall D1 _ (st5.gS su'.gh D1 _ (sgu D1 _ gd))
      · rw [Pt_succ hat]
        refine paired_append (Paired.imp' pf fun _ _ h => m1.up sall h) (paired_one ?_)
        refine m1.up (st11.gS st10.gh) (r1_of ?_)
        rw [upd_same]
        show _ = some (HO.lst (List.map iv (((Pt cs n i).filter (hit (posadj cs n) at_)).flatten ++ [at_])))
        rw [List.map_append]
        rfl
  · rintro σ H2 ⟨Gt, pl, vs, y5, y6, y7, y8, rfl, st, gd, gpl, pv⟩
    refine ⟨_, rfl, pl, vs, rfl, .inl (SqL.of (st.gh pl _ gpl)), ?_⟩
    have e : Pt cs n ((ends cs n).map iv).length = pieces cs n := by
      unfold Pt pieces comps
      rw [List.take_of_length_le (by rw [List.length_map]; exact Nat.le_refl _)]
    rw [e] at pv
    rw [paired_len pv]
    exact q H2 st.hh
end
end K25
namespace K25
open PySem PySem.Spec PyProof.Rows L2
section
variable {P : Program} {w : World} {K : PySem.W.Frag} {mg : Str → Option Value} {base : Heap}
/-! ### turning counts -/
theorem cutm2 {xs : List V} (h : 2 ≤ xs.length) : cutV xs (some (-2)) none = xs.drop (xs.length - 2) := by
  unfold cutV
  have e : HT.sIx xs.length 0 (some (-2)) = xs.length - 2 := by
    show (if (-2 : Int) < 0 then ((-2 : Int) + (xs.length : Int)).toNat else min (-2 : Int).toNat xs.length) = _
    rw [if_pos (by omega)]
    omega
  rw [e, HT.sIx_none]
  exact List.take_of_length_le (by rw [List.length_drop]; exact Nat.le_refl _)
def spTurning : Sp := fun vs H Q _ => ∃ (a : Addr) (cs : List Nat), vs = [.ref a] ∧ H a = some (.lst (cs.map iv)) ∧ cs ≠ [] ∧ Posi cs ∧ (∀ c ∈ cs, c ≤ 9) ∧ cs.length ≤ 4 ∧
  ∀ (p : Addr) (H' : Hp) (T : List Nat), H p = none → Same H H' → H' p = some (.lst (T.map iv)) → (∀ n, n ∈ T ↔ 1 < (lotsF cs n).length) → Q (.ref p) H'
theorem two_lots_met {cs : List Nat} {n : Nat} (h : 1 < (lotsF cs n).length) : metB cs n = true := by
  unfold metB
  cases e : waysF cs n with
  | nil =>
    have := one_of_small (cs := cs) (n := n) (by rw [e]; simp)
    omega
  | cons w l => rfl
def turnF (cs : List Nat) (mo : Nat) : List Nat := ((List.range mo).filter fun i => metB cs (i + 1) && decide (1 < (pieces cs (i + 1)).length)).map (· + 1)
theorem turnF_iff {cs : List Nat} (hp : Posi cs) {mo : Nat} (far : ∀ n, mo < n → (lotsF cs n).length ≤ 1) (n : Nat) : n ∈ turnF cs mo ↔ 1 < (lotsF cs n).length := by
  unfold turnF
  rw [List.mem_map]
  constructor
  · rintro ⟨i, hi, rfl⟩
    obtain ⟨_, h⟩ := List.mem_filter.mp hi
    rw [Bool.and_eq_true, decide_eq_true_eq] at h
    have := lots_pieces hp (n := i + 1) (Nat.succ_pos i)
    refine Classical.byContradiction fun z => ?_
    have := this.mp (by omega)
    omega
  · intro h
    have hn0 : n ≠ 0 := by
      intro e
      rw [e, lotsF_zero] at h
      simp at h
    have hnm : n ≤ mo := by
      refine Classical.byContradiction fun z => ?_
      have := far n (by omega)
      omega
    refine ⟨n - 1, List.mem_filter.mpr ⟨List.mem_range.mpr (by omega), ?_⟩, by omega⟩
    have e : n - 1 + 1 = n := by omega
    rw [e, two_lots_met h, Bool.true_and, decide_eq_true_eq]
    refine Classical.byContradiction fun z => ?_
    have := (lots_pieces hp (by omega : 0 < n)).mpr (by omega)
    omega
theorem ok_turning_of (D : Df K mg "turning_of" sTurningOf) (T : Txt mg) (c_gaps_of : Cal P w K mg base 2 "gaps_of" spGaps) (c_common_of : Cal P w K mg base 1 "common_of" spCommon) (c_met_marks : Cal P w K mg base 1 "met_marks" spMarks) (c_many_lots : Cal P w K mg base 1 "many_lots" spManyLots) :
    Cal P w K mg base 3 "turning_of" spTurning := by
  refine cal_of D scTurningOf (fun _ _ _ _ _ _ us hl => match us, hl with | [_], _ => rfl) (fun vs H Q E h => ?_) (fun f cdv A outer s H vs Q E hr h => ?_)
  · obtain ⟨a, cs, rfl, _⟩ := h; rfl
  obtain ⟨a, cs, rfl, ha, hne, hp, h9, hl4, q⟩ := h
  have hl1 : 1 ≤ cs.length := List.length_pos_iff.mpr hne
  refine ⟨_, (pss_cons (ps_if (pt_cmpR op_eq (pe_callB (call_lenK (K := K) rfl) (by rfl) T.len_ (by decide +kernel) (pa_cons (pv 0) pa_nil)) pe_int (nomark _)) (pss_one (ps_ret (pe_lst pa_nil))) pss_nil)
    (pss_cons (ps_set (i := 1) scTurningOf.nd rfl (by first | exact Or.inl rfl | exact Or.inr rfl) (pe_c c_gaps_of hr (by decide) (by rfl) (pa_cons (pv 0) pa_nil)))
    (pss_cons (ps_set (i := 2) scTurningOf.nd rfl (by first | exact Or.inl rfl | exact Or.inr rfl) (pe_op op_add (pe_callB (cr_sumK (K := K) rfl rfl) (by rfl) T.sum_ (by decide +kernel) (pa_cons (pe_slice (sl_listK (K := K) rfl) (pe_callB (cr_sortedK (K := K) rfl) (by rfl) T.sorted_ (by decide +kernel) (pa_cons (pv 0) pa_nil)) (po_some (pe_un un_neg pe_int)) po_none) pa_nil)) (pe_ifExp (pt_cmpR (op_neDK (K := K) rfl hr.units) (pv 1) (pe_lst pa_nil) (nomark _)) (pe_ix (ix_listK (K := K) rfl) (pv 1) (pe_un un_neg pe_int) (fun _ _ => rfl)) (pe_op op_sub pe_int (pe_c c_common_of hr (by decide) (by rfl) (pa_cons (pv 0) pa_nil))))))
    (pss_cons (ps_set (i := 3) scTurningOf.nd rfl (by first | exact Or.inl rfl | exact Or.inr rfl) (pe_c c_met_marks hr (by decide) (by rfl) (pa_cons (pv 0) (pa_cons (pv 2) pa_nil))))
    (pss_one (ps_ret (pe_lc (own := [(("number" : Str), 4)]) rfl scTurningOf.nd (pi_range2 (by rfl) T.range_ (pa_cons pe_int (pa_cons (pe_op op_add (pv 2) pe_int) pa_nil))) (blkOk_by (N := [("counts" : Str), ("unmet" : Str), ("most" : Str), ("marks" : Str), ("number" : Str)]) (sc := defScope sTurningOf) (own := [(("number" : Str), 4)]) (by decide +kernel)) (fun _ _ _ _ _ => (pg_name (i := 4) scTurningOf.nd rfl (Or.inl rfl))) (fun _ _ _ _ _ => (pts_one (PW.pt (pw_and (pt_val (pe_ix (ix_listK (K := K) rfl) (pv 3) (pv 4) (fun _ _ => rfl))) (pw_and1 (pt_cmpR op_gt (pe_c c_many_lots hr (by decide) (by rfl) (pa_cons (pv 0) (pa_cons (pv 3) (pa_cons (pv 4) pa_nil)))) pe_int (nomark _))))))) (fun _ _ _ _ _ => (pv 4))))))))), ?_⟩
  refine ⟨_, rfl, a, _, rfl, .inl (SqL.of ha), rfl, _, rfl, ite2 (fun t => ?_) (fun t => ?_)⟩
  · have e : cs.length = 1 := by
      have e : ((cs.map iv).length : Int) = 1 := V.int.inj (of_decide_eq_true t)
      rw [List.length_map] at e
      omega
    obtain ⟨c, rfl⟩ : ∃ c, cs = [c] := by
      match cs, e with
      | [c], _ => exact ⟨c, rfl⟩
    refine ⟨by show 0 ≤ sizeLine; decide, fun p1 n1 => q p1 _ [] n1 (same_new n1 _) upd_same fun n => ?_⟩
    have := one_count (c := c) (n := n) (hp c List.mem_cons_self)
    constructor
    · intro z; simp at z
    · intro z; omega
  · have hl2 : 2 ≤ cs.length := by
      refine Classical.byContradiction fun z => t (decide_eq_true (congrArg V.int ?_))
      rw [List.length_map]
      omega
    have hg0 := gcdL_pos hp hne
    -- unmet
    refine ⟨_, rfl, a, cs, rfl, ha, hne, hp, h9, hl4, fun p1 H1 L n1 s1 e1 gok hL => ?_⟩
    have ha1 := s1 a _ ha
    -- sum(sorted(counts)[-2:])
    refine ⟨_, rfl, a, cs.map fun (n : Nat) => (n : Int), rfl, SqL.of (by rw [ha1, map_iv]), by rw [List.length_map]; omega, fun l p2 pm up n2 => ?_⟩
    obtain ⟨x, y, edrop, hx, hy, htop⟩ := topTwo pm up hl2
    have s2 := same_new n2 (.lst (l.map V.int))
    have ll : (l.map V.int).length = l.length := List.length_map _
    have hll : l.length = cs.length := by rw [pm.length_eq, List.length_map]
    obtain ⟨cx, hcx, rfl⟩ := List.mem_map.mp (pm.mem_iff.mp hx)
    obtain ⟨cy, hcy, rfl⟩ := List.mem_map.mp (pm.mem_iff.mp hy)
    have hcx9 := h9 cx hcx
    have hcy9 := h9 cy hcy
    have hcxg : gcdL cs ≤ cx := Nat.le_of_dvd (hp cx hcx) (gcdL_dvd cs cx hcx)
    refine ⟨2, rfl, _, rfl, p2, _, rfl, SqL.of upd_same, fun p3 n3 => ?_⟩
    have s3 := same_new n3 (.lst (cutV (l.map V.int) (some (-2)) none))
    refine ⟨p3, [(cx : Int), (cy : Int)], rfl, SqL.of ?_, ?_⟩
    · rw [upd_same]
      have : cutV (l.map V.int) (some (-2)) none = ([(cx : Int), (cy : Int)] : List Int).map V.int := by
        rw [cutm2 (by rw [ll]; omega), ll, ← List.map_drop, edrop]
      exact congrArg (fun z => some (HO.lst z)) this
    have sH3 : Same H1 _ := s2.trans s3
    have hsum : ([(cx : Int), (cy : Int)] : List Int).sum = ((cx + cy : Nat) : Int) := by simp
    have TT : TopTwo cs (cx + cy) := fun i j hij hi hj => by have := htop i j hij hi hj; omega
    -- if unmet != []
    refine ⟨_, rfl, by show 0 ≤ sizeLine; decide, fun p4 n4 => ?_⟩
    have s4 := same_new n4 (.lst [])
    have sH4 := sH3.trans s4
    refine ⟨dD L, dD ([] : Way), dp1.dp (r1_of (sH4 p1 _ e1)), dp1.dp (r1_of upd_same), sh1 _, sh1 _, _, rfl, ?_⟩
    rw [eq_dD]
    refine ite2 (fun tn => ?_) (fun tn => ?_)
    · -- there are gaps
      have hLne : L ≠ [] := by
        intro z
        rw [z] at tn
        simp at tn
      obtain ⟨last, hlast⟩ : ∃ last, L.getLast? = some last := ⟨_, List.getLast?_eq_some_getLast hLne⟩
      have eL : L = L.dropLast ++ [last] := by
        rw [List.getLast?_eq_some_getLast hLne] at hlast
        rw [← Option.some.inj hlast, List.dropLast_concat_getLast]
      have hlast5 := hL last (by rw [eL]; simp)
      refine ⟨_, rfl, 1, rfl, p1, _, _, _, rfl, rfl, SqL.of (sH4 p1 _ e1), (?_ : atI (L.map iv) (-1) = some (iv last)), ([(cx : Int), (cy : Int)] : List Int).sum, (last : Int), rfl, rfl, ?_⟩
      · rw [eL, List.map_append]
        exact atI_last _ _
      -- marks
      have emo : ([(cx : Int), (cy : Int)] : List Int).sum + (last : Int) = ((cx + cy + last : Nat) : Int) := by rw [hsum]; omega
      generalize hmo : cx + cy + last = mo at emo
      have far : ∀ n, mo < n → (lotsF cs n).length ≤ 1 := fun n hn => far_one hp (gcdL_dvd cs) gok TT (by rw [hlast]; simp only; omega) (by omega)
      refine ⟨_, rfl, _, rfl, a, cs, mo, congrArg (fun z => [V.ref a, V.int z]) emo, sH4 a _ ha1, hp, by omega, by omega, fun p5 H5 n5 s5 e5 => ?_⟩
      have sH5 := sH4.trans s5
      have ha5 := sH5 a _ ha1
      refine ⟨_, rfl, (mo : Int), 1, congrArg V.int emo, rfl, 1, (mo : Int) + 1, rfl, ⟨by omega, by omega, by omega, by omega⟩, ?_⟩
      have en : ((mo : Int) + 1 - 1).toNat = mo := by omega
      rw [en]
      refine fun D6 d6 => lcR mRN (fun i => metB cs (i + 1) && decide (1 < (pieces cs (i + 1)).length)) (fun i => i + 1) d6 (Same.refl H5) (by omega) (fun _ => rfl) ?_ ?_
      · intro i G6 H6 hi st6 N0 N1 h0 h1
        have ei : (1 : Int) + (i : Int) = ((i + 1 : Nat) : Int) := by omega
        rw [ei]
        refine ⟨_, rfl, _, rfl, p5, _, _, _, rfl, rfl, SqL.of (st6.hh p5 _ e5), at_of (j := i + 1) rfl (marks_get (by omega)), _, rfl, ?_⟩
        refine ite2 (fun t1 => ?_) (fun t1 => ?_)
        · refine ⟨_, rfl, _, rfl, _, rfl, a, p5, cs, i + 1, mo, rfl, st6.hh a _ ha5, st6.hh p5 _ e5, by omega, by omega, fun H7 s7 => ?_⟩
          have st7 := Step.of_same st6.gh s7
          refine ⟨_, 1, rfl, rfl, decide (1 < (pieces cs (i + 1)).length), congrArg V.bl (decide_eq_decide.mpr (by omega)), ?_⟩
          refine ite2 (fun t2 => ⟨_, rfl, h1 (by rw [t1, t2]; rfl) _ G6 H7 st7 rfl⟩) (fun t2 => h0 (by rw [Bool.eq_false_iff.mpr t2, Bool.and_false]) G6 H7 st7)
        · exact h0 (by rw [Bool.eq_false_iff.mpr t1, Bool.false_and]) G6 H6 (.refl st6.gh)
      · intro G6 H6 st6 r6
        obtain ⟨_, e6, g6⟩ := r1_at r6
        cases e6
        have sH := s1.trans (sH5.trans st6.hh)
        exact q D6 H6 (turnF cs mo) ((s1.trans sH5).free d6) sH (st6.gh D6 _ g6) (turnF_iff hp far)
    · -- there are none
      have hLe : L = [] := by
        cases L with
        | nil => rfl
        | cons x L => exact absurd (by simp) tn
      refine ⟨_, rfl, a, cs, rfl, sH4 a _ ha1, ?_⟩
      refine ⟨0, ((gcdL cs : Nat) : Int), rfl, rfl, ([(cx : Int), (cy : Int)] : List Int).sum, 0 - ((gcdL cs : Nat) : Int), rfl, rfl, ?_⟩
      have emo : ([(cx : Int), (cy : Int)] : List Int).sum + (0 - ((gcdL cs : Nat) : Int)) = ((cx + cy - gcdL cs : Nat) : Int) := by rw [hsum]; omega
      generalize hmo : cx + cy - gcdL cs = mo at emo
      have far : ∀ n, mo < n → (lotsF cs n).length ≤ 1 := fun n hn => far_one hp (gcdL_dvd cs) gok TT (by rw [hLe]; simp only [List.getLast?_nil]; omega) (by omega)
      refine ⟨_, rfl, _, rfl, a, cs, mo, congrArg (fun z => [V.ref a, V.int z]) emo, sH4 a _ ha1, hp, by omega, by omega, fun p5 H5 n5 s5 e5 => ?_⟩
      have sH5 := sH4.trans s5
      have ha5 := sH5 a _ ha1
      refine ⟨_, rfl, (mo : Int), 1, congrArg V.int emo, rfl, 1, (mo : Int) + 1, rfl, ⟨by omega, by omega, by omega, by omega⟩, ?_⟩
      have en : ((mo : Int) + 1 - 1).toNat = mo := by omega
      rw [en]
      refine fun D6 d6 => lcR mRN (fun i => metB cs (i + 1) && decide (1 < (pieces cs (i + 1)).length)) (fun i => i + 1) d6 (Same.refl H5) (by omega) (fun _ => rfl) ?_ ?_
      · intro i G6 H6 hi st6 N0 N1 h0 h1
        have ei : (1 : Int) + (i : Int) = ((i + 1 : Nat) : Int) := by omega
        rw [ei]
        refine ⟨_, rfl, _, rfl, p5, _, _, _, rfl, rfl, SqL.of (st6.hh p5 _ e5), at_of (j := i + 1) rfl (marks_get (by omega)), _, rfl, ?_⟩
        refine ite2 (fun t1 => ?_) (fun t1 => ?_)
        · refine ⟨_, rfl, _, rfl, _, rfl, a, p5, cs, i + 1, mo, rfl, st6.hh a _ ha5, st6.hh p5 _ e5, by omega, by omega, fun H7 s7 => ?_⟩
          have st7 := Step.of_same st6.gh s7
          refine ⟨_, 1, rfl, rfl, decide (1 < (pieces cs (i + 1)).length), congrArg V.bl (decide_eq_decide.mpr (by omega)), ?_⟩
          refine ite2 (fun t2 => ⟨_, rfl, h1 (by rw [t1, t2]; rfl) _ G6 H7 st7 rfl⟩) (fun t2 => h0 (by rw [Bool.eq_false_iff.mpr t2, Bool.and_false]) G6 H7 st7)
        · exact h0 (by rw [Bool.eq_false_iff.mpr t1, Bool.false_and]) G6 H6 (.refl st6.gh)
      · intro G6 H6 st6 r6
        obtain ⟨_, e6, g6⟩ := r1_at r6
        cases e6
        have sH := s1.trans (sH5.trans st6.hh)
        exact q D6 H6 (turnF cs mo) ((s1.trans sH5).free d6) sH (st6.gh D6 _ g6) (turnF_iff hp far)
end
end K25
namespace K25
open PySem PySem.Spec PyProof.Rows L2
/-! ### a call by the keywords many, counts -/
def swapK {α : Type} : List α → List α → List α
  | [], [x, y] => [y, x]
  | _, _ => []
structure CalK (P : Program) (w : World) (K : PySem.W.Frag) (mg : Str → Option Value) (base : Heap) (k : Nat) (x : Str) (sp : Sp) : Prop where
  ex : ∃ (f : Addr) (fd : FuncData), FnOk P w K mg base CX0 k f fd ["counts", "many"] sp ∧ mg x = some (.ref f) ∧ PySem.W.keepIn K (.ref f) = true ∧ KBinds K fd ["counts", "many"] ["many", "counts"] swapK swapK
section
variable {X : Cx} {j k : Nat} {sp : Sp} {x : Str} {p pos : PySem.Pos} {kws : List Keyword} {tk : TA}
theorem pe_ck (c : CalK X.prog X.w X.K X.mg X.base k x sp) (hr : Room j X.A) (hk : k ≤ j) (hg : Gl X x) (hkw : PK X kws tk)
    (hall : (backToKw pos (keywordEach kws X.env)).all (·.1.isSome) = true := by rfl) (hks : (backToKw pos (keywordEach kws X.env)).filterMap (·.1) = (["many", "counts"] : List Str) := by rfl)
    (hdb : (x == ("__debug__" : Str)) = false := by decide)
    (hpl : ((backTo pos (starEach [] X.env)).any (·.1) || (backToKw pos (keywordEach kws X.env)).any (·.1.isNone)) = false := by rfl) :
    PE X (.Call (.Name x p) [] kws pos) (tCallK sp swapK E0 tNil tk) := by
  obtain ⟨f, fd, F, hm, kp, b⟩ := c.ex
  exact pe_callK0 F (hr.mono hk) hg hm kp b pass0 hkw hall hks hdb hpl
end
section
variable {P : Program} {w : World} {K : PySem.W.Frag} {mg : Str → Option Value} {base : Heap}
theorem calk_of {x : Str} {st : Stmt} {N : List Str} {k : Nat} {sp : Sp} (D : Df K mg x st) (S : FnScope N ["counts", "many"] (defScope st))
    (hb : ∀ (kV doc pm : Value) (an : Option Addr) (cdv ct : Value) (us : List Value), us.length = 2 → bindArgs (PySem.W.fnOf x x (defArgs st) (defBody st) (defScope st) .none kV doc pm an cdv ct) ⟨us, []⟩ = pure ((["counts", "many"] : List Str).zip us))
    (hk : ∀ (kV doc pm : Value) (an : Option Addr) (cdv ct : Value) (u v : Value), bindArgs (PySem.W.fnOf x x (defArgs st) (defBody st) (defScope st) .none kV doc pm an cdv ct) ⟨[], [(("many" : Str), u), (("counts" : Str), v)]⟩ = pure [(("counts" : Str), v), (("many" : Str), u)])
    (len : ∀ vs H Q E, sp vs H Q E → vs.length = 2)
    (hbody : ∀ (f : Addr) (cdv : Value) (A : Around) (outer : List Env) (s : Shared) (H : Hp) (vs : List V) (Q : VK) (E : XK), Room k (A.deeper (envOfC x (defScope st) s.heap.objs.size f cdv)) → sp vs H Q E →
      ∃ t, PSs (cxOf CX0 P w K mg base N x (defScope st) f cdv A outer s H E).nox (defBody st) t ∧ t { nx := fun _ H' => Q .non H', rt := Q } (start N vs) H) : Cal P w K mg base (k + 1) x sp ∧ CalK P w K mg base (k + 1) x sp := by
  obtain ⟨f, fd, F, m⟩ := D.ex
  have FO := F.ok (P := P) (w := w) (mg := mg) (base := base) S len (hbody f)
  refine ⟨⟨f, fd, _, FO, m, F.kp, F.binds hb⟩, f, fd, FO, m, F.kp, ?_, ?_⟩
  · intro s us ws _ hl
    obtain ⟨oc, od, kV, doc, pm, an, cdv, ct, osl, rfl, lk, hcd⟩ := F.ex
    match us, ws, hl with
    | [], [u, v], _ => exact .of_eq (hk kV doc pm an cdv ct u v)
    | [], [], hl => exact absurd hl (by simp [swapK])
    | [], [_], hl => exact absurd hl (by simp [swapK])
    | [], _ :: _ :: _ :: _, hl => exact absurd hl (by simp [swapK])
    | _ :: _, _, hl => exact absurd hl (by simp [swapK])
  · intro vs us zs ws r1 r2
    cases r1 with
    | cons _ _ => exact .nil
    | nil =>
      cases r2 with
      | nil => exact .nil
      | cons a r =>
        cases r with
        | nil => exact .nil
        | cons b r =>
          cases r with
          | nil => exact .cons b (.cons a .nil)
          | cons _ _ => exact .nil

/-! ### from outside -/
structure Pre (G H : Hp) (a : Addr) (cs : List Nat) (n : Nat) : Prop where
  gs : Same G H
  at_ : H a = some (.lst (cs.map iv)) ∨ H a = some (.tup (cs.map iv))
  one : 1 ≤ cs.length
  four : cs.length ≤ 4
  nine : ∀ c ∈ cs, 1 ≤ c ∧ c ≤ 9
  few : ∃ l, 0 < l ∧ (∀ c ∈ cs, l ≤ c) ∧ n / l ≤ 5
  le : n ≤ 100
theorem Pre.ways_len {G H : Hp} {a : Addr} {cs : List Nat} {n : Nat} (p : Pre G H a cs n) : (waysF cs n).length ≤ 126 := by
  obtain ⟨l, hl, hc, hq⟩ := p.few
  have h1 := ways_bnd hl hc n
  have h2 := bnd_ks (j := cs.length) (k := 4) (q := n / l) p.four
  have h3 := bnd_qs (k := 4) hq
  rw [bnd_45] at h3
  omega
def spTold : Sp := fun vs H Q _ => ∃ (G : Hp) (a : Addr) (cs : List Nat) (n : Nat), vs = [.ref a, iv n] ∧ Pre G H a cs n ∧ ∀ v G' H', Step G H G' H' → R2' G' v (waysF cs n) → Q v H'
theorem ok_told_ways (D : Df K mg "told_ways" sToldWays) (T : Txt mg) (c_want_counts : Cal P w K mg base 3 "want_counts" spWantCounts) (c_want_many : Cal P w K mg base 3 "want_many" spWantMany)
    (c_want_at_most : Cal P w K mg base 1 "want_at_most" spAtMost) (c_many_ways : Cal P w K mg base 1 "many_ways" spManyWays) (c_ways_of : Cal P w K mg base 6 "ways_of" spWaysOf) : Cal P w K mg base 7 "told_ways" spTold := by
  refine cal_of D scToldWays (fun _ _ _ _ _ _ us hl => match us, hl with | [_, _], _ => rfl) (fun vs H Q E h => ?_) (fun f cdv A outer s H vs Q E hr h => ?_)
  · obtain ⟨G, a, cs, n, rfl, _⟩ := h; rfl
  obtain ⟨G, a, cs, n, rfl, pre, q⟩ := h
  have hwl := pre.ways_len
  obtain ⟨gs, hat, h1, h4, h9, ⟨l, hl, hc, hq⟩, hn⟩ := pre
  refine ⟨_, (pss_cons (ps_set (i := 2) scToldWays.nd rfl (by first | exact Or.inl rfl | exact Or.inr rfl) (pe_c c_want_counts hr (by decide) (by rfl) (pa_cons (pv 0) pa_nil)))
    (pss_cons (ps_expr (pe_c c_want_many hr (by decide) (by rfl) (pa_cons (pv 1) (pa_cons (pe_gc (by rfl) T.MOST_MANY) pa_nil))))
    (pss_cons (ps_expr (pe_c c_want_at_most hr (by decide) (by rfl) (pa_cons pe_str (pa_cons (pe_gc (by rfl) T.MOST_WAYS) (pa_cons (pe_c c_many_ways hr (by decide) (by rfl) (pa_cons (pv 2) (pa_cons (pv 1) pa_nil))) pa_nil)))))
    (pss_one (ps_ret (pe_c c_ways_of hr (by decide) (by rfl) (pa_cons (pv 2) (pa_cons (pv 1) pa_nil)))))))), ?_⟩
  refine ⟨_, rfl, a, cs, rfl, hat, h1, by omega, fun c hc => by have := h9 c hc; omega, fun p1 H1 n1 s1 e1 => ?_⟩
  have st1 := (Step.of_same gs s1).seal n1 (gs.free n1) e1
  refine ⟨_, rfl, (n : Int), 200, rfl, by omega, by omega, ?_⟩
  refine ⟨_, rfl, _, rfl, p1, cs, n, l, rfl, e1, hl, hc, hq, by omega, h4, fun c hc => by have := h9 c hc; omega, fun r H2 hr2 s2 => ?_⟩
  refine ⟨_, 400, (r : Int), rfl, by omega, ?_⟩
  have st2 := st1.trans (Step.of_same st1.gh s2)
  refine ⟨_, rfl, _, rfl, upd G p1 (.lst (cs.map iv)), p1, cs, n, rfl, st2.gh, upd_same, by omega, h1, h4, fun c hc => (h9 c hc).1, fun c hc => by have := h9 c hc; omega, by omega, fun v G3 H3 st3 r3 => ?_⟩
  exact q v G3 H3 (st2.trans st3) r3
theorem ok_ways (D : Df K mg "ways" sWays) (c_told_ways : Cal P w K mg base 7 "told_ways" spTold) : Cal P w K mg base 8 "ways" spTold := by
  refine cal_of D scWays (fun _ _ _ _ _ _ us hl => match us, hl with | [_, _], _ => rfl) (fun vs H Q E h => ?_) (fun f cdv A outer s H vs Q E hr h => ?_)
  · obtain ⟨G, a, cs, n, rfl, _⟩ := h; rfl
  obtain ⟨G, a, cs, n, rfl, pre, q⟩ := h
  refine ⟨_, (pss_one (ps_ret (pe_c c_told_ways hr (by decide) (by rfl) (pa_cons (pv 0) (pa_cons (pv 1) pa_nil))))), ?_⟩
  exact ⟨_, rfl, _, rfl, G, a, cs, n, rfl, pre, q⟩
def spLotsOf : Sp := fun vs H Q _ => ∃ (G : Hp) (a : Addr) (cs : List Nat) (n : Nat), vs = [.ref a, iv n] ∧ Pre G H a cs n ∧ ∀ v G' H', Step G H G' H' → RL (R2f H) G' v (lotsF cs n) → Q v H'
theorem ok_lots_of_ways (D : Df K mg "lots_of_ways" sLotsOfWays) (c_told_ways : Cal P w K mg base 7 "told_ways" spTold) (c_lots_among : Cal P w K mg base 2 "lots_among" spLots) :
    Cal P w K mg base 8 "lots_of_ways" spLotsOf ∧ CalK P w K mg base 8 "lots_of_ways" spLotsOf := by
  refine calk_of D scLotsOfWays (fun _ _ _ _ _ _ us hl => match us, hl with | [_, _], _ => rfl) (fun _ _ _ _ _ _ _ _ => rfl) (fun vs H Q E h => ?_) (fun f cdv A outer s H vs Q E hr h => ?_)
  · obtain ⟨G, a, cs, n, rfl, _⟩ := h; rfl
  obtain ⟨G, a, cs, n, rfl, pre, q⟩ := h
  have hwl := pre.ways_len
  have hp : Posi cs := fun c hc => (pre.nine c hc).1
  have h4 := pre.four
  refine ⟨_, (pss_one (ps_ret (pe_c c_lots_among hr (by decide) (by rfl) (pa_cons (pe_c c_told_ways hr (by decide) (by rfl) (pa_cons (pv 0) (pa_cons (pv 1) pa_nil))) pa_nil)))), ?_⟩
  refine ⟨_, rfl, _, rfl, G, a, cs, n, rfl, pre, fun v G1 H1 st1 r1 => ?_⟩
  obtain ⟨b, ws, rfl, gb, pb⟩ := id r1
  refine ⟨G1, b, waysF cs n, rfl, st1.gh, r1, by omega, fun o ho => by have := ((mem_waysF hp).mp ho).1; omega, fun v G2 H2 st2 r2 => ?_⟩
  refine q v G2 H2 (st1.trans st2) ?_
  obtain ⟨c, vs, rfl, gc, pc⟩ := r2
  refine ⟨c, vs, rfl, gc, Paired.imp' pc fun x y h => ⟨h.1, ?_⟩⟩
  obtain ⟨z, ez, nz⟩ := h.2
  exact ⟨z, ez, st1.hh.free nz⟩
theorem ok_turning_counts (D : Df K mg "turning_counts" sTurningCounts) (T : Txt mg) (c_want_counts : Cal P w K mg base 3 "want_counts" spWantCounts) (c_want_at_most : Cal P w K mg base 1 "want_at_most" spAtMost) (c_turning_of : Cal P w K mg base 3 "turning_of" spTurning) :
    Cal P w K mg base 4 "turning_counts" spTurning := by
  refine cal_of D scTurningCounts (fun _ _ _ _ _ _ us hl => match us, hl with | [_], _ => rfl) (fun vs H Q E h => ?_) (fun f cdv A outer s H vs Q E hr h => ?_)
  · obtain ⟨a, cs, rfl, _⟩ := h; rfl
  obtain ⟨a, cs, rfl, ha, hne, hp, h9, h4, q⟩ := h
  have h1 : 1 ≤ cs.length := List.length_pos_iff.mpr hne
  refine ⟨_, (pss_cons (ps_set (i := 1) scTurningCounts.nd rfl (by first | exact Or.inl rfl | exact Or.inr rfl) (pe_c c_want_counts hr (by decide) (by rfl) (pa_cons (pv 0) pa_nil)))
    (pss_cons (ps_expr (pe_c c_want_at_most hr (by decide) (by rfl) (pa_cons pe_str (pa_cons (pe_gc (by rfl) T.MOST_TURNING) (pa_cons (pe_callB (cr_maxK (K := K) rfl rfl) (by rfl) T.max_ (by decide +kernel) (pa_cons (pv 1) pa_nil)) pa_nil)))))
    (pss_one (ps_ret (pe_c c_turning_of hr (by decide) (by rfl) (pa_cons (pv 1) pa_nil)))))), ?_⟩
  refine ⟨_, rfl, a, cs, rfl, .inl ha, h1, by omega, fun c hc => ⟨hp c hc, by have := h9 c hc; omega⟩, fun p1 H1 n1 s1 e1 => ?_⟩
  refine ⟨_, rfl, p1, cs.map fun (n : Nat) => (n : Int), rfl, SqL.of (by rw [e1, map_iv]), by rw [List.length_map]; omega, fun m hm _ => ?_⟩
  obtain ⟨c, hc, rfl⟩ := List.mem_map.mp hm
  have hc9 := h9 c hc
  refine ⟨_, 24, (c : Int), rfl, by omega, ?_⟩
  refine ⟨_, rfl, p1, cs, rfl, e1, hne, hp, h9, h4, fun p2 H2 T' n2 s2 e2 ht => ?_⟩
  exact q p2 H2 T' (s1.free n2) (s1.trans s2) e2 ht
end
end K25
namespace K25
open PySem PySem.Spec PyProof.Rows L2
section
variable {P : Program} {w : World} {K : PySem.W.Frag} {mg : Str → Option Value} {base : Heap}
/-! ### the law's draws -/
/-- all but a is as it was -/
def But (a : Addr) (H H' : Hp) : Prop := ∀ b o, b ≠ a → H b = some o → H' b = some o
theorem But.of_same {a : Addr} {H H' : Hp} (s : Same H H') : But a H H' := fun b o _ e => s b o e
theorem But.trans {a : Addr} {H H1 H2 : Hp} (x : But a H H1) (y : But a H1 H2) : But a H H2 := fun b o n e => y b o n (x b o n e)
theorem But.set {a : Addr} {H : Hp} (o : HO) : But a H (upd H a o) := fun b u n e => by rw [upd_ne n]; exact e
theorem But.free {a p : Addr} {H H' : Hp} (x : But a H H') {o : HO} (ha : H' a = some o) (h : H' p = none) : H p = none := by
  cases e : H p with
  | none => rfl
  | some u =>
    have ne : p ≠ a := fun z => by rw [z, ha] at h; cases h
    rw [x p u ne e] at h
    cases h
structure PotAt (H : Hp) (a : Addr) : Prop where
  ex : ∃ x y : Int, H a = some (.lst [.int x, .int y]) ∧ 0 ≤ x ∧ 0 ≤ y ∧ y ≤ 2147483563
def spPot (K : PySem.W.Frag) : Sp := fun vs H Q _ => ∃ (a : Addr) (ns : List Int) (k : Nat), vs = [.ref a, iv k] ∧ SqL K H a (ns.map V.int) ∧ k ≤ 1 ∧ ∀ (p : Addr) (H' : Hp), H p = none → Same H H' → PotAt H' p → Q (.ref p) H'
theorem ok_law_pot (D : Df K mg "_law_pot" sLawPot) (T : Txt mg) : Cal P w K mg base 1 "_law_pot" (spPot K) := by
  refine cal_of D scLawPot (fun _ _ _ _ _ _ us hl => match us, hl with | [_, _], _ => rfl) (fun vs H Q E h => ?_) (fun f cdv A outer s H vs Q E hr h => ?_)
  · obtain ⟨a, ns, k, rfl, _⟩ := h; rfl
  obtain ⟨a, ns, k, rfl, hS, hk, q⟩ := h
  refine ⟨_, (pss_cons (ps_set (i := 2) scLawPot.nd rfl (by first | exact Or.inl rfl | exact Or.inr rfl) (pe_ifExp (pt_cmpR op_lt (pv 1) (pe_callB (call_lenK (K := K) rfl) (by rfl) T.len_ (by decide +kernel) (pa_cons (pv 0) pa_nil)) (nomark _)) (pe_callB call_abs (by rfl) T.abs_ (by decide +kernel) (pa_cons (pe_ix (ix_listK (K := K) rfl) (pv 0) (pv 1) (fun _ _ => rfl)) pa_nil)) (pe_op op_add (pe_op op_mul pe_int (pv 1)) pe_int)))
    (pss_one (ps_ret (pe_lst (pa_cons (pe_callB (call_max2 rfl) (by rfl) T.max_ (by decide +kernel) (pa_cons pe_int (pa_cons (pe_op op_sub (pv 2) (pe_op op_pow pe_int pe_int)) pa_nil))) (pa_cons (pe_op op_add (pe_op op_mod (pe_callTy call_int1 (by rfl) T.int_ (by decide +kernel) (pa_cons (pe_op op_add (pe_op op_add (pe_op op_mul (pe_op op_mod (pe_callTy call_int1 (by rfl) T.int_ (by decide +kernel) (pa_cons (pv 2) pa_nil)) pe_int) pe_int) (pe_op op_mul pe_int (pv 1))) pe_int) pa_nil)) pe_int) pe_int) pa_nil)))))), ?_⟩
  have fin : ∀ c : Int, 0 ≤ c → ∀ (p : Addr), H p = none → Q (.ref p) (upd H p (.lst [.int (if c - 10 ^ (18 : Int).toNat > 0 then c - 10 ^ (18 : Int).toNat else 0), .int ((c % 2147483549 * 40543 + 4021 * (k : Int) + 313) % 2147483563 + 1)])) := by
    intro c hc p hp
    refine q p _ hp (same_new hp _) ⟨_, _, upd_same, ?_, ?_, ?_⟩
    · split <;> omega
    · have := Int.emod_nonneg (c % 2147483549 * 40543 + 4021 * (k : Int) + 313) (show (2147483563 : Int) ≠ 0 by decide)
      omega
    · have := Int.emod_lt_of_pos (c % 2147483549 * 40543 + 4021 * (k : Int) + 313) (show (0 : Int) < 2147483563 by decide)
      omega
  have rest : ∀ c : Int, 0 ≤ c → (tRet (tLst (tCons (tCB (fun xs H Q => ∃ i j, xs = [.int i, .int j] ∧ Q (.int (if j > i then j else i)) H) (tCons (tC (.int 0)) (tCons (tOp (rI0 fun i j => .int (i - j)) (tVar 2) (tOp (rI CPow fun i j => .int (i ^ j.toNat)) (tC (.int 10)) (tC (.int 18)))) tNil)))
      (tCons (tOp (rI0 fun i j => .int (i + j)) (tOp (rI (fun _ j => 0 < j) fun i j => .int (i % j)) (tCB (fun xs H Q => (∃ i, xs = [.int i] ∧ Q (.int i) H) ∨ ∃ k, xs = [.bl k] ∧ Q (.int (if k then 1 else 0)) H) (tCons
        (tOp (rI0 fun i j => .int (i + j)) (tOp (rI0 fun i j => .int (i + j)) (tOp (rI CMul fun i j => .int (i * j)) (tOp (rI (fun _ j => 0 < j) fun i j => .int (i % j)) (tCB (fun xs H Q => (∃ i, xs = [.int i] ∧ Q (.int i) H) ∨ ∃ k, xs = [.bl k] ∧ Q (.int (if k then 1 else 0)) H) (tCons (tVar 2) tNil)) (tC (.int 2147483549))) (tC (.int 40543)))
          (tOp (rI CMul fun i j => .int (i * j)) (tC (.int 4021)) (tVar 1))) (tC (.int 313))) tNil)) (tC (.int 2147483563))) (tC (.int 1))) tNil)))) { nx := fun _ H' => Q .non H', rt := Q } [some (.ref a), some (iv k), some (.int c)] H := by
    intro c hc
    have cpow : CPow (10 : Int) 18 := ⟨by decide, by decide, by decide⟩
    refine ⟨_, rfl, 10, 18, rfl, rfl, cpow, c, _, rfl, rfl, 0, _, rfl, ?_⟩
    refine ⟨_, rfl, .inl ⟨c, rfl, c, 2147483549, rfl, rfl, (show (0 : Int) < 2147483549 by decide), c % 2147483549, 40543, rfl, rfl, .inr ⟨by decide, by decide⟩, ?_⟩⟩
    refine ⟨_, rfl, 4021, (k : Int), rfl, rfl, .inl ⟨by decide, by decide⟩, _, _, rfl, rfl, _, 313, rfl, rfl, .inl ⟨_, rfl, _, 2147483563, rfl, rfl, (show (0 : Int) < 2147483563 by decide), _, 1, rfl, rfl, by show 2 ≤ sizeLine; decide, fun p hp => ?_⟩⟩
    exact fin c hc p hp
  refine ⟨_, rfl, _, rfl, a, _, rfl, .inl hS, (k : Int), ((ns.map V.int).length : Int), rfl, rfl, _, rfl, ?_⟩
  refine ite2 (fun t => ?_) (fun t => ?_)
  · have t' : k < ns.length := by
      have := of_decide_eq_true t
      rw [List.length_map] at this
      omega
    refine ⟨_, rfl, _, rfl, a, _, (k : Int), .int ns[k], rfl, rfl, hS, at_of (j := k) rfl (by rw [List.getElem?_map, List.getElem?_eq_getElem t']; rfl), ns[k], rfl, ?_⟩
    exact rest _ (by split <;> omega)
  · refine ⟨_, rfl, 347, (k : Int), rfl, rfl, .inl ⟨by decide, by decide⟩, 347 * (k : Int), 311, rfl, rfl, ?_⟩
    exact rest _ (by omega)
def spDraw : Sp := fun vs H Q _ => ∃ (a : Addr) (m : Nat), vs = [.ref a, iv m] ∧ PotAt H a ∧ 0 < m ∧ m ≤ 1000 ∧ ∀ (d : Nat) (H' : Hp), d < m → PotAt H' a → But a H H' → Q (iv d) H'
theorem ok_law_draw (D : Df K mg "_law_draw" sLawDraw) (T : Txt mg) : Cal P w K mg base 1 "_law_draw" spDraw := by
  refine cal_of D scLawDraw (fun _ _ _ _ _ _ us hl => match us, hl with | [_, _], _ => rfl) (fun vs H Q E h => ?_) (fun f cdv A outer s H vs Q E hr h => ?_)
  · obtain ⟨a, m, rfl, _⟩ := h; rfl
  obtain ⟨a, m, rfl, ⟨x, y, ha, hx, hy, hy2⟩, hm, hm2, q⟩ := h
  refine ⟨_, (pss_cons (ps_if (pt_cmpR op_gt (pe_ix (ix_listK (K := K) rfl) (pv 0) pe_int (fun _ _ => rfl)) pe_int (nomark _)) (pss_cons (ps_asg (pe_callB call_divmod (by rfl) T.divmod_ (by decide +kernel) (pa_cons (pe_ix (ix_listK (K := K) rfl) (pv 0) pe_int (fun _ _ => rfl)) (pa_cons (pv 1) pa_nil))) (pg_tupK (K := K) (n := 2) rfl rfl (pgs_cons (pg_sub (pv 0) pe_int set_list) (pgs_cons (pg_name (i := 2) scLawDraw.nd rfl (by first | exact Or.inl rfl | exact Or.inr rfl)) pgs_nil))))
    (pss_one (ps_ret (pv 2)))) pss_nil)
    (pss_cons (ps_asg (pe_op op_mod (pe_callTy call_int1 (by rfl) T.int_ (by decide +kernel) (pa_cons (pe_op op_add (pe_op op_mul (pe_ix (ix_listK (K := K) rfl) (pv 0) pe_int (fun _ _ => rfl)) pe_int) pe_int) pa_nil)) pe_int) (pg_sub (pv 0) pe_int set_list))
    (pss_one (ps_ret (pe_op op_mod (pe_callTy call_int1 (by rfl) T.int_ (by decide +kernel) (pa_cons (pe_op op_fdiv (pe_op op_mod (pe_callTy call_int1 (by rfl) T.int_ (by decide +kernel) (pa_cons (pe_op op_mul (pe_ix (ix_listK (K := K) rfl) (pv 0) pe_int (fun _ _ => rfl)) (pe_ix (ix_listK (K := K) rfl) (pv 0) pe_int (fun _ _ => rfl))) pa_nil)) pe_int) pe_int) pa_nil)) (pv 1)))))), ?_⟩
  have m0 : (0 : Int) < m := by omega
  refine ⟨_, rfl, a, _, 0, .int x, rfl, rfl, SqL.of ha, at_of (j := 0) rfl rfl, x, 0, rfl, rfl, _, rfl, ?_⟩
  refine ite2 (fun t => ?_) (fun t => ?_)
  · -- digits
    refine ⟨_, rfl, a, _, 0, .int x, rfl, rfl, SqL.of ha, at_of (j := 0) rfl rfl, _, rfl, x, (m : Int), rfl, ⟨m0, by omega⟩, fun p np => ?_⟩
    have s1 := same_new np (.tup [.int (x / m), .int (x % m)])
    have ha1 := s1 a _ ha
    refine ⟨p, _, rfl, .inl (.inl upd_same), rfl, _, _, rfl, _, rfl, a, _, 0, 0, rfl, rfl, ha1, ix_nat (j := 0) (by show 0 < 2; decide), _, _, rfl, rfl, ?_⟩
    have d0 := Int.emod_nonneg x (show (m : Int) ≠ 0 by omega)
    have d1 := Int.emod_lt_of_pos x m0
    obtain ⟨d, ed⟩ : ∃ d : Nat, x % (m : Int) = d := ⟨(x % (m : Int)).toNat, by omega⟩
    refine ⟨_, rfl, ?_⟩
    have fin := q d (upd (upd H p (.tup [.int (x / m), .int (x % m)])) a (.lst [.int (x / m), .int y])) (by omega) ⟨_, _, upd_same, Int.ediv_nonneg hx (by omega), hy, hy2⟩ ((But.of_same s1).trans (.set _))
    have e2 : V.int (x % (m : Int)) = iv d := congrArg V.int ed
    rw [← e2] at fin
    exact fin
  · -- mixed numbers
    refine ⟨_, rfl, a, _, 1, .int y, rfl, rfl, SqL.of ha, at_of (j := 1) rfl rfl, y, 40014, rfl, rfl, .inr ⟨by decide, by decide⟩, y * 40014, 1109, rfl, rfl, .inl ⟨_, rfl, y * 40014 + 1109, 2147483563, rfl, rfl, (show (0 : Int) < 2147483563 by decide), ?_⟩⟩
    have z0 := Int.emod_nonneg (y * 40014 + 1109) (show (2147483563 : Int) ≠ 0 by decide)
    have z1 := Int.emod_lt_of_pos (y * 40014 + 1109) (show (0 : Int) < 2147483563 by decide)
    generalize hz : (y * 40014 + 1109) % (2147483563 : Int) = z at z0 z1
    refine ⟨_, rfl, a, _, 1, 1, rfl, rfl, ha, ix_nat (j := 1) (by show 1 < 2; decide), ?_⟩
    have ha2 : (upd H a (.lst ([.int x, .int y].set 1 (.int ((y * 40014 + 1109) % 2147483563))))) a = some (.lst [.int x, .int z]) := by
      rw [upd_same, hz]
      rfl
    have hmul : CMul z z := .inl ⟨by omega, by omega⟩
    refine ⟨_, rfl, a, _, 1, .int z, rfl, rfl, SqL.of ha2, at_of (j := 1) rfl rfl, ?_⟩
    refine ⟨_, rfl, a, _, 1, .int z, rfl, rfl, SqL.of ha2, at_of (j := 1) rfl rfl, z, z, rfl, rfl, hmul, .inl ⟨_, rfl, z * z, 2147483587, rfl, rfl, (show (0 : Int) < 2147483587 by decide), z * z % 2147483587, 21, rfl, rfl, ⟨by decide, by decide⟩, .inl ⟨_, rfl, ?_⟩⟩⟩
    refine ⟨_, rfl, z * z % 2147483587 / 21, (m : Int), rfl, rfl, m0, ?_⟩
    generalize z * z % 2147483587 / 21 = u
    have d0 := Int.emod_nonneg u (show (m : Int) ≠ 0 by omega)
    have d1 := Int.emod_lt_of_pos u m0
    obtain ⟨d, ed⟩ : ∃ d : Nat, u % (m : Int) = d := ⟨(u % (m : Int)).toNat, by omega⟩
    have e2 : V.int (u % (m : Int)) = iv d := congrArg V.int ed
    show Q (V.int (u % (m : Int))) _
    rw [e2]
    exact q d _ (by omega) ⟨_, _, ha2, hx, z0, by omega⟩ (.set _)
def spLCounts : Sp := fun vs H Q _ => ∃ (a : Addr) (mm m : Nat), vs = [.ref a, iv mm, iv m] ∧ PotAt H a ∧ 0 < mm ∧ mm ≤ 100 ∧ 0 < m ∧ m ≤ 100 ∧
  ∀ (p : Addr) (H' : Hp) (cs : List Nat), H p = none → PotAt H' a → But a H H' → H' p = some (.lst (cs.map iv)) → 1 ≤ cs.length → cs.length ≤ mm → (∀ c ∈ cs, 1 ≤ c ∧ c ≤ m) → Q (.ref p) H'
theorem ok_law_counts (D : Df K mg "_law_counts" sLawCounts) (T : Txt mg) (c_law_draw : Cal P w K mg base 1 "_law_draw" spDraw) : Cal P w K mg base 2 "_law_counts" spLCounts := by
  refine cal_of D scLawCounts (fun _ _ _ _ _ _ us hl => match us, hl with | [_, _, _], _ => rfl) (fun vs H Q E h => ?_) (fun f cdv A outer s H vs Q E hr h => ?_)
  · obtain ⟨a, mm, m, rfl, _⟩ := h; rfl
  obtain ⟨a, mm, m, rfl, pa, h0, h1, h2, h3, q⟩ := h
  refine ⟨_, (pss_cons (ps_set (i := 3) scLawCounts.nd rfl (by first | exact Or.inl rfl | exact Or.inr rfl) (pe_lst pa_nil))
    (pss_cons (ps_for PassesOwn.never rfl (pi_range1 (by rfl) T.range_ (pa_cons (pe_op op_add pe_int (pe_c c_law_draw hr (by decide) (by rfl) (pa_cons (pv 0) (pa_cons (pv 1) pa_nil)))) pa_nil)) (pg_name (i := 4) scLawCounts.nd rfl (by first | exact Or.inl rfl | exact Or.inr rfl)) (pss_one (ps_expr (pe_bm PySem.F.plainAttrs_list PySem.F.slot_list_append PySem.F.type_list_append mt_append (pv 3) (pa_cons (pe_op op_add pe_int (pe_c c_law_draw hr (by decide) (by rfl) (pa_cons (pv 0) (pa_cons (pv 2) pa_nil)))) pa_nil)))))
    (pss_one (ps_ret (pv 3))))), ?_⟩
  refine ⟨by show 0 ≤ sizeLine; decide, fun p np => ?_⟩
  have ⟨x0, y0, ha0, _⟩ := pa
  have npa : p ≠ a := fun e => by rw [e, ha0] at np; cases np
  have pa1 : PotAt (upd H p (.lst [])) a := by
    obtain ⟨x, y, ha, hr⟩ := pa
    exact ⟨x, y, by rw [upd_ne npa.symm]; exact ha, hr⟩
  refine ⟨_, rfl, _, rfl, a, mm, rfl, pa1, h0, by omega, fun d H1 hd pa2 b1 => ?_⟩
  refine ⟨1, (d : Int), rfl, rfl, 1 + (d : Int), rfl, by omega, by omega, ?_⟩
  have ed : (1 + (d : Int)).toNat = d + 1 := by omega
  rw [ed]
  refine for_range (lo := 0) (n := d + 1) (fun i σ H' => ∃ (cs : List Nat) (y : Option V), σ = [some (.ref a), some (iv mm), some (iv m), some (.ref p), y] ∧ PotAt H' a ∧ But a H H' ∧ H' p = some (.lst (cs.map iv)) ∧ cs.length = i ∧ ∀ c ∈ cs, 1 ≤ c ∧ c ≤ m) ?_ ?_ ?_
  · exact ⟨[], none, rfl, pa2, (But.of_same (same_new np _)).trans b1, b1 p _ npa upd_same, rfl, by simp⟩
  · rintro i σ H2 hi ⟨cs, y, rfl, pa3, b3, e3, lc, hc⟩
    refine ⟨.ref p, rfl, .inl ⟨rfl, _, SqL.of e3⟩, _, rfl, _, rfl, a, m, rfl, pa3, h2, by omega, fun c H4 hcm pa4 b4 => ?_⟩
    refine ⟨1, (c : Int), rfl, rfl, p, _, _, rfl, rfl, b4 p _ npa e3, by rw [List.length_map]; exact szl (by omega), ?_⟩
    refine ⟨cs ++ [1 + c], _, rfl, ?_, ?_, ?_, by rw [List.length_append, lc]; rfl, ?_⟩
    · obtain ⟨x, y, hx, hr⟩ := pa4
      exact ⟨x, y, by rw [upd_ne npa.symm]; exact hx, hr⟩
    · intro b o nb e
      rw [upd_ne (ne_of_none e np)]
      exact b4 b o nb (b3 b o nb e)
    · rw [upd_same, List.map_append]
      have : V.int (1 + (c : Int)) = iv (1 + c) := congrArg V.int (by omega)
      show some (HO.lst (cs.map iv ++ [V.int (1 + (c : Int))])) = _
      rw [this]
      rfl
    · intro z hz
      rcases List.mem_append.mp hz with hz | hz
      · exact hc z hz
      · rw [List.mem_singleton.mp hz]; omega
  · rintro σ H2 ⟨cs, y, rfl, pa3, b3, e3, lc, hc⟩
    exact ⟨_, rfl, q p H2 cs np pa3 b3 e3 (by omega) (by omega) hc⟩
def spTotal : Sp := fun vs H Q _ => ∃ (G : Hp) (x : V) (lot : List Way), vs = [x] ∧ Same G H ∧ R2' G x lot ∧ lot ≠ [] ∧ (∀ o ∈ lot, o.length ≤ 1000) ∧ ∀ v G' H', Step G H G' H' → R1 G' v (totalF lot) → Q v H'
theorem total_len : ∀ (ws : List Way) (w : Way), (ws.foldl (fun a b => List.zipWith (· + ·) a b) w).length ≤ w.length
  | [], _ => Nat.le_refl _
  | v :: ws, w => Nat.le_trans (total_len ws _) (by rw [List.length_zipWith]; omega)
theorem ok_law_total (D : Df K mg "_law_total" sLawTotal) (T : Txt mg) : Cal P w K mg base 1 "_law_total" spTotal := by
  refine cal_of D scLawTotal (fun _ _ _ _ _ _ us hl => match us, hl with | [_], _ => rfl) (fun vs H Q E h => ?_) (fun f cdv A outer s H vs Q E hr h => ?_)
  · obtain ⟨G, x, lot, rfl, _⟩ := h; rfl
  obtain ⟨G, x, lot, rfl, gs, ⟨a, ws, rfl, ga, pw⟩, hne, hl, q⟩ := h
  obtain ⟨o, lot, rfl⟩ := cons_of_pos (cs := lot.map fun _ => 0) (by rw [List.length_map]; exact List.length_pos_iff.mpr hne) |> fun _ => (match lot, hne with | o :: l, _ => ⟨o, l, rfl⟩ : ∃ o l, lot = o :: l)
  obtain ⟨u, us, rfl, ru, pu⟩ : ∃ u us, ws = u :: us ∧ R1 G u o ∧ Paired (R1 G) us lot := by
    cases pw with
    | cons h t => exact ⟨_, _, rfl, h, t⟩
  refine ⟨_, (pss_cons (ps_set (i := 1) scLawTotal.nd rfl (by first | exact Or.inl rfl | exact Or.inr rfl) (pe_ix (ix_listK (K := K) rfl) (pv 0) pe_int (fun _ _ => rfl)))
    (pss_cons (ps_for PassesOwn.never rfl (pi_listK (K := K) rfl (pe_slice (sl_listK (K := K) rfl) (pv 0) (po_some pe_int) po_none)) (pg_name (i := 2) scLawTotal.nd rfl (by first | exact Or.inl rfl | exact Or.inr rfl)) (pss_one (ps_setLc (i := 1) (own := [(("_law_near" : Str), 3), (("_law_far" : Str), 4)]) rfl scLawTotal.nd rfl rfl (sw_true rfl rfl rfl (by decide +kernel)) (pi_zipK (K := K) rfl (by rfl) T.zip_ (pa_cons (pv 1) (pa_cons (pv 2) pa_nil))) (blkOk_by (N := [("_law_lot" : Str), ("_law_found" : Str), ("_law_way" : Str), ("_law_near" : Str), ("_law_far" : Str)]) (sc := defScope sLawTotal) (own := [(("_law_near" : Str), 3), (("_law_far" : Str), 4)]) (by decide +kernel)) (fun _ _ _ _ _ => (pg_tupK (K := K) (n := 2) rfl rfl (pgs_cons (pg_name (i := 3) scLawTotal.nd rfl (Or.inl rfl)) (pgs_cons (pg_name (i := 4) scLawTotal.nd rfl (Or.inl rfl)) pgs_nil)))) (fun _ _ _ _ _ => pts_nil) (fun _ _ _ _ _ => (pe_op op_add (pv 3) (pv 4))))))
    (pss_one (ps_ret (pv 1))))), ?_⟩
  refine ⟨_, rfl, a, _, 0, u, rfl, rfl, SqL.of (gs a _ ga), at_of (j := 0) rfl rfl, ?_⟩
  refine ⟨_, rfl, 1, rfl, a, _, rfl, SqL.of (gs a _ ga), fun p np => ?_⟩
  have st1 := Step.make gs np (.lst (cutV (u :: us) (some 1) none))
  have ec : cutV (u :: us) (some 1) none = us := cut1 (u :: us) 1
  refine ⟨p, rfl, ⟨_, SqL.of upd_same⟩, ?_⟩
  refine for_list (xs := us) (fun i σ H' => ∃ (Gt : Hp) (x : V) (y2 : Option V), σ = [some (.ref a), some x, y2, none, none] ∧ Step G H Gt H' ∧ Same (upd G p (.lst (cutV (u :: us) (some 1) none))) Gt ∧ R1 Gt x ((lot.take i).foldl (fun a b => List.zipWith (· + ·) a b) o)) ?_ ?_ ?_ ?_
  · exact ⟨_, u, none, rfl, st1, Same.refl _, m1.up (st1.gS gs) ru⟩
  · rintro i σ H' _ ⟨Gt, x, y2, _, st, sg, _⟩
    exact SqL.of (st.gh p _ (sg p _ (by rw [upd_same, ec])))
  · rintro i y σ H2 hy ⟨Gt, x, y2, rfl, st, sg, rx⟩
    obtain ⟨v, hv, rv⟩ := paired_get pu hy
    obtain ⟨ax, rfl, gx⟩ := r1_at rx
    obtain ⟨ay, rfl, gy⟩ := r1_at (m1.up (st.gS gs) rv)
    have hol := hl o List.mem_cons_self
    have hfl := total_len (lot.take i) o
    refine ⟨_, rfl, _, rfl, ax, ay, _, _, rfl, SqL.of (st.gh ax _ gx), SqL.of (st.gh ay _ gy), ?_⟩
    refine fun D4 d4 => lcZ (K := K) mRN (fun m n => m + n) d4 st.gh gx gy (Nat.le_trans hfl (by omega)) (fun _ _ => rfl) ?_ ?_
    · intro m n G4 H4 st4 N1 k1
      exact ⟨_, rfl, _, rfl, (m : Int), (n : Int), rfl, rfl, k1 _ G4 H4 (.refl st4.gh) rfl⟩
    · intro G4 H4 st4 r4
      refine ⟨G4, _, _, rfl, st.trans st4, sg.trans (st4.gS st.gh), ?_⟩
      rw [List.take_add_one, hv, List.foldl_append]
      exact r4
  · rintro σ H2 ⟨Gt, x, y2, rfl, st, sg, rx⟩
    rw [List.take_of_length_le (by rw [paired_len pu]; exact Nat.le_refl _)] at rx
    exact ⟨_, rfl, q x Gt H2 st rx⟩
end
end K25
namespace K25
open PySem PySem.Spec PyProof.Rows L2
theorem r3_of {H0 G : Hp} {v : V} {L : List (List Way)} (r : RL (R2f H0) G v L) : R3 G v L := by
  obtain ⟨a, vs, e, g, p⟩ := r
  exact ⟨a, vs, e, g, Paired.imp' p fun _ _ h => h.1⟩
theorem eqv_self {α : Type} [DecidableEq α] [PySem.W.Datum α] (x : α) : PyData.eqv (dD x) (dD x) = true := by
  rw [eq_dD]; exact decide_eq_true rfl
theorem inV_iv (n : Nat) (L : List Nat) : inV (iv n) (L.map iv) = decide (n ∈ L) := by
  unfold inV
  rw [List.any_map, Bool.eq_iff_iff, List.any_eq_true, decide_eq_true_eq]
  constructor
  · rintro ⟨x, hx, e⟩
    have e' : (x : Int) = (n : Int) := by
      have : ((x : Int) == (n : Int)) = true := e
      exact beq_iff_eq.mp this
    have : x = n := by omega
    rw [← this]; exact hx
  · intro h
    exact ⟨n, h, beq_iff_eq.mpr rfl⟩
theorem flat_iv (L : List Nat) : (L.map iv).all flatV = true := by
  rw [List.all_map, List.all_eq_true]
  intro x _
  rfl
/-- the list of the lots is none of the lots -/
theorem not_self {H0 G : Hp} {c q : Addr} {vs : List V} {L : List (List Way)} (g : G c = some (.lst vs)) (p : Paired (R2f H0 G) vs L) (ne : ∀ l ∈ L, l ≠ []) (hw : ∀ l ∈ L, ∀ o ∈ l, o ≠ []) (hq : V.ref q ∈ vs) : q ≠ c := by
  rintro rfl
  obtain ⟨l, hl, ⟨a, us, e, ga, pu⟩, _⟩ := paired_mem p hq
  cases e
  rw [g] at ga
  have ev : us = vs := by injection ga with h; injection h with h; exact h.symm
  subst ev
  have nl := ne l hl
  cases pu with
  | nil => exact nl rfl
  | @cons u o us' l' ru t =>
    obtain ⟨l2, hl2, ⟨a2, us2, e2, g2, p2⟩, _⟩ := paired_mem p (List.mem_cons_self (a := u))
    obtain ⟨b, eb, gb⟩ := r1_at ru
    rw [e2] at eb
    cases eb
    rw [g2] at gb
    have ev : us2 = o.map iv := by injection gb with h; injection h
    subst ev
    have no := hw _ hl o List.mem_cons_self
    cases o with
    | nil => exact no rfl
    | cons z zs =>
      cases p2 with
      | cons h _ =>
        obtain ⟨a3, _, e3, _⟩ := h
        cases e3
section
variable {P : Program} {w : World} {K : PySem.W.Frag} {mg : Str → Option Value} {base : Heap}
theorem Pre.up {G H G' H' : Hp} {a : Addr} {cs : List Nat} {n : Nat} (p : Pre G H a cs n) (e : H' a = some (.lst (cs.map iv))) (gs : Same G' H') : Pre G' H' a cs n :=
  ⟨gs, .inl e, p.one, p.four, p.nine, p.few, p.le⟩
def spRight : Sp := fun vs H Q _ => ∃ a : Addr, vs = [.ref a] ∧ PotAt H a ∧ ∀ H', But a H H' → Q (.bl true) H'
theorem ok_law_right (D : Df K mg "_law_right" sLawRight) (T : Txt mg) (c_law_counts : Cal P w K mg base 2 "_law_counts" spLCounts) (c_law_draw : Cal P w K mg base 1 "_law_draw" spDraw) (c_law_ways : Cal P w K mg base 5 "_law_ways" (spLawWays 5))
    (c_law_lots : Cal P w K mg base 2 "_law_lots" spLots) (c_lots_of_ways : Cal P w K mg base 8 "lots_of_ways" spLotsOf) (ck_lots_of_ways : CalK P w K mg base 8 "lots_of_ways" spLotsOf)
    (c_law_meet : Cal P w K mg base 1 "_law_meet" spNbr) (c_law_total : Cal P w K mg base 1 "_law_total" spTotal) (c_ways : Cal P w K mg base 8 "ways" spTold) (c_turning_counts : Cal P w K mg base 4 "turning_counts" spTurning) :
    Cal P w K mg base 9 "_law_right" spRight := by
  refine cal_of D scLawRight (fun _ _ _ _ _ _ us hl => match us, hl with | [_], _ => rfl) (fun vs H Q E h => ?_) (fun f cdv A outer s H vs Q E hr h => ?_)
  · obtain ⟨a, rfl, _⟩ := h; rfl
  obtain ⟨a, rfl, pa, q⟩ := h
  have haS : ∃ o, H a = some o := by
    obtain ⟨x, y, e, _⟩ := pa
    exact ⟨_, e⟩
  refine ⟨_, (pss_cons (ps_set (i := 1) scLawRight.nd rfl (by first | exact Or.inl rfl | exact Or.inr rfl) (pe_c c_law_counts hr (by decide) (by rfl) (pa_cons (pv 0) (pa_cons pe_int (pa_cons pe_int pa_nil)))))
    (Evl.pss_cut (ps_if (pt_cmpR op_eq (pe_c c_law_draw hr (by decide) (by rfl) (pa_cons (pv 0) (pa_cons pe_int pa_nil))) pe_int (nomark _)) (pss_one (ps_asg (pe_ix (ix_listK (K := K) rfl) (pv 1) pe_int (fun _ _ => rfl)) (pg_sub (pv 1) (pe_un un_neg pe_int) set_list))) pss_nil)
    (pss_cons (ps_set (i := 2) scLawRight.nd rfl (by first | exact Or.inl rfl | exact Or.inr rfl) (pe_c c_law_draw hr (by decide) (by rfl) (pa_cons (pv 0) (pa_cons (pe_callB (call_min2 rfl) (by rfl) T.min_ (by decide +kernel) (pa_cons pe_int (pa_cons (pe_op op_add (pe_op op_mul pe_int (pe_callB (cr_minK (K := K) rfl rfl) (by rfl) T.min_ (by decide +kernel) (pa_cons (pv 1) pa_nil))) pe_int) pa_nil))) pa_nil))))
    (pss_cons (ps_set (i := 3) scLawRight.nd rfl (by first | exact Or.inl rfl | exact Or.inr rfl) (pe_c c_law_ways hr (by decide) (by rfl) (pa_cons (pv 1) (pa_cons (pv 2) pa_nil))))
    (pss_cons (ps_par (i := 4) (j := 5) rfl scLawRight.nd rfl rfl (by decide) rfl rfl (pa_cons (pe_c c_law_lots hr (by decide) (by rfl) (pa_cons (pv 3) pa_nil)) (pa_cons (pe_c c_lots_of_ways hr (by decide) (by rfl) (pa_cons (pv 1) (pa_cons (pv 2) pa_nil))) pa_nil)) (by rfl))
    (pss_cons (ps_if (PW.pt (pw_or (pt_cmpR (op_neDK (K := K) rfl hr.units) (pv 5) (pv 4) (nomark _)) (pw_or1 (pt_cmpR (op_neDK (K := K) rfl hr.units) (pe_ck ck_lots_of_ways hr (by decide) (by rfl) (pk_cons (pv 2) (pk_cons (pe_callTy call_tuple_of (by rfl) T.tuple_ (by decide +kernel) (pa_cons (pv 1) pa_nil)) pk_nil))) (pv 4) (nomark _))))) (pss_one (ps_ret pe_bl)) pss_nil)
    (pss_cons (ps_set (i := 6) scLawRight.nd rfl (by first | exact Or.inl rfl | exact Or.inr rfl) (pe_lst pa_nil))
    (pss_cons (ps_for PassesOwn.never rfl (pi_listK (K := K) rfl (pv 5)) (pg_name (i := 7) scLawRight.nd rfl (by first | exact Or.inl rfl | exact Or.inr rfl)) (pss_cons (ps_if (pt_val (pe_callB (cr_anyK (K := K) rfl rfl) (by rfl) T.any_ (by decide +kernel) (pa_cons (pe_lc (own := [(("_law_mate" : Str), 8)]) rfl scLawRight.nd (pi_listK (K := K) rfl (pv 6)) (blkOk_by (N := [("_law_pot_here" : Str), ("_law_counts_here" : Str), ("_law_many" : Str), ("_law_some" : Str), ("_law_due" : Str), ("_law_told" : Str), ("_law_whole" : Str), ("_law_lot" : Str), ("_law_mate" : Str), ("_law_way" : Str)]) (sc := defScope sLawRight) (own := [(("_law_mate" : Str), 8)]) (by decide +kernel)) (fun _ _ _ _ _ => (pg_name (i := 8) scLawRight.nd rfl (Or.inl rfl))) (fun _ _ _ _ _ => pts_nil) (fun _ _ _ _ _ => (pe_c c_law_meet hr (by decide) (by rfl) (pa_cons (pe_c c_law_total hr (by decide) (by rfl) (pa_cons (pv 7) pa_nil)) (pa_cons (pv 8) pa_nil))))) pa_nil))) (pss_one (ps_ret pe_bl)) pss_nil)
    (pss_one (ps_expr (pe_bm PySem.F.plainAttrs_list PySem.F.slot_list_extend PySem.F.type_list_extend mt_extend (pv 6) (pa_cons (pv 7) pa_nil))))))
    (pss_cons (ps_if (pt_cmpR (op_neDK (K := K) rfl hr.units) (pe_callB (cr_sorted1K (K := K) rfl hr.units) (by rfl) T.sorted_ (by decide +kernel) (pa_cons (pv 6) pa_nil)) (pe_c c_ways hr (by decide) (by rfl) (pa_cons (pv 1) (pa_cons (pv 2) pa_nil))) (nomark _)) (pss_one (ps_ret pe_bl)) pss_nil)
    (pss_cons (ps_if (pt_cmpR op_ne (pe_cmpR (op_inK (K := K) rfl) (pv 2) (pe_c c_turning_counts hr (by decide) (by rfl) (pa_cons (pv 1) pa_nil)) (by rfl)) (pe_cmpR op_gt (pe_callB (call_lenK (K := K) rfl) (by rfl) T.len_ (by decide +kernel) (pa_cons (pv 4) pa_nil)) pe_int (nomark _)) (nomark _)) (pss_one (ps_ret pe_bl)) pss_nil)
    (pss_cons (ps_if (pt_cmpR (op_neDK (K := K) rfl hr.units) (pe_c c_lots_of_ways hr (by decide) (by rfl) (pa_cons (pe_revLK (K := K) rfl (pv 1)) (pa_cons (pv 2) pa_nil))) (pe_callB (cr_sorted2K (K := K) rfl hr.units) (by rfl) T.sorted_ (by decide +kernel) (pa_cons (pe_lc (own := [(("_law_lot" : Str), 7)]) rfl scLawRight.nd (pi_listK (K := K) rfl (pv 4)) (blkOk_by (N := [("_law_pot_here" : Str), ("_law_counts_here" : Str), ("_law_many" : Str), ("_law_some" : Str), ("_law_due" : Str), ("_law_told" : Str), ("_law_whole" : Str), ("_law_lot" : Str), ("_law_mate" : Str), ("_law_way" : Str)]) (sc := defScope sLawRight) (own := [(("_law_lot" : Str), 7)]) (by decide +kernel)) (fun _ _ _ _ _ => (pg_name (i := 7) scLawRight.nd rfl (Or.inl rfl))) (fun _ _ _ _ _ => pts_nil) (fun _ _ _ _ _ => (pe_callB (cr_sorted1K (K := K) rfl hr.units) (by rfl) T.sorted_ (by decide +kernel) (pa_cons (pe_lc (own := [(("_law_way" : Str), 9)]) rfl scLawRight.nd (pi_listK (K := K) rfl (pv 7)) (blkOk_by (N := [("_law_pot_here" : Str), ("_law_counts_here" : Str), ("_law_many" : Str), ("_law_some" : Str), ("_law_due" : Str), ("_law_told" : Str), ("_law_whole" : Str), ("_law_lot" : Str), ("_law_mate" : Str), ("_law_way" : Str)]) (sc := relS _ (defScope sLawRight)) (own := [(("_law_way" : Str), 9)]) (by decide +kernel)) (fun _ _ _ _ _ => (pg_name (i := 9) scLawRight.nd rfl (Or.inl rfl))) (fun _ _ _ _ _ => pts_nil) (fun _ _ _ _ _ => (pe_revLK (K := K) rfl (pv 9)))) pa_nil)))) pa_nil)) (nomark _)) (pss_one (ps_ret pe_bl)) pss_nil)
    (pss_cons (ps_for PassesOwn.never rfl (pi_listK (K := K) rfl (pv 5)) (pg_name (i := 7) scLawRight.nd rfl (by first | exact Or.inl rfl | exact Or.inr rfl)) (pss_one (ps_expr (pe_bm PySem.F.plainAttrs_list PySem.F.slot_list_append PySem.F.type_list_append mt_append (pv 7) (pa_cons pe_non pa_nil)))))
    (pss_one (ps_ret (pe_and (pe_cmpR (op_eqDK (K := K) rfl hr.units) (pe_c c_lots_of_ways hr (by decide) (by rfl) (pa_cons (pv 1) (pa_cons (pv 2) pa_nil))) (pv 4) (nomark _)) (pe_one (pe_cmpR (op_eqDK (K := K) rfl hr.units) (pe_c c_lots_of_ways hr (by decide) (by rfl) (pa_cons (pv 1) (pa_cons pe_int pa_nil))) (pe_lst (pa_cons (pe_lst (pa_cons (pe_op op_rep (pe_lst (pa_cons pe_int pa_nil)) (pe_callB (call_lenK (K := K) rfl) (by rfl) T.len_ (by decide +kernel) (pa_cons (pv 1) pa_nil))) pa_nil)) pa_nil)) (nomark _)))))))))))))))))), ?_⟩
  -- counts
  refine ⟨_, rfl, a, 4, 9, rfl, pa, by decide, by decide, by decide, by decide, fun p1 H1 cs0 n1 pa1 b1 e1 hc1 hc4 hc9 => ?_⟩
  have n1a : p1 ≠ a := by
    rintro rfl
    obtain ⟨o, e⟩ := haS
    rw [e] at n1; cases n1
  -- if draw(pot, 4) == 0: counts[-1] = counts[0]
  refine ⟨fun σ H' => ∃ cs : List Nat, σ = [some (.ref a), some (.ref p1), none, none, none, none, none, none, none, none] ∧ PotAt H' a ∧ But a H H' ∧ H' p1 = some (.lst (cs.map iv)) ∧ 1 ≤ cs.length ∧ cs.length ≤ 4 ∧ ∀ c ∈ cs, 1 ≤ c ∧ c ≤ 9, ?_, ?_⟩
  · refine ⟨_, rfl, a, 4, rfl, pa1, by decide, by decide, fun d H2 hd pa2 b2 => ?_⟩
    have e2 := b2 p1 _ n1a e1
    refine ⟨rfl, _, rfl, ite2 (fun t => ?_) (fun t => ?_)⟩
    · obtain ⟨c, r, rfl⟩ := cons_of_pos hc1
      refine ⟨_, rfl, p1, _, 0, iv c, rfl, rfl, SqL.of e2, at_of (j := 0) rfl rfl, ?_⟩
      refine ⟨_, rfl, 1, rfl, p1, _, -1, ((c :: r).map iv).length - 1, rfl, rfl, e2, ?_, ?_⟩
      · unfold ixN
        rw [if_neg (by decide), if_pos (by rw [List.length_map, List.length_cons]; omega)]
        congr 1
        rw [List.length_map, List.length_cons]
        omega
      refine ⟨(c :: r).set (((c :: r).map iv).length - 1) c, rfl, ?_, ?_, ?_, by rw [List.length_set]; exact hc1, by rw [List.length_set]; exact hc4, ?_⟩
      · obtain ⟨x, y, hx, hr⟩ := pa2
        exact ⟨x, y, by rw [upd_ne n1a.symm]; exact hx, hr⟩
      · intro b o nb e
        rw [upd_ne (ne_of_none e n1)]
        exact b2 b o nb (b1 b o nb e)
      · rw [upd_same, List.map_set]
      · intro z hz
        rcases List.mem_or_eq_of_mem_set hz with hz | rfl
        · exact hc9 z hz
        · exact hc9 z List.mem_cons_self
    · exact ⟨cs0, rfl, pa2, b1.trans b2, e2, hc1, hc4, hc9⟩
  rintro σ H3 ⟨cs, rfl, pa3, b3, e3, hl1, hl4, hc9⟩
  have hp : Posi cs := fun c hc => (hc9 c hc).1
  have hne : cs ≠ [] := List.length_pos_iff.mp hl1
  -- many
  refine ⟨_, rfl, _, rfl, p1, cs.map fun (n : Nat) => (n : Int), rfl, SqL.of (by rw [e3, map_iv]), by rw [List.length_map]; omega, fun mi hmi hle => ?_⟩
  obtain ⟨m, hm, rfl⟩ := List.mem_map.mp hmi
  have hm19 := hc9 m hm
  have emm : (if (5 * (m : Int) + 1) < 31 then 5 * (m : Int) + 1 else 31) = ((min 31 (5 * m + 1) : Nat) : Int) := by split <;> omega
  refine ⟨5, (m : Int), rfl, rfl, .inl ⟨by decide, by decide⟩, 5 * (m : Int), 1, rfl, rfl, 31, 5 * (m : Int) + 1, rfl, ?_⟩
  refine ⟨a, min 31 (5 * m + 1), congrArg (fun z => [V.ref a, V.int z]) emm, pa3, by omega, by omega, fun n H4 hn pa4 b4 => ?_⟩
  have e4 := b4 p1 _ n1a e3
  have bH4 : But a H H4 := b3.trans b4
  have pre4 : Pre H4 H4 p1 cs n := ⟨Same.refl _, .inl e4, hl1, hl4, hc9, ⟨m, by omega, fun c hc => by have := hle _ (List.mem_map.mpr ⟨c, hc, rfl⟩); omega, Nat.div_le_of_le_mul (by omega)⟩, by omega⟩
  have hwl := pre4.ways_len
  have hwlen : ∀ o ∈ waysF cs n, o.length ≤ 1000 := fun o ho => by have := ((mem_waysF hp).mp ho).1; omega
  -- some
  refine ⟨_, rfl, _, rfl, H4, p1, cs, n, rfl, Same.refl _, e4, by omega, by omega, by omega, hp, fun c hc => by have := hc9 c hc; omega, by omega, fun v5 G5 H5 st5 r5 => ?_⟩
  obtain ⟨pS, vS, rfl, gS, pS'⟩ := id r5
  -- due, told
  refine ⟨_, rfl, G5, pS, waysF cs n, rfl, st5.gh, r5, by omega, hwlen, fun v6 G6 H6 st6 r6 => ?_⟩
  have st46 := st5.trans st6
  have e6 := st46.hh p1 _ e4
  have pre6 : Pre G6 H6 p1 cs n := pre4.up e6 st6.gh
  refine ⟨_, rfl, _, rfl, G6, p1, cs, n, rfl, pre6, fun v7 G7 H7 st7 r7 => ?_⟩
  refine ⟨_, _, rfl, ?_⟩
  replace r6 : RL (R2f H5) G6 v6 (lotsF cs n) := r6
  generalize hL : lotsF cs n = L at *
  have eL := eqv_self L
  have r6' := r3_of r6
  have r7' := r3_of r7
  -- if told != due or ..
  refine ⟨_, rfl, _, rfl, dD L, dD L, dp3.dp (m3.up st7.gh r7'), dp3.dp (m3.up (st6.gh.trans st7.hh) r6'), sh3 L, sh3 L, _, rfl, ite2 (fun t => absurd t (by rw [eL]; decide)) (fun _ => ?_)⟩
  have e7 := st7.hh p1 _ e6
  refine ⟨_, rfl, _, rfl, p1, _, rfl, .inl ⟨SqL.of e7, fun p8 n8 => ?_⟩⟩
  have st8 := Step.aside st7.gh n8 (.tup (cs.map iv))
  refine ⟨G7, p8, cs, n, rfl, ⟨st8.gh, .inr upd_same, hl1, hl4, hc9, pre4.few, pre4.le⟩, fun v9 G9 H9 st9 r9 => ?_⟩
  rw [hL] at r9
  have r9' := r3_of r9
  have st69 : Step G6 H6 G9 H9 := st7.trans (st8.trans st9)
  refine ⟨_, rfl, dD L, dD L, dp3.dp (m3.up st9.gh r9'), dp3.dp (m3.up (st6.gh.trans st69.hh) r6'), sh3 L, sh3 L, _, rfl, ite2 (fun t => absurd t (by rw [eL]; decide)) (fun _ => ?_)⟩
  -- whole = []
  refine ⟨by show 0 ≤ sizeLine; decide, fun pw nw => ?_⟩
  obtain ⟨pT, vT, rfl, gT, pT'⟩ := id r7
  obtain ⟨pD, vD, rfl, gD, pD'⟩ := id r6'
  have lvT := paired_len pT'
  have lvD := paired_len pD'
  have hLis : IsLots nbr (waysF cs n) L := by rw [← hL]; exact lotsF_is cs n
  have hLne := hLis.ne
  have hLfl : L.flatten.length ≤ 126 := by rw [hLis.perm.length_eq]; exact hwl
  have hLle : L.length ≤ 126 := Nat.le_trans (len_flat hLne) hLfl
  have hLw : ∀ l ∈ L, ∀ o ∈ l, o ∈ waysF cs n := fun l hl o ho => hLis.mem hl ho
  have s79 : Same G7 G9 := (st8.trans st9).gS st7.gh
  have st10 := Step.aside st9.gh nw (.lst [])
  -- for lot in told
  refine ⟨_, rfl, pT, rfl, ⟨_, SqL.of (st10.gh pT _ (s79 pT _ gT))⟩, ?_⟩
  refine for_list (xs := vT) (fun i σ H' => ∃ (Gt : Hp) (acc : List V) (y7 : Option V), σ = [some (.ref a), some (.ref p1), some (iv n), some (.ref pS), some (.ref pD), some (.ref pT), some (.ref pw), y7, none, none] ∧ Step G9 H9 Gt H' ∧ Gt pw = none ∧ H' pw = some (.lst acc) ∧ Paired (R1 Gt) acc (L.take i).flatten) ?_ ?_ ?_ ?_
  · exact ⟨G9, [], none, rfl, st10, st9.gh.free nw, upd_same, .nil⟩
  · rintro i σ H' _ ⟨Gt, acc, y7, _, st, _⟩
    exact SqL.of (st.gh pT _ (st.gS st9.gh pT _ (s79 pT _ gT)))
  · rintro i x σ H2 hx ⟨Gt, acc, y7, rfl, st, gw, hw, pa⟩
    obtain ⟨lot, hlot, ex⟩ := paired_get pT' hx
    have hlotm := List.mem_of_getElem? hlot
    have ex' : R2' Gt x lot := m2.up (s79.trans (st.gS st9.gh)) ex.1
    have hlw : ∀ o ∈ lot, o.length ≤ 1000 := fun o ho => hwlen o (hLw lot hlotm o ho)
    have hfl : (L.take i).flatten.length + lot.length ≤ 126 := by
      have e : L = L.take i ++ lot :: L.drop (i + 1) := by
        have hiL : i < L.length := (List.getElem?_eq_some_iff.mp hlot).1
        have : L[i] = lot := (List.getElem?_eq_some_iff.mp hlot).2
        rw [← this, ← List.drop_eq_getElem_cons hiL, List.take_append_drop]
      have h2 := hLfl
      rw [e, List.flatten_append, List.flatten_cons, List.length_append, List.length_append] at h2
      omega
    have lacc := paired_len pa
    -- any([..])
    refine ⟨_, rfl, pw, rfl, ⟨_, SqL.of hw⟩, ?_⟩
    refine fun D2 d2 => lcW (walk_list (K := K) (a := pw) (xs := acc)) mRB (fun _ => true) (fun _ => false) d2 st.gh (by omega) (fun G' H' s => SqL.of (s.hh pw _ hw)) ?_ ?_
    · rintro j G3 H3 y H4' hj st3 ⟨rfl, hy⟩ N0 N1 _ k1
      obtain ⟨o, ho, ro⟩ := paired_get pa hy
      refine ⟨rfl, tyes ?_⟩
      refine ⟨_, rfl, G3, x, lot, rfl, st3.gh, m2.up (st3.gS st.gh) ex', hLne lot hlotm, hlw, fun v G4 H4' st4 r4 => ?_⟩
      refine ⟨_, rfl, _, _, totalF lot, o, rfl, m1.up st4.gh r4, m1.up (((st3.gS st.gh).trans (st4.gS st3.gh)).trans st4.gh) ro, ?_, fun H5' s5 => k1 rfl _ G4 H5' (st4.trans (Step.of_same st4.gh s5)) ?_⟩
      · obtain ⟨o1, l1, rfl⟩ : ∃ o l, lot = o :: l := (match lot, hLne lot hlotm with | o :: l, _ => ⟨o, l, rfl⟩)
        have h1 := total_len l1 o1
        have h2 := hlw o1 List.mem_cons_self
        exact Nat.le_trans h1 (by omega)
      · refine congrArg V.bl ?_
        have e : lotsF cs n = L.take i ++ lot :: L.drop (i + 1) := by
          rw [hL]
          have hiL : i < L.length := (List.getElem?_eq_some_iff.mp hlot).1
          have : L[i] = lot := (List.getElem?_eq_some_iff.mp hlot).2
          rw [← this, ← List.drop_eq_getElem_cons hiL, List.take_append_drop]
        exact total_apart e o (List.mem_of_getElem? ho)
    intro G3 H3 st3 r3
    obtain ⟨b3, e3', g3⟩ := rb_at r3
    have hno : ((((List.range acc.length).filter fun _ => true).map fun _ => false).any id) = false := by
      rw [List.any_map, List.any_eq_false]
      intro z _
      simp
    refine ⟨b3, _, by rw [e3'], SqL.of (st3.gh b3 _ g3), _, rfl, ite2 (fun t => absurd t (by rw [hno]; decide)) (fun _ => ?_)⟩
    -- whole.extend(lot)
    obtain ⟨bl, us, rfl, gl, pu⟩ := id ex'
    have hw3 := st3.hh pw _ hw
    have gw3 := st3.out hw gw
    have s3 := st3.gS st.gh
    refine ⟨.ref pw, rfl, .inl ⟨rfl, _, SqL.of hw3⟩, _, rfl, pw, bl, acc, us, rfl, rfl, hw3, st3.gh bl _ (s3 bl _ gl), ?_, ?_⟩
    · rw [lacc, paired_len pu]
      exact sz (by omega)
    refine ⟨G3, acc ++ us, _, rfl, (st.trans st3).set nw gw3 _, gw3, upd_same, ?_⟩
    rw [List.take_add_one, hlot, List.flatten_append]
    refine paired_append (Paired.imp' pa fun _ _ h => m1.up s3 h) ?_
    show Paired (R1 G3) us [lot].flatten
    rw [List.flatten_cons, List.flatten_nil, List.append_nil]
    exact Paired.imp' pu fun _ _ h => m1.up s3 h
  rintro σ H10 ⟨Gt, acc, y7, rfl, st, gw, hw, pa⟩
  rw [List.take_of_length_le (by omega)] at pa
  have st' := st.seal nw gw hw
  -- if sorted(whole) != ways(counts, many)
  refine ⟨_, rfl, pw, acc, L.flatten, R1 Gt, rfl, SqL.of hw, pa, fun v k h => dp1.dp (m1.up st.gh h), fun ys p11 pm ps n11 => ?_⟩
  rw [sort1, ← hL, lots_whole] at ps
  have st11 := Step.make st.gh n11 (.lst ys)
  have rYs : R2' (upd Gt p11 (.lst ys)) (.ref p11) (waysF cs n) := ⟨p11, ys, rfl, upd_same, Paired.imp' ps fun _ _ h => m1.up (st11.gS st.gh) h⟩
  have s6a : Same H6 _ := (st69.hh.trans st.hh).trans st11.hh
  refine ⟨_, rfl, _, rfl, _, p1, cs, n, rfl, pre4.up (s6a p1 _ e6) st11.gh, fun v12 G12 H12 st12 r12 => ?_⟩
  refine ⟨dD (waysF cs n), dD (waysF cs n), dp2.dp (m2.up (st11.gh.trans st12.hh) rYs), dp2.dp (m2.up st12.gh r12), sh2 _, sh2 _, _, rfl, ite2 (fun t => absurd t (by rw [eqv_self]; decide)) (fun _ => ?_)⟩
  have s6b : Same H6 H12 := s6a.trans st12.hh
  -- if (many in turning_counts(counts)) != (len(due) > 1)
  refine ⟨_, rfl, _, rfl, p1, cs, rfl, s6b p1 _ e6, hne, hp, fun c hc => (hc9 c hc).2, hl4, fun p13 H13 T' n13 s13 e13 ht => ?_⟩
  refine ⟨p13, _, rfl, .inl (SqL.of e13), rfl, flat_iv T', ?_⟩
  have s6c : Same H6 H13 := s6b.trans s13
  refine ⟨_, rfl, pD, vD, rfl, .inl (SqL.of (s6c pD _ (st6.gh pD _ gD))), (vD.length : Int), 1, rfl, rfl, rfl, _, rfl, ite2 (fun t => absurd t ?_) (fun _ => ?_)⟩
  · have e : V.bl (inV (iv n) (T'.map iv)) = V.bl (decide ((1 : Int) < (vD.length : Int))) := by
      rw [inV_iv]
      refine congrArg V.bl (decide_eq_decide.mpr ?_)
      rw [ht n, hL, lvD]
      omega
    show ¬ (!decide (V.bl (inV (iv n) (T'.map iv)) = V.bl (decide ((1 : Int) < (vD.length : Int))))) = true
    rw [decide_eq_true e]
    decide
  -- if lots_of_ways(counts[::-1], many) != sorted(..)
  have gh13 : Same G12 H13 := st12.gh.trans s13
  refine ⟨_, rfl, p1, _, rfl, SqL.of (s6c p1 _ e6), fun p14 n14 => ?_⟩
  have st14 := Step.make gh13 n14 (.lst (cs.map iv).reverse)
  have preR : Pre (upd G12 p14 (.lst (cs.map iv).reverse)) (upd H13 p14 (.lst (cs.map iv).reverse)) p14 cs.reverse n := by
    refine ⟨st14.gh, .inl (by rw [upd_same, List.map_reverse]), by rw [List.length_reverse]; exact hl1, by rw [List.length_reverse]; exact hl4, fun c hc => hc9 c (List.mem_reverse.mp hc), ?_, pre4.le⟩
    obtain ⟨l, x, y, z⟩ := pre4.few
    exact ⟨l, x, fun c hc => y c (List.mem_reverse.mp hc), z⟩
  refine ⟨_, rfl, _, p14, cs.reverse, n, rfl, preR, fun v15 G15 H15 st15 r15 => ?_⟩
  have s6d : Same H6 H15 := (s6c.trans st14.hh).trans st15.hh
  have gD15 : Same G6 G15 := (((((st69.gS st6.gh).trans (st.gS st9.gh)).trans (st11.gS st.gh)).trans (st12.gS st11.gh)).trans (st14.gS gh13)).trans (st15.gS st14.gh)
  refine ⟨_, rfl, pD, rfl, ⟨_, SqL.of (s6d pD _ (st6.gh pD _ gD))⟩, ?_⟩
  refine fun D16 d16 => lcL (K := K) m2 m2 (fun _ => true) (fun lot => sortB lt1 (lot.map List.reverse)) d16 st15.gh (gD15 pD _ gD) (Paired.imp' pD' fun _ _ h => m2.up gD15 h) (by omega) (fun _ => rfl) ?_ ?_
  · intro x lot G16 H16 hx hlot st16 ex N0 N1 _ k1
    obtain ⟨bl, us, rfl, gl, pu⟩ := ex
    have hll := mem_flat hlot
    refine tyes ⟨_, rfl, bl, rfl, ⟨_, SqL.of (st16.gh bl _ gl)⟩, ?_⟩
    refine fun D17 d17 => lcL (K := K) m1 m1 (fun _ => true) (fun o => o.reverse) d17 st16.gh gl pu (by omega) (fun _ => rfl) ?_ ?_
    · intro y o G17 H17 hy ho st17 ey N0' N1' _ k2
      obtain ⟨bo, rfl, go⟩ := r1_at ey
      exact tyes ⟨_, rfl, bo, _, rfl, SqL.of (st17.gh bo _ go), fun p18 n18 => k2 rfl (.ref p18) _ _ (Step.make st17.gh n18 _) (r1_of (by rw [upd_same, List.map_reverse]))⟩
    · intro G17 H17 st17 r17
      rw [List.filter_eq_self.mpr (fun _ _ => rfl)] at r17
      obtain ⟨_, zs, ez, gz, pz⟩ := r17
      cases ez
      refine ⟨D17, zs, _, R1 G17, rfl, SqL.of (st17.gh D17 _ gz), pz, fun v k h => dp1.dp (m1.up st17.gh h), fun ys p19 pm ps n19 => ?_⟩
      rw [sort1] at ps
      have st19 := Step.make st17.gh n19 (.lst ys)
      exact k1 rfl (.ref p19) _ _ (st17.trans st19) ⟨p19, ys, rfl, upd_same, Paired.imp' ps fun _ _ h => m1.up (st19.gS st17.gh) h⟩
  intro G16 H16 st16 r16
  rw [List.filter_eq_self.mpr (fun _ _ => rfl)] at r16
  obtain ⟨_, zs, ez, gz, pz⟩ := r16
  cases ez
  refine ⟨D16, zs, _, R2' G16, rfl, SqL.of (st16.gh D16 _ gz), pz, fun v k h => dp2.dp (m2.up st16.gh h), fun ys2 p20 pm2 ps2 n20 => ?_⟩
  rw [sort2, ← hL, lots_turned hp n] at ps2
  have st20 := Step.make st16.gh n20 (.lst ys2)
  have r20 : R3 (upd G16 p20 (.lst ys2)) (.ref p20) (lotsF cs.reverse n) := ⟨p20, ys2, rfl, upd_same, Paired.imp' ps2 fun _ _ h => m2.up (st20.gS st16.gh) h⟩
  refine ⟨dD (lotsF cs.reverse n), dD (lotsF cs.reverse n), dp3.dp (m3.up (st15.gh.trans (st16.hh.trans st20.hh)) (r3_of r15)), dp3.dp (m3.up st20.gh r20), sh3 _, sh3 _, _, rfl, ite2 (fun t => absurd t (by rw [eqv_self]; decide)) (fun _ => ?_)⟩
  -- for lot in told: lot.append(None)
  have s7e : Same H7 (upd H16 p20 (.lst ys2)) := (((((((st8.trans st9).hh.trans st.hh).trans st11.hh).trans st12.hh).trans s13).trans st14.hh).trans st15.hh).trans (st16.hh.trans st20.hh)
  refine ⟨_, rfl, pT, rfl, ⟨_, SqL.of (s7e pT _ (st7.gh pT _ gT))⟩, ?_⟩
  refine for_list (xs := vT) (fun i σ H' => ∃ y7 : Option V, σ = [some (.ref a), some (.ref p1), some (iv n), some (.ref pS), some (.ref pD), some (.ref pT), some (.ref pw), y7, none, none] ∧ Same H6 H' ∧ H' pT = some (.lst vT) ∧ ∀ q, V.ref q ∈ vT → ∃ xs, H' q = some (.lst xs) ∧ xs.length ≤ 400 + i) ?_ ?_ ?_ ?_
  · refine ⟨_, rfl, st7.hh.trans s7e, s7e pT _ (st7.gh pT _ gT), fun q hq => ?_⟩
    obtain ⟨l, hl, ⟨b, us, e, gb, pu⟩, _⟩ := paired_mem pT' hq
    cases e
    refine ⟨us, s7e q _ (st7.gh q _ gb), ?_⟩
    have := mem_flat hl
    rw [paired_len pu]
    omega
  · rintro i σ H' _ ⟨y7, _, _, hT, _⟩
    exact SqL.of hT
  · rintro i x σ H' hx ⟨y7', rfl, s6, hT, hq⟩
    have hxm := List.mem_of_getElem? hx
    have hiv : i < vT.length := (List.getElem?_eq_some_iff.mp hx).1
    obtain ⟨l, hl, _, q0, rfl, nq⟩ := paired_mem pT' hxm
    obtain ⟨xs, hxs, lxs⟩ := hq q0 hxm
    have ne : q0 ≠ pT := not_self gT pT' hLne (fun l hl o ho z => by
      have := ((mem_waysF hp).mp (hLw l hl o ho)).1
      rw [z] at this
      simp at this
      omega) hxm
    refine ⟨_, rfl, .inl ⟨rfl, _, SqL.of hxs⟩, q0, xs, _, rfl, rfl, hxs, szl (by omega), _, rfl, ?_, ?_, fun q1 hq1 => ?_⟩
    · intro b o e
      rw [upd_ne (ne_of_none e nq)]
      exact s6 b o e
    · rw [upd_ne ne.symm]
      exact hT
    · by_cases e : q1 = q0
      · subst e
        exact ⟨_, upd_same, by rw [List.length_append]; show xs.length + 1 ≤ _; omega⟩
      · rw [upd_ne e]
        obtain ⟨xs1, h1, h2⟩ := hq q1 hq1
        exact ⟨xs1, h1, by omega⟩
  rintro σ H21 ⟨y7', rfl, s21, _, _⟩
  have gh21 : Same G6 H21 := st6.gh.trans s21
  -- return ..
  refine ⟨_, rfl, _, rfl, G6, p1, cs, n, rfl, pre4.up (s21 p1 _ e6) gh21, fun v22 G22 H22 st22 r22 => ?_⟩
  rw [hL] at r22
  refine ⟨_, rfl, dD L, dD L, dp3.dp (m3.up st22.gh (r3_of r22)), dp3.dp (m3.up (gh21.trans st22.hh) r6'), sh3 L, sh3 L, true, congrArg V.bl eL, iteT ?_⟩
  have e22 := st22.hh p1 _ (s21 p1 _ e6)
  have pre0 : Pre G22 H22 p1 cs 0 := ⟨st22.gh, .inl e22, hl1, hl4, hc9, by
    obtain ⟨l, x, y, _⟩ := pre4.few
    exact ⟨l, x, y, by rw [Nat.zero_div]; exact Nat.zero_le 5⟩, by omega⟩
  refine ⟨_, rfl, G22, p1, cs, 0, rfl, pre0, fun v23 G23 H23 st23 r23 => ?_⟩
  rw [lotsF_zero] at r23
  have e23 := st23.hh p1 _ e22
  refine ⟨by show 1 ≤ sizeLine; decide, fun p24 n24 => ?_⟩
  have st24 := Step.aside st23.gh n24 (.lst [.int 0])
  have lcs : (cs.map iv).length = cs.length := List.length_map _
  refine ⟨_, rfl, p1, _, rfl, .inl (SqL.of (st24.hh p1 _ e23)), p24, _, [.int 0], rfl, rfl, upd_same, by omega, by omega, ?_, fun p25 n25 => ?_⟩
  · rw [Int.toNat_natCast]
    exact sz (by show 1 * _ ≤ 100000; omega)
  have erep : (List.replicate ((cs.map iv).length : Int).toNat [V.int 0]).flatten = (List.replicate cs.length 0).map iv := by
    rw [Int.toNat_natCast, lcs, List.map_replicate]
    generalize cs.length = k
    induction k with
    | zero => rfl
    | succ k ih => rw [List.replicate_succ, List.replicate_succ, List.flatten_cons, ih]; rfl
  have st25 := Step.make st24.gh n25 (.lst (List.replicate ((cs.map iv).length : Int).toNat [V.int 0]).flatten)
  refine ⟨by show 1 ≤ sizeLine; decide, fun p26 n26 => ⟨by show 1 ≤ sizeLine; decide, fun p27 n27 => ?_⟩⟩
  have st26 := Step.make st25.gh n26 (.lst [.ref p25])
  have st27 := Step.make st26.gh n27 (.lst [.ref p26])
  have x25 : R1 (upd G23 p25 (.lst (List.replicate ((cs.map iv).length : Int).toNat [V.int 0]).flatten)) (.ref p25) (List.replicate cs.length 0) := r1_of (by rw [upd_same, erep])
  have x26 : R2' _ (.ref p26) [List.replicate cs.length 0] := ⟨p26, [.ref p25], rfl, upd_same, paired_one (m1.up (st26.gS st25.gh) x25)⟩
  have x27 : R3 _ (.ref p27) [[List.replicate cs.length 0]] := ⟨p27, [.ref p26], rfl, upd_same, paired_one (m2.up (st27.gS st26.gh) x26)⟩
  have stE := st24.trans (st25.trans (st26.trans st27))
  refine ⟨dD [[List.replicate cs.length 0]], dD [[List.replicate cs.length 0]], dp3.dp (m3.up (st23.gh.trans stE.hh) (r3_of r23)), dp3.dp (m3.up st27.gh x27), sh3 _, sh3 _, ?_⟩
  rw [eqv_self]
  exact q _ (bH4.trans (.of_same ((st46.hh.trans s21).trans ((st22.hh.trans st23.hh).trans stE.hh))))
end
end K25
namespace K25
open PySem PySem.Spec PyProof.Rows L2
section
variable {P : Program} {w : World} {K : PySem.W.Frag} {mg : Str → Option Value} {base : Heap}
def spLaw (K : PySem.W.Frag) : Sp := fun vs H Q _ => ∃ (a : Addr) (ns : List Int), vs = [.ref a] ∧ SqL K H a (ns.map V.int) ∧ ns.length ≤ 63 ∧ ∀ H', Q (.bl true) H'
theorem ok_law {f0 : Addr} {fd0 : FuncData} (F0 : Fun K "law" "law" sLaw f0 fd0) (T : Txt mg) (c_law_pot : Cal P w K mg base 1 "_law_pot" (spPot K)) (c_law_right : Cal P w K mg base 9 "_law_right" spRight) : FnOk P w K mg base CX0 10 f0 fd0 ["_law_script"] (spLaw K) := by
  refine F0.ok scLaw (fun vs H Q E h => ?_) (fun cdv A outer s H vs Q E hr h => ?_)
  · obtain ⟨a, ns, rfl, _⟩ := h; rfl
  obtain ⟨a, ns, rfl, hS, h63, q⟩ := h
  refine ⟨_, (pss_one (ps_ret (pe_callB (cr_allK (K := K) rfl rfl) (by rfl) T.all_ (by decide +kernel) (pa_cons (pe_lc (own := [(("_law_k" : Str), 1)]) rfl scLaw.nd (pi_range1 (by rfl) T.range_ (pa_cons (pe_callB (call_max2 rfl) (by rfl) T.max_ (by decide +kernel) (pa_cons pe_int (pa_cons (pe_callB (call_min2 rfl) (by rfl) T.min_ (by decide +kernel) (pa_cons pe_int (pa_cons (pe_callB (call_lenK (K := K) rfl) (by rfl) T.len_ (by decide +kernel) (pa_cons (pv 0) pa_nil)) pa_nil))) pa_nil))) pa_nil)) (blkOk_by (N := [("_law_script" : Str), ("_law_k" : Str)]) (sc := defScope sLaw) (own := [(("_law_k" : Str), 1)]) (by decide +kernel)) (fun _ _ _ _ _ => (pg_name (i := 1) scLaw.nd rfl (Or.inl rfl))) (fun _ _ _ _ _ => pts_nil) (fun _ _ _ _ _ => (pe_c c_law_right hr (by decide) (by rfl) (pa_cons (pe_c c_law_pot hr (by decide) (by rfl) (pa_cons (pv 0) (pa_cons (pv 1) pa_nil))) pa_nil)))) pa_nil)))), ?_⟩
  obtain ⟨z, hz, z1, z2⟩ : ∃ z : Int, z = (if (if ((ns.map V.int).length : Int) < 2 then ((ns.map V.int).length : Int) else 2) > 1 then (if ((ns.map V.int).length : Int) < 2 then ((ns.map V.int).length : Int) else 2) else 1) ∧ 1 ≤ z ∧ z ≤ 2 := ⟨_, rfl, by split <;> omega, by split <;> (try split) <;> omega⟩
  refine ⟨_, rfl, a, _, rfl, .inl hS, 2, _, rfl, 1, _, rfl, z, congrArg (fun y => [V.int y]) hz.symm, by omega, by omega, ?_⟩
  refine fun D1 d1 => lcR mRB (fun _ => true) (fun _ => true) d1 (Same.refl H) (by omega) (fun _ => rfl) ?_ ?_
  · intro i G1 H1 hi st N0 N1 _ k1
    have ei : (0 : Int) + (i : Int) = (i : Int) := Int.zero_add _
    rw [ei]
    refine tyes ⟨_, rfl, _, rfl, a, ns, i, rfl, st.hh.seq hS, by omega, fun p H2 np s2 pp => ?_⟩
    refine ⟨p, rfl, pp, fun H3 b3 => ?_⟩
    have s3 : Same H1 H3 := fun b o e => b3 b o (ne_of_none e np) (s2 b o e)
    exact k1 rfl _ G1 H3 (Step.of_same st.gh s3) rfl
  · intro G1 H1 st r
    obtain ⟨b, e, gb⟩ := rb_at r
    refine ⟨b, _, by rw [e], SqL.of (st.gh b _ gb), ?_⟩
    rw [List.filter_eq_self.mpr (fun _ _ => rfl), all_true]
    exact q H1

/-! ### all defs together -/
structure Dfs (K : PySem.W.Frag) (mg : Str → Option Value) : Prop where
  d_is_integer : Df K mg "is_integer" sIsInteger
  d_is_count : Df K mg "is_count" sIsCount
  d_is_list : Df K mg "is_list" sIsList
  d_want_at_most : Df K mg "want_at_most" sWantAtMost
  d_want_counts : Df K mg "want_counts" sWantCounts
  d_want_many : Df K mg "want_many" sWantMany
  d_common_of : Df K mg "common_of" sCommonOf
  d_met_marks : Df K mg "met_marks" sMetMarks
  d_gaps_of : Df K mg "gaps_of" sGapsOf
  d_many_ways : Df K mg "many_ways" sManyWays
  d_ways_from : Df K mg "ways_from" sWaysFrom
  d_ways_of : Df K mg "ways_of" sWaysOf
  d_are_neighbours : Df K mg "are_neighbours" sAreNeighbours
  d_lots_among : Df K mg "lots_among" sLotsAmong
  d_many_lots : Df K mg "many_lots" sManyLots
  d_turning_of : Df K mg "turning_of" sTurningOf
  d_told_ways : Df K mg "told_ways" sToldWays
  d_ways : Df K mg "ways" sWays
  d_lots_of_ways : Df K mg "lots_of_ways" sLotsOfWays
  d_turning_counts : Df K mg "turning_counts" sTurningCounts
  d_law_pot : Df K mg "_law_pot" sLawPot
  d_law_draw : Df K mg "_law_draw" sLawDraw
  d_law_ways : Df K mg "_law_ways" sLawWays
  d_law_meet : Df K mg "_law_meet" sLawMeet
  d_law_lots : Df K mg "_law_lots" sLawLots
  d_law_counts : Df K mg "_law_counts" sLawCounts
  d_law_total : Df K mg "_law_total" sLawTotal
  d_law_right : Df K mg "_law_right" sLawRight
  d_law : Df K mg "law" sLaw
theorem all_ok {f0 : Addr} {fd0 : FuncData} (F0 : Fun K "law" "law" sLaw f0 fd0) (D : Dfs K mg) (T : Txt mg) : FnOk P w K mg base CX0 10 f0 fd0 ["_law_script"] (spLaw K) := by
  have c1 : Cal P w K mg base 1 "is_integer" spIsInteger := ok_is_integer D.d_is_integer T
  have c2 : Cal P w K mg base 2 "is_count" spIsCount := ok_is_count D.d_is_count T c1
  have c3 : Cal P w K mg base 1 "is_list" spIsList := ok_is_list D.d_is_list T
  have c4 : Cal P w K mg base 1 "want_at_most" spAtMost := ok_want_at_most D.d_want_at_most
  have c5 : Cal P w K mg base 3 "want_counts" spWantCounts := ok_want_counts D.d_want_counts T c2 c3
  have c6 : Cal P w K mg base 3 "want_many" spWantMany := ok_want_many D.d_want_many c2
  have c7 : Cal P w K mg base 1 "common_of" spCommon := ok_common_of D.d_common_of T
  have c8 : Cal P w K mg base 1 "met_marks" spMarks := ok_met_marks D.d_met_marks T
  have c9 : Cal P w K mg base 2 "gaps_of" spGaps := ok_gaps_of D.d_gaps_of T c7
  have c10 : Cal P w K mg base 1 "many_ways" spManyWays := ok_many_ways D.d_many_ways T
  have c11 : Cal P w K mg base 5 "ways_from" (spWaysFrom 5) := ok_ways_from D.d_ways_from T 5
  have c12 : Cal P w K mg base 6 "ways_of" spWaysOf := ok_ways_of D.d_ways_of T c11 c8
  have c13 : Cal P w K mg base 1 "are_neighbours" spNbr := ok_are_neighbours D.d_are_neighbours T
  have c14 : Cal P w K mg base 2 "lots_among" spLots := ok_lots_among D.d_lots_among T c13
  have c15 : Cal P w K mg base 1 "many_lots" spManyLots := ok_many_lots D.d_many_lots T
  have c16 : Cal P w K mg base 3 "turning_of" spTurning := ok_turning_of D.d_turning_of T c9 c7 c8 c15
  have c17 : Cal P w K mg base 7 "told_ways" spTold := ok_told_ways D.d_told_ways T c5 c6 c4 c10 c12
  have c18 : Cal P w K mg base 8 "ways" spTold := ok_ways D.d_ways c17
  have c19 := ok_lots_of_ways (P := P) (w := w) (base := base) D.d_lots_of_ways c17 c14
  have c20 : Cal P w K mg base 4 "turning_counts" spTurning := ok_turning_counts D.d_turning_counts T c5 c4 c16
  have c21 : Cal P w K mg base 1 "_law_pot" (spPot K) := ok_law_pot D.d_law_pot T
  have c22 : Cal P w K mg base 1 "_law_draw" spDraw := ok_law_draw D.d_law_draw T
  have c23 : Cal P w K mg base 5 "_law_ways" (spLawWays 5) := ok_law_ways D.d_law_ways T 5
  have c24 : Cal P w K mg base 1 "_law_meet" spNbr := ok_law_meet D.d_law_meet T
  have c25 : Cal P w K mg base 2 "_law_lots" spLots := ok_law_lots D.d_law_lots T c24
  have c26 : Cal P w K mg base 2 "_law_counts" spLCounts := ok_law_counts D.d_law_counts T c22
  have c27 : Cal P w K mg base 1 "_law_total" spTotal := ok_law_total D.d_law_total T
  have c28 : Cal P w K mg base 9 "_law_right" spRight := ok_law_right D.d_law_right T c26 c22 c23 c25 c19.1 c19.2 c24 c27 c18 c20
  exact ok_law F0 T c21 c28
theorem df_mk {h : Heap} {x : Str} {st : Stmt} {f : Addr} {od an : Option Addr} {sl : Array (Option Value)} {oc kV dc pm cd ct : Value} (X : K.In h) (G : h.Ns mainGlobals mg)
    (a : PySem.W.nsIn K mainGlobals x = some (some (.ref f))) (l : K.lookup f = some ⟨oc, od, .func (PySem.W.fnOf x x (defArgs st) (defBody st) (defScope st) .none kV dc pm an cd ct), sl⟩) (c : PySem.W.codeIn K cd x = true) (k : PySem.W.keepIn K (.ref f) = true) : Df K mg x st :=
  ⟨f, _, fun_mk l c k, PySem.W.mg_of X G a⟩
theorem const_mk {h : Heap} {x : Str} {i : Int} {t : Tok} (X : K.In h) (G : h.Ns mainGlobals mg) (a : PySem.W.nsIn K mainGlobals x = some (some (.int i t))) : ∃ u, mg x = some u ∧ RelV (.int i) u :=
  ⟨_, PySem.W.mg_of X G a, t, rfl⟩
end
/-- the law's def at the end -/
theorem law_at {l : PySem.W.OpenLaw} {w : World} {K : PySem.W.Frag} {mg : Str → Option Value} {fa : Addr} (hfa : mg "law" = some (.ref fa)) (D : Dfs K mg) (T : Txt mg) :
    ∃ fd : FuncData, (∀ (s : Shared) (v : Value), BindsTo s fd ⟨[v], []⟩ [("_law_script", v)]) ∧ ∀ base : Heap, K.In base → base.Ns mainGlobals mg → FnOk l.prog w K mg base CX0 10 fa fd ["_law_script"] (spLaw K) := by
  obtain ⟨f0, fd0, F0, m0⟩ := D.d_law.ex
  have e0 : f0 = fa := by
    rw [hfa] at m0
    cases m0
    rfl
  subst e0
  refine ⟨fd0, fun s v => ?_, fun base _ _ => ?_⟩
  · obtain ⟨oc, od, kV, doc, pm, an, cdv, ct, osl, rfl, lk, hcd⟩ := F0.ex
    exact .of_eq rfl
  · exact all_ok (P := l.prog) (w := w) (base := base) F0 D T
theorem walk {l : PySem.W.OpenLaw} {q : Program} {loose : List Str} {XP : (Str → Option Value) → Heap → Prop} {YP : World → Heap → Prop} {d : DefRec} {K : Params → PySem.W.Frag} (hn : l.most = some 63) (hdf : d.params.defaults = [])
    (hY : ∀ (w : World) (h : Heap), YP w h → (K w.params).In h)
    (F : ∀ (w : World) (mg : Str → Option Value) (fa : Addr) (h : Heap), (K w.params).In h → h.Ns mainGlobals mg → mg d.name = some (.ref fa) →
      ∃ fd : FuncData, (∀ (s : Shared) (u : Value), BindsTo s fd ⟨[u], []⟩ [("_law_script", u)]) ∧ ∀ base : Heap, (K w.params).In base → base.Ns mainGlobals mg → FnOk l.prog w (K w.params) mg base CX0 10 fa fd ["_law_script"] (spLaw (K w.params))) :
    PySem.W.WalkO q loose XP YP l.row.toRowW d [] (fun f vs => PySem.call f vs) :=
  L2.walk_of (n := 63) (k := 10) (x := "_law_script") (CX := fun _ => CX0) (sp := fun w => spLaw (K w.params)) hn (by decide) hdf ⟨rfl, by decide, by decide⟩ hY F (fun _ _ a ns hl _ hS => ⟨a, ns, rfl, hS, hl, fun _ => rfl⟩) fun _ _ _ _ _ z => z
end K25
end
open PySem PySem.W PyProof.Rows
set_option maxRecDepth 100000 in
set_option maxHeartbeats 0 in
theorem PySem.Challenge.cw_fromplaces_k25_whole_lots_of_ways_holds : PySem.Challenge.rw_fromplaces_k25_whole_lots_of_ways.Holds := by
  w_on; o_law; k_head; (case hw => w_witness2)
  k_fill
  refine K25.walk (l := PySem.Challenge.rw_fromplaces_k25_whole_lots_of_ways) rfl rfl (fun w h Y => PySem.W.kIn_of Y) ?F
  case F =>
    intro w mg fa h KX G hmg
    have D0 := K25.df_mk (x := "is_integer") (st := K25.sIsInteger) KX G (by k_is) (by k_is) (by k_is) (by k_is)
    have D1 := K25.df_mk (x := "is_count") (st := K25.sIsCount) KX G (by k_is) (by k_is) (by k_is) (by k_is)
    have D2 := K25.df_mk (x := "is_list") (st := K25.sIsList) KX G (by k_is) (by k_is) (by k_is) (by k_is)
    have D3 := K25.df_mk (x := "want_at_most") (st := K25.sWantAtMost) KX G (by k_is) (by k_is) (by k_is) (by k_is)
    have D4 := K25.df_mk (x := "want_counts") (st := K25.sWantCounts) KX G (by k_is) (by k_is) (by k_is) (by k_is)
    have D5 := K25.df_mk (x := "want_many") (st := K25.sWantMany) KX G (by k_is) (by k_is) (by k_is) (by k_is)
    have D6 := K25.df_mk (x := "common_of") (st := K25.sCommonOf) KX G (by k_is) (by k_is) (by k_is) (by k_is)
    have D7 := K25.df_mk (x := "met_marks") (st := K25.sMetMarks) KX G (by k_is) (by k_is) (by k_is) (by k_is)
    have D8 := K25.df_mk (x := "gaps_of") (st := K25.sGapsOf) KX G (by k_is) (by k_is) (by k_is) (by k_is)
    have D9 := K25.df_mk (x := "many_ways") (st := K25.sManyWays) KX G (by k_is) (by k_is) (by k_is) (by k_is)
    have D10 := K25.df_mk (x := "ways_from") (st := K25.sWaysFrom) KX G (by k_is) (by k_is) (by k_is) (by k_is)
    have D11 := K25.df_mk (x := "ways_of") (st := K25.sWaysOf) KX G (by k_is) (by k_is) (by k_is) (by k_is)
    have D12 := K25.df_mk (x := "are_neighbours") (st := K25.sAreNeighbours) KX G (by k_is) (by k_is) (by k_is) (by k_is)
    have D13 := K25.df_mk (x := "lots_among") (st := K25.sLotsAmong) KX G (by k_is) (by k_is) (by k_is) (by k_is)
    have D14 := K25.df_mk (x := "many_lots") (st := K25.sManyLots) KX G (by k_is) (by k_is) (by k_is) (by k_is)
    have D15 := K25.df_mk (x := "turning_of") (st := K25.sTurningOf) KX G (by k_is) (by k_is) (by k_is) (by k_is)
    have D16 := K25.df_mk (x := "told_ways") (st := K25.sToldWays) KX G (by k_is) (by k_is) (by k_is) (by k_is)
    have D17 := K25.df_mk (x := "ways") (st := K25.sWays) KX G (by k_is) (by k_is) (by k_is) (by k_is)
    have D18 := K25.df_mk (x := "lots_of_ways") (st := K25.sLotsOfWays) KX G (by k_is) (by k_is) (by k_is) (by k_is)
    have D19 := K25.df_mk (x := "turning_counts") (st := K25.sTurningCounts) KX G (by k_is) (by k_is) (by k_is) (by k_is)
    have D20 := K25.df_mk (x := "_law_pot") (st := K25.sLawPot) KX G (by k_is) (by k_is) (by k_is) (by k_is)
    have D21 := K25.df_mk (x := "_law_draw") (st := K25.sLawDraw) KX G (by k_is) (by k_is) (by k_is) (by k_is)
    have D22 := K25.df_mk (x := "_law_ways") (st := K25.sLawWays) KX G (by k_is) (by k_is) (by k_is) (by k_is)
    have D23 := K25.df_mk (x := "_law_meet") (st := K25.sLawMeet) KX G (by k_is) (by k_is) (by k_is) (by k_is)
    have D24 := K25.df_mk (x := "_law_lots") (st := K25.sLawLots) KX G (by k_is) (by k_is) (by k_is) (by k_is)
    have D25 := K25.df_mk (x := "_law_counts") (st := K25.sLawCounts) KX G (by k_is) (by k_is) (by k_is) (by k_is)
    have D26 := K25.df_mk (x := "_law_total") (st := K25.sLawTotal) KX G (by k_is) (by k_is) (by k_is) (by k_is)
    have D27 := K25.df_mk (x := "_law_right") (st := K25.sLawRight) KX G (by k_is) (by k_is) (by k_is) (by k_is)
    have D28 := K25.df_mk (x := "law") (st := K25.sLaw) KX G (by k_is) (by k_is) (by k_is) (by k_is)
    have D : K25.Dfs _ mg := ⟨D0, D1, D2, D3, D4, D5, D6, D7, D8, D9, D10, D11, D12, D13, D14, D15, D16, D17, D18, D19, D20, D21, D22, D23, D24, D25, D26, D27, D28⟩
    have t0 : mg "int" = none := PySem.W.mg_none_of KX G (by k_is)
    have t1 : mg "bool" = none := PySem.W.mg_none_of KX G (by k_is)
    have t2 : mg "list" = none := PySem.W.mg_none_of KX G (by k_is)
    have t3 : mg "tuple" = none := PySem.W.mg_none_of KX G (by k_is)
    have t4 : mg "isinstance" = none := PySem.W.mg_none_of KX G (by k_is)
    have t5 : mg "len" = none := PySem.W.mg_none_of KX G (by k_is)
    have t6 : mg "any" = none := PySem.W.mg_none_of KX G (by k_is)
    have t7 : mg "all" = none := PySem.W.mg_none_of KX G (by k_is)
    have t8 : mg "range" = none := PySem.W.mg_none_of KX G (by k_is)
    have t9 : mg "zip" = none := PySem.W.mg_none_of KX G (by k_is)
    have t10 : mg "enumerate" = none := PySem.W.mg_none_of KX G (by k_is)
    have t11 : mg "sorted" = none := PySem.W.mg_none_of KX G (by k_is)
    have t12 : mg "sum" = none := PySem.W.mg_none_of KX G (by k_is)
    have t13 : mg "min" = none := PySem.W.mg_none_of KX G (by k_is)
    have t14 : mg "max" = none := PySem.W.mg_none_of KX G (by k_is)
    have t15 : mg "abs" = none := PySem.W.mg_none_of KX G (by k_is)
    have t16 : mg "divmod" = none := PySem.W.mg_none_of KX G (by k_is)
    have tg : mg "gcd" = some (.builtin "math.gcd") := PySem.W.mg_of KX G (by k_is)
    have u0 : ∃ u, mg "MOST_COUNTS" = some u ∧ L2.RelV (.int 8) u := K25.const_mk KX G (by k_is)
    have u1 : ∃ u, mg "MOST_COUNT" = some u ∧ L2.RelV (.int 48) u := K25.const_mk KX G (by k_is)
    have u2 : ∃ u, mg "MOST_MANY" = some u ∧ L2.RelV (.int 200) u := K25.const_mk KX G (by k_is)
    have u3 : ∃ u, mg "MOST_WAYS" = some u ∧ L2.RelV (.int 400) u := K25.const_mk KX G (by k_is)
    have u4 : ∃ u, mg "MOST_TURNING" = some u ∧ L2.RelV (.int 24) u := K25.const_mk KX G (by k_is)
    have T : K25.Txt mg := ⟨t0, t1, t2, t3, t4, t5, t6, t7, t8, t9, t10, t11, t12, t13, t14, t15, t16, tg, u0, u1, u2, u3, u4⟩
    exact K25.law_at hmg D T
#print axioms PySem.Challenge.cw_fromplaces_k25_whole_lots_of_ways_holds
