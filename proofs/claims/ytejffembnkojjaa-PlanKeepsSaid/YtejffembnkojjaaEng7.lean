/- The engine, part 7: a region in whatever order, by an invariant of what has been done so far; one chain of operations with effects among others that only read. -/
import Derived.Test.YtejffembnkojjaaEng6
namespace Go.Eng
open Go Go.RowKit

/-- The last operation before number i that writes the slot t. -/
def srcOf (ops : Array Oper) : Nat → Nat → Option Nat
  | 0, _ => none
  | i + 1, t => match dstAt ops i with
    | some d => bif Nat.beq d t then some i else srcOf ops i t
    | none => srcOf ops i t
def slotOf (ops : Array Oper) (a0 : Act) (σ : Nat → Value) (i t : Nat) : Value :=
  match srcOf ops i t with
  | some j => σ j
  | none => a0.tmps.getD t undef
theorem srcOf_some {ops : Array Oper} : ∀ {i t j : Nat}, srcOf ops i t = some j → j < i ∧ dstAt ops j = some t ∧ ∀ k, j < k → k < i → dstAt ops k ≠ some t := by
  intro i
  induction i with
  | zero => intro t j h; simp [srcOf] at h
  | succ i ih =>
    intro t j h
    simp only [srcOf] at h
    have rec_ : srcOf ops i t = some j → dstAt ops i ≠ some t → j < i + 1 ∧ dstAt ops j = some t ∧ ∀ k, j < k → k < i + 1 → dstAt ops k ≠ some t := by
      intro h' hne
      obtain ⟨h1, h2, h3⟩ := ih h'
      exact ⟨by omega, h2, fun k hk hki => by
        rcases Nat.lt_or_ge k i with hlt | hge
        · exact h3 k hk hlt
        · have : k = i := by omega
          rw [this]; exact hne⟩
    cases hd : dstAt ops i with
    | none => rw [hd] at h; exact rec_ h (by rw [hd]; simp)
    | some d =>
      rw [hd] at h
      simp only at h
      cases hb : Nat.beq d t with
      | true =>
        rw [hb] at h
        simp at h
        subst h
        rw [Nat.beq_eq] at hb
        exact ⟨by omega, by rw [hd, hb], fun k hk hki => by omega⟩
      | false =>
        rw [hb] at h
        simp at h
        exact rec_ h (by rw [hd]; intro e; cases e; simp at hb)
theorem srcOf_none {ops : Array Oper} : ∀ {i t : Nat}, srcOf ops i t = none → ∀ k, k < i → dstAt ops k ≠ some t := by
  intro i
  induction i with
  | zero => intro t _ k hk; omega
  | succ i ih =>
    intro t h k hk
    simp only [srcOf] at h
    have rec_ : srcOf ops i t = none → dstAt ops i ≠ some t → dstAt ops k ≠ some t := by
      intro h' hne
      rcases Nat.lt_or_ge k i with hlt | hge
      · exact ih h' k hlt
      · have : k = i := by omega
        rw [this]; exact hne
    cases hd : dstAt ops i with
    | none => rw [hd] at h; exact rec_ h (by rw [hd]; simp)
    | some d =>
      rw [hd] at h
      simp only at h
      cases hb : Nat.beq d t with
      | true => rw [hb] at h; simp at h
      | false => rw [hb] at h; simp at h; exact rec_ h (by rw [hd]; intro e; cases e; simp at hb)

def updV (σ : Nat → Value) (i : Nat) (v : Value) : Nat → Value := fun k => if k = i then v else σ k
/-- What is asked of operation i: whatever has been done, all that must come before it among it. -/
def StepG (P : Program) (r : Option Nat) (ops : Array Oper) (m N : Nat) (a0 : Act) (G : (Nat → Bool) → (Nat → Value) → World → Prop) : Prop :=
  ∀ (S : Nat → Bool) (σ : Nat → Value) (a : Act) (w : World) (i : Nat) (o : Oper), i < m → ops[i]? = some o → S i = false → (∀ j, Anc ops j i → S j = true) → (∀ j k, S k = true → Anc ops j k → S j = true) → (∀ k, S k = true → k < m) →
    a.tmps.size = N → a.defers = a0.defers → G S σ w → (∀ t ∈ o.looksAt ops, a.tmps.getD t undef = slotOf ops a0 σ i t) → OpG P r ops o a w (fun v w' => G (fun k => S k || Nat.beq k i) (updV σ i v) w')
section
variable {P : Program} {r : Option Nat} {ops : Array Oper} {Q : Exit → Act → World → Prop} {N : Nat}
structure GInv (ops : Array Oper) (m : Nat) (a0 : Act) (G : (Nat → Bool) → (Nat → Value) → World → Prop) (N : Nat) (S : Array Bool) (σ : Nat → Value) (a : Act) (w : World) : Prop where
  ssz : S.size = ops.size
  low : ∀ i, S.getD i false = true → i < m
  closed : Closed ops S
  sz : a.tmps.size = N
  dfs : a.defers = a0.defers
  g : G (fun k => S.getD k false) σ w
  last : ∀ i d, S.getD i false = true → dstAt ops i = some d → (∀ k, i < k → S.getD k false = true → dstAt ops k ≠ some d) → a.tmps.getD d undef = σ i
  base : ∀ t, (∀ i, S.getD i false = true → dstAt ops i ≠ some t) → a.tmps.getD t undef = a0.tmps.getD t undef
theorem dstAt_oper {k : Nat} {d : Tmp} (h : dstAt ops k = some d) : ∃ y, ops[k]? = some y ∧ y.dst = some d := by
  unfold dstAt at h
  cases hy : ops[k]? with
  | none => rw [hy] at h; simp at h
  | some y => rw [hy] at h; exact ⟨y, rfl, by simpa using h⟩
theorem any_orderG {m : Nat} {a0 : Act} {G : (Nat → Bool) → (Nat → Value) → World → Prop} (hdst : dstOk ops N = true) (hord : ordOk ops m = true) (htail : tailOk ops m = true) (hedge : edgesOk ops = true) (hmn : m ≤ ops.size)
    (hstep : StepG P r ops m N a0 G)
    (hK : ∀ a' w' σ, a'.tmps.size = N → a'.defers = a0.defers → G (fun k => Nat.blt k m) σ w' → (∀ t, a'.tmps.getD t undef = slotOf ops a0 σ m t) → WI P r ops Q m a' w') (hG : ∀ S S' σ w, (∀ k, S k = S' k) → G S σ w → G S' σ w) :
    ∀ (fuel : Nat) (S : Array Bool) (σ : Nat → Value) (a : Act) (w : World), GInv ops m a0 G N S σ a w → S.toList.count false ≤ fuel → wpAnyIn (F0 r) 0 P .any ops Q fuel S a w := by
  have conf : ∀ {i j : Nat} {x y : Oper}, i < j → j < m → ops[i]? = some x → ops[j]? = some y → ((∃ d, x.dst = some d ∧ d ∈ y.looksAt ops) ∨ (∃ d, x.dst = some d ∧ y.dst = some d) ∨ (∃ d, y.dst = some d ∧ d ∈ x.looksAt ops)) → Anc ops i j := by
    intro i j x y hij hj hx hy hc
    rcases ordOk_spec hord hij hj hx hy with h | h
    · have hs := Oper.apart_spec h
      rcases hc with ⟨d, h1, h2⟩ | ⟨d, h1, h2⟩ | ⟨d, h1, h2⟩
      · exact absurd h2 (hs.1 d h1)
      · exact absurd h2 (hs.2.1 d h1)
      · exact absurd h2 (hs.2.2 d h1)
    · exact h
  have full : ∀ (S : Array Bool) (σ : Nat → Value) (a : Act) (w : World), GInv ops m a0 G N S σ a w → (∀ i, i < m → S.getD i false = true) → WI P r ops Q m a w := by
    intro S σ a w hI hall
    refine hK a w σ hI.sz hI.dfs (hG _ _ σ w (fun k => ?_) hI.g) ?_
    · by_cases hk : k < m
      · rw [hall k hk]; exact (Nat.blt_eq.mpr hk).symm
      · have h1 : S.getD k false = false := by
          cases hb : S.getD k false with
          | false => rfl
          | true => exact absurd (hI.low k hb) hk
        have h2 : Nat.blt k m = false := by
          cases hb : Nat.blt k m with
          | false => rfl
          | true => exact absurd (Nat.blt_eq.mp hb) hk
        rw [h1, h2]
    · intro t
      unfold slotOf
      cases hs : srcOf ops m t with
      | some j =>
        obtain ⟨h1, h2, h3⟩ := srcOf_some hs
        exact hI.last j t (hall j h1) h2 (fun k hk hSk => h3 k hk (hI.low k hSk))
      | none => exact hI.base t (fun i hi => srcOf_none hs i (hI.low i hi))
  intro fuel
  induction fuel with
  | zero =>
    intro S σ a w hI hcnt
    have hall : ∀ i, i < ops.size → S.getD i false = true := by
      intro i hi
      cases hb : S.getD i false with
      | true => rfl
      | false =>
        have hti : S.getD i true = false := by
          rw [Array.getD_eq_getD_getElem?] at hb ⊢
          rw [Array.getElem?_eq_getElem (by rw [hI.ssz]; exact hi)] at hb ⊢
          simpa using hb
        have := count_pos (getD_toList hti)
        omega
    have hmeq : m = ops.size := by
      rcases Nat.lt_or_ge m ops.size with h | h
      · have := hI.low m (hall m h); omega
      · omega
    have hW := full S σ a w hI (fun i hi => hall i (by omega))
    refine any_tail hedge htail 0 m S a w (Nat.le_refl _) hI.ssz hI.closed (fun i => ?_) (by omega) (by omega) hW
    exact ⟨fun h => ⟨hI.low i h, by have := hI.low i h; omega⟩, fun h => hall i h.2⟩
  | succ fuel ih =>
    intro S σ a w hI hcnt
    refine ⟨fun h0 => ?_, fun i hi => ?_⟩
    · have hall := all_listed hedge hI.ssz h0
      have hmeq : m = ops.size := by
        rcases Nat.lt_or_ge m ops.size with h | h
        · have := hI.low m (hall m h); omega
        · omega
      have hW := full S σ a w hI (fun i hi => hall i (by omega))
      rw [hmeq] at hW
      simpa [WI, wpOpsIn] using hW
    · obtain ⟨h0, o, ho, hedges⟩ := mem_ready.1 hi
      have hin : i < ops.size := (Array.getElem?_eq_some_iff.1 ho).1
      have hiS : S.getD i false = false := getD_false_of h0
      by_cases him : i < m
      · have hd : dstAt ops i = o.dst := by simp [dstAt, ho]
        have hlook : ∀ t ∈ o.looksAt ops, a.tmps.getD t undef = slotOf ops a0 σ i t := by
          intro t ht
          have later : ∀ k, i < k → S.getD k false = true → dstAt ops k ≠ some t := by
            intro k hk hSk hdk
            obtain ⟨y, hy, hyd⟩ := dstAt_oper hdk
            have := (conf hk (hI.low k hSk) ho hy (.inr (.inr ⟨t, hyd, ht⟩))).listed hI.closed hSk
            rw [hiS] at this; cases this
          unfold slotOf
          cases hs : srcOf ops i t with
          | some j =>
            obtain ⟨h1, h2, h3⟩ := srcOf_some hs
            obtain ⟨x, hx, hxd⟩ := dstAt_oper h2
            have hSj := (conf h1 him hx ho (.inl ⟨t, hxd, ht⟩)).ready hI.closed hi
            refine hI.last j t hSj h2 (fun k hk hSk => ?_)
            rcases Nat.lt_trichotomy k i with hki | hki | hki
            · exact h3 k hk hki
            · subst hki; rw [hiS] at hSk; cases hSk
            · exact later k hki hSk
          | none =>
            refine hI.base t (fun k hSk => ?_)
            rcases Nat.lt_trichotomy k i with hki | hki | hki
            · exact srcOf_none hs k hki
            · subst hki; rw [hiS] at hSk; cases hSk
            · exact later k hki hSk
        refine (hstep (fun k => S.getD k false) σ a w i o him ho hiS (fun j hj => hj.ready hI.closed hi) (fun j k hk hj => hj.listed hI.closed hk) (fun k hk => hI.low k hk) hI.sz hI.dfs hI.g hlook).wpOpIn ho ?_
        intro v w' hg
        refine ih _ (updV σ i v) _ _ ?_ ?_
        · refine ⟨by simp [hI.ssz], fun j hj => ?_, hI.closed.set hi, by rw [put_size]; exact hI.sz, by rw [put_defers]; exact hI.dfs, hG _ _ _ _ (fun k => ?_) hg, ?_, ?_⟩
          · by_cases hij : i = j
            · subst hij; exact him
            · rw [getD_set_ne false hij] at hj; exact hI.low j hj
          · by_cases hik : i = k
            · subst hik
              rw [getD_set_self (by rw [hI.ssz]; exact hin)]; simp
            · rw [getD_set_ne false hik]
              have : Nat.beq k i = false := by
                cases hb : Nat.beq k i with
                | false => rfl
                | true => rw [Nat.beq_eq] at hb; exact absurd hb.symm hik
              rw [this, Bool.or_false]
          · intro j d hSj hdj hlast
            by_cases hij : i = j
            · subst hij
              rw [hd] at hdj
              rw [hdj, put_same (by rw [hI.sz]; exact dstOk_spec hdst ho hdj)]
              simp [updV]
            · rw [getD_set_ne false hij] at hSj
              have hne : o.dst ≠ some d := by
                intro hod
                rcases Nat.lt_or_ge j i with hji | hji
                · exact hlast i hji (getD_set_self (by rw [hI.ssz]; exact hin)) (by rw [hd]; exact hod)
                · obtain ⟨y, hy, hyd⟩ := dstAt_oper hdj
                  have := (conf (show i < j by omega) (hI.low j hSj) ho hy (.inr (.inl ⟨d, hod, hyd⟩))).listed hI.closed hSj
                  rw [hiS] at this; cases this
              rw [put_other hne, hI.last j d hSj hdj (fun k hk hSk => hlast k hk (getD_set_true hSk))]
              simp [updV, Ne.symm hij]
          · intro t hnone
            have hne : o.dst ≠ some t := fun e => hnone i (getD_set_self (by rw [hI.ssz]; exact hin)) (by rw [hd]; exact e)
            rw [put_other hne]
            exact hI.base t (fun k hk => hnone k (getD_set_true hk))
        · have h1 := count_set S.toList i (getD_toList h0)
          have h2 : (S.setIfInBounds i true).toList = S.toList.set i true := by simp
          rw [h2]; omega
      · have hall : ∀ j, j < i → S.getD j false = true := fun j hj => (tailOk_spec htail (by omega) hin hj).ready hI.closed hi
        have him' : i = m := by
          rcases Nat.lt_or_ge m i with h | h
          · have := hI.low m (hall m h); omega
          · omega
        have hW := full S σ a w hI (fun j hj => hall j (by omega))
        have hSiff : ∀ j, S.getD j false = true ↔ j < m ∧ j < ops.size := fun j => ⟨fun h => ⟨hI.low j h, by have := hI.low j h; omega⟩, fun h => hall j (by omega)⟩
        have hle : ops.size ≤ m + (fuel + 1) := by
          have : ∀ (n k : Nat) (l : List Bool), l.length = n → (∀ j, k ≤ j → j < n → l[j]? = some false) → n ≤ k + l.count false := by
            intro n
            induction n with
            | zero => intro k l _ _; omega
            | succ n ihn =>
              intro k l hl hf
              cases l with
              | nil => simp at hl
              | cons b l =>
                cases k with
                | zero =>
                  have h0' := hf 0 (Nat.le_refl _) (by omega)
                  simp at h0'
                  subst h0'
                  have := ihn 0 l (by simpa using hl) (fun j _ hj => by simpa using hf (j + 1) (by omega) (by omega))
                  simp; omega
                | succ k =>
                  have := ihn k l (by simpa using hl) (fun j hj hjn => by simpa using hf (j + 1) (by omega) (by omega))
                  have hcl : l.count false ≤ (b :: l).count false := by cases b <;> simp
                  omega
          have := this ops.size m S.toList (by simpa using hI.ssz) (fun j hj hjn => by
            have hnot : ¬ S.getD j false = true := fun h => by have := hI.low j h; omega
            rw [Array.getElem?_toList]
            rw [Array.getD_eq_getD_getElem?, Array.getElem?_eq_getElem (by rw [hI.ssz]; exact hjn)] at hnot
            rw [Array.getElem?_eq_getElem (by rw [hI.ssz]; exact hjn)]
            simpa using hnot)
          omega
        exact (any_tail hedge htail (fuel + 1) m S a w (Nat.le_refl _) hI.ssz hI.closed hSiff hle hmn hW).2 i hi
theorem region_anyG {id m : Nat} {a : Act} {w : World} {G : (Nat → Bool) → (Nat → Value) → World → Prop} (hmo : P.follows .mixedOrders = true) (hdst : dstOk ops N = true) (hord : ordOk ops m = true) (htail : tailOk ops m = true)
    (hedge : edgesOk ops = true) (hmn : m ≤ ops.size) (hstep : StepG P r ops m N a G) (hN : a.tmps.size = N) (hG : ∀ S S' σ w, (∀ k, S k = S' k) → G S σ w → G S' σ w) (σ0 : Nat → Value) (h0 : G (fun _ => false) σ0 { w with drawn := w.drawn + 1 })
    (hK : ∀ a' w' σ, a'.tmps.size = N → a'.defers = a.defers → G (fun k => Nat.blt k m) σ w' → (∀ t, a'.tmps.getD t undef = slotOf ops a σ m t) → WI P r ops Q m a' w') : WP P r (.region id ops true) Q a w := by
  refine wpIn_region_any hmo ?_
  have hnone : ∀ i, (Array.replicate ops.size false).getD i false = false := by
    intro i
    cases hb : (Array.replicate ops.size false).getD i false with
    | false => rfl
    | true =>
      have := lt_of_getD_true hb
      simp at this
      simp [this] at hb
  have hno : ∀ i, ¬ (Array.replicate ops.size false).getD i false = true := fun i h => by rw [hnone i] at h; cases h
  refine any_orderG hdst hord htail hedge hmn hstep hK hG ops.size _ σ0 a _ ⟨by simp, fun i h => absurd h (hno i), fun i o e h => absurd h (hno i), hN, rfl, hG _ _ _ _ (fun k => (hnone k).symm) h0, fun i d h => absurd h (hno i), fun t _ => rfl⟩ ?_
  refine Nat.le_trans List.count_le_length ?_
  simp
end
end Go.Eng
