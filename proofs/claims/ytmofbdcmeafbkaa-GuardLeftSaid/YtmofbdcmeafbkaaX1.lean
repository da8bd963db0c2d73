/- What the symbolic executor's append means. No condition. -/
import Derived.Test.YtmofbdcmeafbkaaX0
/- What the symbolic executor's append means. No condition. -/
set_option linter.unusedVariables false
set_option linter.unusedSimpArgs false
namespace Go.Sx

section
variable {A : Type} {P : Program} {body : A → List (Option (LO A))} {amb : Amb} {H : Nat → Option (LO A)} {E : Env A} {q : Nat → Bool} {ρ : Nat → Bk} {w : World} {pt : Nat → Hp}

theorem Rows.scalar_cells {r : Rows} (h : r.scalar = true) (ρ : Nat → Bk) : ∀ v ∈ denL ρ r.cells, v.oneCell' = true := by
  intro v hv
  rw [denL_eq, List.mem_map] at hv
  obtain ⟨u, hu, rfl⟩ := hv
  cases r with
  | ints l => simp only [Rows.cells, List.mem_map] at hu; obtain ⟨x, _, rfl⟩ := hu; rfl
  | bools l => simp only [Rows.cells, List.mem_map] at hu; obtain ⟨x, _, rfl⟩ := hu; rfl
  | pairs l =>
    simp only [Rows.cells, List.mem_flatMap] at hu
    obtain ⟨x, _, hu⟩ := hu
    simp at hu
    rcases hu with rfl | rfl <;> rfl
  | lvs sz l =>
    simp only [Rows.cells, List.mem_flatten] at hu
    obtain ⟨x, hx, hu⟩ := hu
    simp only [Rows.scalar, List.all_eq_true] at h
    exact (scalar_one (h x hx u hu) ρ).1

theorem Rows.scalar_td {r : Rows} (h : r.scalar = true) (a b : Nat) : ((r.take a).drop b).scalar = true := by
  cases r with
  | lvs sz l =>
    simp only [Rows.scalar, Rows.take, Rows.drop, List.all_eq_true] at h ⊢
    exact fun x hx => h x (List.mem_of_mem_take (List.mem_of_mem_drop hx))
  | _ => rfl

/-- What comes behind: a slice whose rows may be read. -/
structure Behind (q : Nat → Bool) (ρ : Nat → Bk) (w : World) (size : Nat) (y : LV) (r : Rows) : Prop where
  val : ∃ a c, den ρ y = .slice (some a) r.len c ∧ ∀ (j : Nat) u, (denL ρ r.cells)[j]? = some u → w.cell? (a.add j) = some u
  size : r.size = size
  wf : r.wf = true
  ok : r.ok q = true
  one : ∀ v ∈ denL ρ r.cells, v.oneCell' = true

theorem add_ok (hs : SatP body amb H q ρ w pt) {size : Nat} {y : LV} {r? : Option Rows} (h : Gives H (addQ size y) r?) :
    (r? = none ∧ y = .nils) ∨ ∃ r, r? = some r ∧ Behind q ρ w size y r := by
  unfold addQ at h
  split at h
  · exact .inl ⟨h.ret, rfl⟩
  · rename_i m sz o len cap
    replace h := h.get
    split at h
    · rename_i r t' hm
      split at h
      · rename_i hg
        simp only [Bool.and_eq_true, beq_iff_eq] at hg
        obtain ⟨⟨rfl, hrs⟩, hsc⟩ := hg
        rcases h.br with ⟨hc, h'⟩ | ⟨hc, h'⟩ <;> clear h
        · simp only [decide_eq_true_eq] at hc
          have := h'.ret
          subst this
          obtain ⟨h1, h2, h3, h4, _, h5⟩ := hs.arr_at hm
          obtain ⟨k1, k2, k3, k4, k5⟩ := Rows.take_drop (q := q) r o (o + len) h4
          have hlen : ((r.take (o + len)).drop o).len = len := by rw [k3]; omega
          refine .inr ⟨_, rfl, ⟨⟨⟨(ρ m).b, (ρ m).o + o * sz, none⟩, cap, by rw [hlen]; rfl, ?_⟩, k4.trans hrs, k2, k5 h2, Rows.scalar_cells (Rows.scalar_td hsc _ _) ρ⟩⟩
          intro j u hj
          rw [add_none, cell_of_heap h5, h3, Nat.zero_add, List.getElem?_toArray, denL_getElem?]
          rw [k1, denL_getElem?, List.getElem?_drop, List.getElem?_take, hrs] at hj
          split at hj
          · exact hj
          · cases hj
        · exact (h'.bad).elim
      · exact (h.bad).elim
    · rename_i l t' hm
      split at h
      · rename_i hg
        simp only [Bool.and_eq_true, beq_iff_eq] at hg
        obtain ⟨⟨⟨⟨rfl, rfl⟩, rfl⟩, hl⟩, hsc⟩ := hg
        have := h.ret
        subst this
        obtain ⟨h1, h2, h3, _, h5⟩ := hs.cells_at hm
        refine .inr ⟨_, rfl, ⟨⟨⟨(ρ m).b, (ρ m).o + 0 * sz, none⟩, cap, rfl, ?_⟩, rfl, by simp [Rows.wf, hl], by simp [Rows.ok, h2], ?_⟩⟩
        · intro j u hj
          rw [add_none, cell_of_heap h5, h3, List.getElem?_toArray]
          simpa [Rows.cells] using hj
        · exact Rows.scalar_cells (r := .lvs sz [l]) (by simpa [Rows.scalar] using hsc) ρ
      · exact (h.bad).elim
    · exact (h.bad).elim
  · rename_i m len
    replace h := h.get
    split at h
    · rename_i r t' hm
      split at h
      · rename_i hg
        simp only [Bool.and_eq_true, beq_iff_eq] at hg
        obtain ⟨hrs, hsc⟩ := hg
        rcases h.br with ⟨hc, h'⟩ | ⟨hc, h'⟩ <;> clear h
        · simp only [beq_iff_eq] at hc
          subst hc
          have := h'.ret
          subst this
          obtain ⟨h1, h2, pre, post, h3, h4, h5, h6, _, h8⟩ := hs.vec_at hm
          refine .inr ⟨_, rfl, ⟨⟨⟨(ρ m).b, (ρ m).o, none⟩, (ρ m).c, rfl, ?_⟩, hrs, h4, h2, Rows.scalar_cells hsc ρ⟩⟩
          intro j u hj
          have hjl : j < (denL ρ r.cells).length := (List.getElem?_eq_some_iff.1 hj).1
          rw [add_none, cell_of_heap h8, h3, List.getElem?_toArray, List.getElem?_append_right (by omega), Nat.add_sub_cancel_left, List.getElem?_append_left hjl]
          exact hj
        · exact (h'.bad).elim
      · exact (h.bad).elim
    · exact (h.bad).elim
  · exact (h.bad).elim

theorem retype_spec (l : List LV) : (retype l).cells = l ∧ (retype l).wf = true ∧ (retype l).len = 1 ∧ (retype l).size = l.length ∧ (okL q l = true → (retype l).ok q = true) := by
  unfold retype
  split
  · exact ⟨rfl, rfl, rfl, rfl, fun _ => rfl⟩
  · exact ⟨rfl, rfl, rfl, rfl, fun _ => rfl⟩
  · exact ⟨rfl, rfl, rfl, rfl, fun _ => rfl⟩
  · exact ⟨by simp [Rows.cells], by simp [Rows.wf], rfl, rfl, fun h => by simp [Rows.ok, h]⟩

theorem one_spec {r : Rows} {l : List LV} (h : r.one = some l) : ∃ sz, r = .lvs sz [l] := by
  unfold Rows.one at h
  split at h
  · cases h; exact ⟨_, rfl⟩
  · cases h

theorem join_spec {r0 r r1 : Rows} (h : joinRows r0 r = some r1) (h0 : r0.wf = true) (hr : r.wf = true) (hsz : r0.size = r.size) :
    r1.cells = r0.cells ++ r.cells ∧ r1.wf = true ∧ r1.len = r0.len + r.len ∧ r1.size = r0.size ∧ (r0.ok q = true → r.ok q = true → r1.ok q = true) := by
  unfold joinRows at h
  split at h
  · rename_i l hl
    obtain ⟨sz, rfl⟩ := one_spec hl
    unfold Rows.push at h
    split at h
    · cases h; exact ⟨by simp [Rows.cells], rfl, by simp [Rows.len], rfl, fun _ _ => rfl⟩
    · cases h; exact ⟨by simp [Rows.cells], rfl, by simp [Rows.len], rfl, fun _ _ => rfl⟩
    · cases h; exact ⟨by simp [Rows.cells], rfl, by simp [Rows.len], rfl, fun _ _ => rfl⟩
    · split at h
      · rename_i hlen
        cases h
        refine ⟨by simp [Rows.cells], ?_, by simp [Rows.len], rfl, ?_⟩
        · simp only [Rows.wf, List.all_append, Bool.and_eq_true] at h0 ⊢
          exact ⟨h0, by simpa using hlen⟩
        · intro g1 g2
          simp only [Rows.ok, List.all_append, Bool.and_eq_true, List.all_cons, List.all_nil, and_true] at g1 g2 ⊢
          exact ⟨g1, by simpa using g2⟩
      · cases h
    · cases h
  · unfold Rows.append at h
    split at h
    · cases h; exact ⟨by simp [Rows.cells], rfl, by simp [Rows.len], rfl, fun _ _ => rfl⟩
    · cases h; exact ⟨by simp [Rows.cells], rfl, by simp [Rows.len], rfl, fun _ _ => rfl⟩
    · cases h; exact ⟨by simp [Rows.cells], rfl, by simp [Rows.len], rfl, fun _ _ => rfl⟩
    · split at h
      · rename_i hlen
        simp only [beq_iff_eq] at hlen
        subst hlen
        cases h
        refine ⟨by simp [Rows.cells], ?_, by simp [Rows.len], rfl, ?_⟩
        · simp only [Rows.wf, List.all_append, Bool.and_eq_true] at h0 hr ⊢
          exact ⟨h0, hr⟩
        · intro g1 g2
          simp only [Rows.ok, List.all_append, Bool.and_eq_true] at g1 g2 ⊢
          exact ⟨g1, g2⟩
      · cases h
    · cases h

theorem grownCap_le (w : World) (need old : Nat) (e : TypeId) : need ≤ grownCap w need old e := by
  unfold grownCap Question.cut; simp


/-- A slice grown: from nothing, or out of a block that is the slice's own. -/
theorem append_core {t t2 ty e e2 : TypeId} {i : TypeInfo} {z : Value} (ht : P.underlying t = some (.slice e)) (ht2 : P.underlying t2 = some (.slice e2)) (hi : P.info? e = some i) (hz : i.zero = some z)
    (hzs : z.cells.size = i.size) (hby : i.bytes ≤ 64)
    (w : World) (b o cap sLen : Nat) (pre olds post : List Value) (hb : w.heap[b]? = some (.cells (pre ++ (olds ++ post)).toArray e)) (ho : o = pre.length) (hlo : olds.length = sLen * i.size)
    (hcap : cap * i.size ≤ post.length + sLen * i.size) (hle : sLen ≤ cap)
    (a : Addr) (n c : Nat) (news : List Value) (hl : news.length = n * i.size) (hnews : ∀ (j : Nat) v, news[j]? = some v → w.cell? (a.add j) = some v) (h1 : ∀ u ∈ news, u.oneCell' = true)
    (hsmall : sLen + n ≤ 2097152) :
    (∃ post', (Builtin.append_ #[t, t2] ty #[.slice (some ⟨b, o, none⟩) sLen cap, .slice (some a) n c]).run P w = .ok (.slice (some ⟨b, o, none⟩) (sLen + n) cap) (w.setRow b (pre ++ ((olds ++ news) ++ post')).toArray) ∧
      cap * i.size ≤ post'.length + (sLen + n) * i.size ∧ sLen + n ≤ cap) ∨
    (∃ c' post', (Builtin.append_ #[t, t2] ty #[.slice (some ⟨b, o, none⟩) sLen cap, .slice (some a) n c]).run P w = .ok (.slice (some ⟨w.heap.size, 0, none⟩) (sLen + n) c') (w.drew.alloc (.cells ((olds ++ news) ++ post').toArray e)) ∧
      c' * i.size ≤ post'.length + (sLen + n) * i.size ∧ sLen + n ≤ c') := by
  by_cases hroom : sLen + n ≤ cap
  · left
    have hrun := run_append_here (P := P) w t t2 ty e e2 i ht ht2 hi b o sLen cap _ e hb a n c news hl hnews h1 hroom (by
      have : (sLen + n) * i.size ≤ cap * i.size := Nat.mul_le_mul_right _ hroom
      rw [Nat.add_mul] at this
      simp [ho, hlo, hl]; omega)
    refine ⟨post.drop news.length, ?_, ?_, hroom⟩
    · rw [hrun]
      congr 3
      have e1 : o + sLen * i.size = (pre ++ olds).length := by simp [ho, hlo]
      rw [e1]
      simp only [List.append_assoc]
      rw [← List.append_assoc pre olds post, List.take_left, ← List.drop_drop, List.drop_left]
      simp
    · have : (sLen + n) * i.size ≤ cap * i.size := Nat.mul_le_mul_right _ hroom
      rw [Nat.add_mul] at this ⊢
      simp [hl]; omega
  · right
    have hcell : ∀ (b' : Addr), some (⟨b, o, none⟩ : Addr) = some b' → ∀ (j : Nat) v, olds[j]? = some v → w.cell? (b'.add j) = some v := by
      intro b' e j v hj
      cases e
      have hjl : j < olds.length := (List.getElem?_eq_some_iff.1 hj).1
      rw [add_none, cell_of_heap hb, ho, List.getElem?_toArray, List.getElem?_append_right (by omega), Nat.add_sub_cancel_left, List.getElem?_append_left hjl]
      exact hj
    have hrun := run_append_far (P := P) w t t2 ty e e2 i z ht ht2 hi hz (some ⟨b, o, none⟩) sLen cap olds hlo (fun h => by cases h) hcell a n c news hl hnews (by omega)
      (by have : (sLen + n) * i.bytes ≤ 2097152 * 64 := Nat.mul_le_mul hsmall hby; omega) (by omega)
    refine ⟨grownCap w (sLen + n) cap e, (Builtin.zeroCells z.cells (grownCap w (sLen + n) cap e - (sLen + n))).toList, by rw [hrun, List.append_assoc], ?_, grownCap_le _ _ _ _⟩
    have := grownCap_le w (sLen + n) cap e
    have hz' : (Builtin.zeroCells z.cells (grownCap w (sLen + n) cap e - (sLen + n))).toList.length = (grownCap w (sLen + n) cap e - (sLen + n)) * i.size := by
      rw [Array.length_toList, size_zeroCells, hzs]
    rw [hz', Nat.sub_mul]
    have := Nat.mul_le_mul_right i.size this
    omega

theorem append_core_nil {t t2 ty e e2 : TypeId} {i : TypeInfo} {z : Value} (ht : P.underlying t = some (.slice e)) (ht2 : P.underlying t2 = some (.slice e2)) (hi : P.info? e = some i) (hz : i.zero = some z)
    (hzs : z.cells.size = i.size) (hby : i.bytes ≤ 64) (w : World)
    (a : Addr) (n c : Nat) (news : List Value) (hl : news.length = n * i.size) (hnews : ∀ (j : Nat) v, news[j]? = some v → w.cell? (a.add j) = some v)
    (hn0 : 0 < n) (hsmall : n ≤ 2097152) :
    ∃ c' post', (Builtin.append_ #[t, t2] ty #[.slice none 0 0, .slice (some a) n c]).run P w = .ok (.slice (some ⟨w.heap.size, 0, none⟩) n c') (w.drew.alloc (.cells (news ++ post').toArray e)) ∧
      c' * i.size ≤ post'.length + n * i.size ∧ n ≤ c' := by
  have hrun := run_append_far (P := P) w t t2 ty e e2 i z ht ht2 hi hz none 0 0 [] (by simp) (fun _ => rfl) (fun _ h => by cases h) a n c news hl hnews (by omega)
    (by have : (0 + n) * i.bytes ≤ 2097152 * 64 := Nat.mul_le_mul (by omega) hby; omega) (by omega)
  simp only [Nat.zero_add, List.nil_append] at hrun
  refine ⟨grownCap w n 0 e, _, hrun, ?_, grownCap_le _ _ _ _⟩
  have := grownCap_le w n 0 e
  have hz' : (Builtin.zeroCells z.cells (grownCap w n 0 e - n)).toList.length = (grownCap w n 0 e - n) * i.size := by
    rw [Array.length_toList, size_zeroCells, hzs]
  rw [hz', Nat.sub_mul]
  have := Nat.mul_le_mul_right i.size this
  omega

/-- The world has drawn. -/
theorem SatP.drew (hs : SatP body amb H q ρ w pt) : SatP body amb H q ρ w.drew pt := hs.more (Agree.refl _ _) (Sub.refl _) rfl ⟨rfl, rfl, rfl⟩

/-- A new block for a new name; a part that is nobody's may come along; the world may have drawn. -/
theorem SatP.allocWith (hs : SatP body amb H q ρ w pt) {n : Nat} (hqn : q n = false) {q' : Nat → Bool} (hsub : Sub q q') (hq' : q' n = true) {ρ' : Nat → Bk} (hag : Agree q ρ ρ')
    {c' : LO A} (hc : LO.ok q' c' = true) {o : Obj} {p' : Hp} (hp' : ∀ b x, p' b = some x → (b = w.heap.size ∧ x = o) ∨ (w.heap[b]? = some x ∧ (∀ m, pt m b = none) ∧ amb.O b = none))
    (hd : Den body amb.R ρ' n c' p') :
    SatP body amb (upd H n (some c')) q' ρ' (w.drew.alloc o) (fun x => if x = n then p' else pt x) := by
  refine hs.put n _ (some c') hag hsub (fun c h => by cases h; exact ⟨hq', hc, hd⟩) (fun h => by cases h) ?_ ?_ ?_ ⟨rfl, rfl, rfl⟩
  · intro x hx
    cases hq : p' x with
    | none => exact absurd hq hx
    | some y =>
      rcases hp' x y hq with ⟨rfl, _⟩ | ⟨_, h⟩
      · right; exact hs.fresh (by simp)
      · exact .inr h
  · intro x y hx
    rcases hp' x y hx with ⟨rfl, rfl⟩ | ⟨h, _⟩
    · show (w.heap.push y)[w.heap.size]? = _
      simp
    · have hlt : x < w.heap.size := (Array.getElem?_eq_some_iff.1 h).1
      show (w.heap.push o)[x]? = _
      rw [Array.getElem?_push, if_neg (by omega)]; exact h
  · intro x o' _ hw
    have hlt : x < w.heap.size := (Array.getElem?_eq_some_iff.1 hw).1
    show (w.heap.push o)[x]? = _
    rw [Array.getElem?_push, if_neg (by omega)]; exact hw

theorem drew_heap (w : World) : w.drew.heap = w.heap := rfl

theorem vec_den {R : Hp} {nb : Nat} {b c' : Nat} {r1 : Rows} {e : TypeId} {post' : List Value} {ρ : Nat → Bk} (hq : q nb = false) (hw : r1.wf = true) (hok : r1.ok q = true)
    (h1 : c' * r1.size ≤ post'.length + r1.len * r1.size) (h2 : r1.len ≤ c') :
    Den body R (setBk ρ nb ⟨b, 0, c', undef⟩) nb (.vec r1 e) (Hp.one b (.cells (denL ρ r1.cells ++ post').toArray e)) := by
  have hag : Agree q ρ (setBk ρ nb ⟨b, 0, c', undef⟩) := setBk_agree hq
  have := Den.vec (body := body) (R := R) (ρ := setBk ρ nb ⟨b, 0, c', undef⟩) (n := nb) (r := r1) (t := e) [] post' (by rw [setBk_same]; rfl) hw (by rw [setBk_same]; exact h1) (by rw [setBk_same]; exact h2)
  rw [setBk_same, map_den_agree hag (Rows.ok_cells hok), ← denL_eq] at this
  exact this

open Classical in
theorem avec_mk {R : Hp} {l : List A} {t : TypeId} {ρ' : Nat → Bk} {nm : Nat} {pre post : List Value} (ρs : Nat → Nat → Bk) (pts : Nat → Hp)
    (ho : (ρ' nm).o = pre.length) (hc : l.length ≤ (ρ' nm).c ∧ (ρ' nm).c ≤ l.length + post.length)
    (hpt : ∀ (i : Nat) a, l[i]? = some a → Den body R (ρs i) 0 (.abs a []) (pts i)) (hz : ∀ i, l.length ≤ i → ∀ x, pts i x = none)
    (hap : ∀ i j x, i ≠ j → pts i x ≠ none → pts j x = none) (hb : ∀ i, pts i (ρ' nm).b = none) (hob : ∀ i, (ρs i 0).o = 0) :
    ∃ p, Den body R ρ' nm (.avec l t none) p ∧ ∀ x o, p x = some o ↔
      (x = (ρ' nm).b ∧ o = .cells (pre ++ ((List.range l.length).map (fun i => Value.pointer (some ⟨(ρs i 0).b, 0, none⟩)) ++ post)).toArray t) ∨ ∃ i, pts i x = some o := by
  let blk : Obj := .cells (pre ++ ((List.range l.length).map (fun i => Value.pointer (some ⟨(ρs i 0).b, 0, none⟩)) ++ post)).toArray t
  let p : Hp := fun x => if x = (ρ' nm).b then some blk else if h : ∃ i, pts i x ≠ none then pts h.choose x else none
  have hp : ∀ x o, p x = some o ↔ (x = (ρ' nm).b ∧ o = blk) ∨ ∃ i, pts i x = some o := by
    intro x o
    show (if x = (ρ' nm).b then some blk else if h : ∃ i, pts i x ≠ none then pts h.choose x else none) = some o ↔ _
    by_cases e : x = (ρ' nm).b
    · rw [if_pos e]
      constructor
      · intro h; exact .inl ⟨e, (Option.some.inj h).symm⟩
      · rintro (⟨_, rfl⟩ | ⟨i, hi⟩)
        · rfl
        · rw [e, hb i] at hi; cases hi
    · rw [if_neg e]
      by_cases hex : ∃ i, pts i x ≠ none
      · rw [dif_pos hex]
        constructor
        · intro h; exact .inr ⟨_, h⟩
        · rintro (⟨h, _⟩ | ⟨i, hi⟩)
          · exact absurd h e
          · by_cases ei : hex.choose = i
            · rw [ei]; exact hi
            · exact absurd (hap _ _ x (fun e' => ei e'.symm) (by rw [hi]; exact fun e => by cases e)) hex.choose_spec
      · rw [dif_neg hex]
        constructor
        · intro h; cases h
        · rintro (⟨h, _⟩ | ⟨i, hi⟩)
          · exact absurd h e
          · exact absurd ⟨i, by rw [hi]; exact fun e => by cases e⟩ hex
  refine ⟨p, ?_, hp⟩
  refine Den.avec pre post ho hc ρs pts p (fun i a h _ => hpt i a h) (fun i h => hz i (by rcases h with h | ⟨_, h⟩; exact h; exact absurd rfl h)) (fun m h => by cases h) hob ⟨?_, ?_, ?_⟩
  · intro x o h
    rcases (hp x o).1 h with ⟨rfl, rfl⟩ | ⟨i, hi⟩
    · exact ⟨0, by simp only [if_true]; exact Hp.one_self _ _⟩
    · exact ⟨i + 1, by rw [if_neg (by omega)]; exact hi⟩
  · intro i x o h
    by_cases e : i = 0
    · rw [if_pos e] at h
      obtain ⟨h1, h2⟩ := Hp.one_some h
      exact (hp x o).2 (.inl ⟨h1, h2⟩)
    · rw [if_neg e] at h
      exact (hp x o).2 (.inr ⟨_, h⟩)
  · intro i j x hij h
    by_cases e : i = 0
    · rw [if_pos e] at h
      have hx := Hp.one_ne h
      rw [if_neg (by omega), hx]
      exact hb _
    · rw [if_neg e] at h
      by_cases e' : j = 0
      · rw [if_pos e']
        unfold Hp.one
        rw [if_neg]
        intro hx
        rw [hx] at h
        exact h (hb _)
      · rw [if_neg e']
        exact hap _ _ x (by omega) h

theorem append_ok (hT : TyOk P E) (hs : SatP body amb H q ρ w pt) {nb : Nat} {t t2 ty : TypeId} {x y : LV} {r : Rs A} (h : Gives H (appendQ E nb t t2 x y) r) (hx : LV.ok q x = true) :
    OutV body amb H q ρ nb r ((Builtin.append_ #[t, t2] ty #[den ρ x, den ρ y]).run P w) := by
  unfold appendQ at h
  split at h
  · rename_i e e2 hd hd2
    have ht := underlying_of (descT_run hT hd)
    have ht2 := underlying_of (descT_run hT hd2)
    split at h
    · exact (h.bad).elim
    · rename_i row hrow
      have hk := hT e row hrow
      obtain ⟨i, z, hi, hz, hisz, hiby, hzd⟩ := info_of hk
      have hbind := h.bind
      clear h
      obtain ⟨r?, hadd, h⟩ := hbind
      rcases add_ok hs hadd with ⟨rfl, rfl⟩ | ⟨rr, rfl, hbeh⟩
      · -- nothing comes
        dsimp only at h
        split at h
        · cases h.ret
          refine Quiet.out hs (.mk' rfl) ?_
          simp only [den]
          exact run_append_none w t t2 ty e e2 i ht ht2 hi none 0 0 (Nat.le_refl _) none 0
        · rename_i n len
          replace h := h.get
          split at h
          · rename_i r0 t' hn
            rcases h.br with ⟨hc, h'⟩ | ⟨hc, h'⟩ <;> clear h
            · simp only [beq_iff_eq] at hc
              subst hc
              cases h'.ret
              obtain ⟨_, _, pre, post, _, _, _, hle, _, _⟩ := hs.vec_at hn
              refine Quiet.out hs (.mk' hx) ?_
              simp only [den]
              exact run_append_none w t t2 ty e e2 i ht ht2 hi _ _ _ hle none 0
            · exact (h'.bad).elim
          · exact (h.bad).elim
        · exact (h.bad).elim
      · obtain ⟨⟨ad, cy, hy, hnews⟩, hrsz, hrwf, hrok, hone⟩ := hbeh
        have hnl : (denL ρ rr.cells).length = rr.len * i.size := by rw [denL_length, Rows.cells_length hrwf, hrsz, hisz]
        dsimp only at h
        split at h
        · rename_i hg
          simp only [Bool.and_eq_true, decide_eq_true_eq] at hg
          obtain ⟨⟨hby64, hsz1⟩, hzf⟩ := hg
          have hzs : z.cells.size = i.size := by
            unfold zeroFits at hzf
            split at hzf
            · rename_i zl hzl
              simp only [beq_iff_eq] at hzf
              rw [hzd ρ, (cellsOf_spec (q := q) hzl ρ).1, List.size_toArray, denL_length, hzf, hisz]
            · cases hzf
          have hby : i.bytes ≤ 64 := by omega
          rw [hy]
          split at h
          · -- from nothing
            rcases h.br with ⟨hc, h'⟩ | ⟨hc, h'⟩ <;> clear h
            · simp only [decide_eq_true_eq] at hc
              cases h'.ret
              refine Quiet.out hs (.mk' rfl) ?_
              simp only [den, hc]
              exact run_append_none w t t2 ty e e2 i ht ht2 hi none 0 0 (Nat.le_refl _) (some ad) cy
            · simp only [decide_eq_false_iff_not] at hc
              rcases h'.br with ⟨hc2, h⟩ | ⟨hc2, h⟩ <;> clear h'
              · simp only [decide_eq_true_eq] at hc2
                obtain ⟨c', post', hrun, g1, g2⟩ := append_core_nil (P := P) (ty := ty) ht ht2 hi hz hzs hby w ad rr.len cy (denL ρ rr.cells) hnl hnews (by omega) (by omega)
                have fin : ∀ (r1 : Rows), r1.cells = rr.cells → r1.wf = true → r1.len = rr.len → r1.size = rr.size → r1.ok q = true →
                    OutV body amb H q ρ nb ⟨.vec nb rr.len, [(nb, some (.vec r1 e))], nb + 1⟩ ((Builtin.append_ #[t, t2] ty #[.slice none 0 0, .slice (some ad) rr.len cy]).run P w) := by
                  intro r1 e1 e2' e3 e4 e5 q' hsub hq' hq
                  have hnb := hq nb (Nat.le_refl _) (Nat.lt_succ_self _)
                  have hnb' := hq' nb (Nat.le_refl _) (Nat.lt_succ_self _)
                  have hd' := vec_den (body := body) (R := amb.R) (ρ := ρ) (b := w.heap.size) (c' := c') (r1 := r1) (e := e) (post' := post') hnb e2' e5
                    (by rw [e3, e4, hrsz, ← hisz]; exact g1) (by rw [e3]; exact g2)
                  rw [e1] at hd'
                  refine ⟨setBk ρ nb ⟨w.heap.size, 0, c', undef⟩, w.drew.alloc (.cells (denL ρ rr.cells ++ post').toArray e), ?_, setBk_agree hnb, by simp only [LV.ok]; exact hnb', ?_⟩
                  · simp only [den, setBk_same]; exact hrun
                  · rw [hov_one]
                    exact ⟨_, hs.allocWith hnb hsub hnb' (setBk_agree hnb) (c' := .vec r1 e) (Rows.ok_mono hsub e5) (fun b x hb => .inl (by obtain ⟨h1, h2⟩ := Hp.one_some hb; exact ⟨h1, h2⟩)) hd'⟩
                split at h
                · rename_i l hl
                  obtain ⟨sz, rfl⟩ := one_spec hl
                  split at h
                  · rename_i m
                    replace h := h.get
                    split at h
                    · rename_i a hm
                      cases h.ret
                      intro q' hsub hq' hq
                      have hnb := hq nb (Nat.le_refl _) (Nat.lt_succ_self _)
                      have hnb' := hq' nb (Nat.le_refl _) (Nat.lt_succ_self _)
                      obtain ⟨hqm, _, hdm⟩ := hs.den m _ hm
                      have h9 : 1 = sz := (by simpa [Rows.wf, Rows.size] using hrwf)
                      have hi1 : i.size = 1 := (by rw [hisz, ← hrsz, show (Rows.lvs sz [[LV.ptr m 0]]).size = sz from rfl, ← h9])
                      have hfr := hs.fresh (b := w.heap.size) (by simp)
                      obtain ⟨p, hp1, hp2⟩ := avec_mk (body := body) (R := amb.R) (l := [a]) (t := e) (ρ' := setBk ρ nb ⟨w.heap.size, 0, c', undef⟩) (nm := nb) (pre := []) (post := post')
                        (fun i _ => if i = 0 then ρ m else default) (fun i => if i = 0 then pt m else Hp.none) (by rw [setBk_same]; rfl)
                        (by rw [setBk_same]; simp only [List.length_cons, List.length_nil]; simp only [Rows.len, List.length_cons, List.length_nil, hi1, Nat.mul_one] at g1 g2; omega)
                        (by intro i a' hi; match i, hi with | 0, hi => cases hi; exact Den.abs_any hdm rfl)
                        (by intro i hi x; simp only [List.length_cons, List.length_nil] at hi; rw [if_neg (by omega)]; rfl)
                        (by intro i j x hij h
                            by_cases e1 : i = 0
                            · rw [if_neg (by omega)]; rfl
                            · rw [if_neg e1] at h; exact absurd rfl h)
                        (by intro i; rw [setBk_same]; split
                            · exact hfr.1 m
                            · rfl)
                        (by intro i; show (if i = 0 then ρ m else default).o = 0; split
                            · exact hdm.abs_o
                            · rfl)
                      have e1 : denL ρ (Rows.lvs sz [[LV.ptr m 0]]).cells = [Value.pointer (some ⟨(ρ m).b, 0, none⟩)] := by
                        simp [Rows.cells, denL, den, hdm.abs_o]
                      refine ⟨setBk ρ nb ⟨w.heap.size, 0, c', undef⟩, w.drew.alloc (.cells ([Value.pointer (some ⟨(ρ m).b, 0, none⟩)] ++ post').toArray e), ?_, setBk_agree hnb, by simp only [LV.ok]; exact hnb', ?_⟩
                      · rw [e1] at hrun
                        simp only [den, setBk_same]; exact hrun
                      · rw [hov_cons, hov_one]
                        refine ⟨_, (hs.drop m).allocWith hnb hsub hnb' (setBk_agree hnb) (c' := .avec [a] e none) rfl (p' := p) ?_ hp1⟩
                        intro x o hx
                        rcases (hp2 x o).1 hx with ⟨h1, h2⟩ | ⟨i, hi⟩
                        · left
                          rw [setBk_same] at h1
                          exact ⟨h1, by rw [h2]; simp [List.range_succ]⟩
                        · right
                          by_cases e1 : i = 0
                          · rw [if_pos e1] at hi
                            refine ⟨hs.heap m x o hi, fun m' => ?_, hs.out m x (by rw [hi]; exact fun e => by cases e)⟩
                            by_cases e2 : m' = m
                            · rw [if_pos e2]; rfl
                            · rw [if_neg e2]; exact hs.apart m m' x (fun e => e2 e.symm) (by rw [hi]; exact fun e => by cases e)
                          · rw [if_neg e1] at hi; cases hi
                    · cases h.ret
                      exact fin (.lvs sz [[.ptr m 0]]) rfl hrwf rfl rfl hrok
                  · cases h.ret
                    obtain ⟨k1, k2, k3, k4, k5⟩ := retype_spec (q := q) l
                    have hll : l.length = sz := by simpa [Rows.wf] using hrwf
                    exact fin (retype l) (by rw [k1]; simp [Rows.cells]) k2 (by rw [k3]; rfl) (by rw [k4, hll]; rfl) (k5 (by simpa [Rows.ok] using hrok))
                · cases h.ret
                  exact fin rr rfl hrwf rfl rfl hrok
              · exact (h.bad).elim
          · -- behind a slice
            rename_i n len
            replace h := h.get
            split at h
            · rename_i r0 t' hn
              split at h
              · rename_i r1 hr1
                split at h
                · rename_i hg2
                  simp only [Bool.and_eq_true, beq_iff_eq] at hg2
                  obtain ⟨h0sz, rfl⟩ := hg2
                  rcases h.br with ⟨hc, h'⟩ | ⟨hc, h'⟩ <;> clear h
                  · simp only [Bool.and_eq_true, beq_iff_eq, decide_eq_true_eq] at hc
                    obtain ⟨rfl, hsmall⟩ := hc
                    cases h'.ret
                    obtain ⟨hqn, h0ok, pre, post, g3, g4, g5, g6, g7, g8⟩ := hs.vec_at hn
                    obtain ⟨j1, j2, j3, j4, j5⟩ := join_spec (q := q) hr1 g4 hrwf (by rw [h0sz, hrsz])
                    have hcore := append_core (P := P) (ty := ty) ht ht2 hi hz hzs hby w (ρ n).b (ρ n).o (ρ n).c r0.len pre (denL ρ r0.cells) post g8 g3
                      (by rw [denL_length, Rows.cells_length g4, h0sz, hisz]) (by rw [hisz, ← h0sz]; exact g5) g6 ad rr.len cy (denL ρ rr.cells) hnl hnews hone (by omega)
                    intro q' hsub hq' hq
                    have hnb := hq nb (Nat.le_refl _) (Nat.lt_succ_self _)
                    have hnb' := hq' nb (Nat.le_refl _) (Nat.lt_succ_self _)
                    have hcells : denL ρ r0.cells ++ denL ρ rr.cells = denL ρ r1.cells := by rw [j1, denL_append]
                    rcases hcore with ⟨post', hrun, k1, k2⟩ | ⟨c', post', hrun, k1, k2⟩
                    · rw [hcells] at hrun
                      have hd1 : Den body amb.R ρ n (.vec r1 t') (Hp.one (ρ n).b (.cells (pre ++ (denL ρ r1.cells ++ post')).toArray t')) := by
                        rw [denL_eq]
                        exact Den.vec pre post' g3 j2 (by rw [j3, j4, h0sz, ← hisz]; exact k1) (by rw [j3]; exact k2)
                      have hs1 := hs.setRow g7 hqn (c' := .vec r1 t') (j5 h0ok hrok) hd1
                      have hd2 : Den body amb.R (setBk ρ nb ⟨(ρ n).b, (ρ n).o, (ρ n).c, undef⟩) nb (.vec r1 t') (Hp.one (ρ n).b (.cells (pre ++ (denL ρ r1.cells ++ post')).toArray t')) := by
                        have hag : Agree q ρ (setBk ρ nb ⟨(ρ n).b, (ρ n).o, (ρ n).c, undef⟩) := setBk_agree hnb
                        have := Den.vec (body := body) (R := amb.R) (ρ := setBk ρ nb ⟨(ρ n).b, (ρ n).o, (ρ n).c, undef⟩) (n := nb) (r := r1) (t := t') pre post'
                          (by rw [setBk_same]; exact g3) j2 (by rw [setBk_same, j3, j4, h0sz, ← hisz]; exact k1) (by rw [setBk_same, j3]; exact k2)
                        rw [setBk_same, map_den_agree hag (Rows.ok_cells (j5 h0ok hrok)), ← denL_eq] at this
                        exact this
                      obtain ⟨m1, m2⟩ := hs1.move (upd_same _ _ _) hsub hnb' hnb (c' := .vec r1 t') (j5 h0ok hrok) (by simp) hd2
                      refine ⟨setBk ρ nb ⟨(ρ n).b, (ρ n).o, (ρ n).c, undef⟩, w.setRow (ρ n).b (pre ++ (denL ρ r1.cells ++ post')).toArray, ?_, m1, by simp only [LV.ok]; exact hnb', ?_⟩
                      · simp only [den, setBk_same]; exact hrun
                      · have e : hov [(nb, some (LO.vec r1 t')), (n, none)] (upd H n (some (.vec r1 t'))) = hov [(nb, some (LO.vec r1 t')), (n, none)] H := by
                          funext x
                          simp only [hov, upd]
                          by_cases h1 : nb = x
                          · simp [h1]
                          · by_cases h2 : n = x
                            · simp [h2]
                            · have h3 : ¬ x = n := fun e => h2 e.symm
                              simp [h1, h2, h3]
                        rw [e] at m2
                        exact m2
                    · rw [hcells] at hrun
                      have hd' := vec_den (body := body) (R := amb.R) (ρ := ρ) (b := w.heap.size) (c' := c') (r1 := r1) (e := t') (post' := post') hnb j2 (j5 h0ok hrok)
                        (by rw [j3, j4, h0sz, ← hisz]; exact k1) (by rw [j3]; exact k2)
                      refine ⟨setBk ρ nb ⟨w.heap.size, 0, c', undef⟩, w.drew.alloc (.cells (denL ρ r1.cells ++ post').toArray t'), ?_, setBk_agree hnb, by simp only [LV.ok]; exact hnb', ?_⟩
                      · simp only [den, setBk_same]; exact hrun
                      · rw [hov_cons, hov_one]
                        exact ⟨_, (hs.drop n).allocWith hnb hsub hnb' (setBk_agree hnb) (c' := .vec r1 t') (Rows.ok_mono hsub (j5 h0ok hrok)) (fun b x hb => .inl (by obtain ⟨h1, h2⟩ := Hp.one_some hb; exact ⟨h1, h2⟩)) hd'⟩
                  · exact (h'.bad).elim
                · exact (h.bad).elim
              · exact (h.bad).elim
            · rename_i l t' hn
              split at h
              · rename_i m hone'
                replace h := h.get
                split at h
                · rename_i a hm
                  split at h
                  · rename_i hg2
                    simp only [Bool.and_eq_true, beq_iff_eq] at hg2
                    obtain ⟨rfl, hr1⟩ := hg2
                    rcases h.br with ⟨hc, h'⟩ | ⟨hc, h'⟩ <;> clear h
                    · simp only [Bool.and_eq_true, beq_iff_eq, decide_eq_true_eq] at hc
                      obtain ⟨rfl, hsmall⟩ := hc
                      cases h'.ret
                      obtain ⟨sz, rfl⟩ := one_spec hone'
                      obtain ⟨hqm, _, hdm⟩ := hs.den m _ hm
                      obtain ⟨hqn, _, hdn⟩ := hs.den n _ hn
                      have hmn : m ≠ n := by rintro rfl; rw [hm] at hn; cases hn
                      have hi1 : i.size = 1 := by rw [hisz]; exact hr1
                      have e1 : denL ρ (Rows.lvs sz [[LV.ptr m 0]]).cells = [Value.pointer (some ⟨(ρ m).b, 0, none⟩)] := by
                        simp [Rows.cells, denL, den, hdm.abs_o]
                      generalize hcc : LO.avec (A := A) l t' none = cc at hdn
                      generalize hpp : pt n = pp at hdn
                      cases hdn with
                      | avec pre post ho hcap ρs pts pp hpt hz' hh hob hu =>
                        cases hcc
                        have hblk : pt n (ρ n).b = some (.cells (pre ++ ((List.range l.length).map (fun i => Value.pointer (some ⟨(ρs i 0).b, 0, none⟩)) ++ post)).toArray t') := by
                          rw [hpp]; exact hu.of 0 _ _ (by simp only [if_true]; exact Hp.one_self _ _)
                        have hheap := hs.heap n _ _ hblk
                        have hpts : ∀ i x o, pts i x = some o → pt n x = some o := fun i x o h => by rw [hpp]; exact hu.of (i + 1) x o (by rw [if_neg (by omega)]; exact h)
                        have hptsb : ∀ i, pts i (ρ n).b = none := by
                          intro i
                          have := hu.apart 0 (i + 1) (ρ n).b (by omega) (by simp only [if_true]; rw [Hp.one_self]; exact fun e => by cases e)
                          rw [if_neg (by omega)] at this
                          exact this
                        have hpm : pt m (ρ n).b = none := hs.apart n m _ (fun e => hmn e.symm) (by rw [hblk]; exact fun e => by cases e)
                        have hnm : ∀ x, pt n x ≠ none → pt m x = none := fun x h => hs.apart n m x (fun e => hmn e.symm) h
                        let ρs' : Nat → Nat → Bk := fun i => if i < l.length then ρs i else fun _ => if i = l.length then ρ m else default
                        let pts' : Nat → Hp := fun i => if i < l.length then pts i else if i = l.length then pt m else Hp.none
                        have hrange : (List.range (l ++ [a]).length).map (fun i => Value.pointer (some ⟨(ρs' i 0).b, 0, none⟩)) =
                            (List.range l.length).map (fun i => Value.pointer (some ⟨(ρs i 0).b, 0, none⟩)) ++ [Value.pointer (some ⟨(ρ m).b, 0, none⟩)] := by
                          rw [List.length_append, List.length_cons, List.length_nil, List.range_succ, List.map_append]
                          congr 1
                          · apply List.map_congr_left
                            intro i hi
                            have : i < l.length := by simpa using hi
                            simp [ρs', this]
                          · simp [ρs']
                        have mk : ∀ {ρ' : Nat → Bk} {nm : Nat} {pre2 post2 : List Value}, (ρ' nm).o = pre2.length → (l ++ [a]).length ≤ (ρ' nm).c ∧ (ρ' nm).c ≤ (l ++ [a]).length + post2.length →
                            (∀ i, pts' i (ρ' nm).b = none) → ∃ p, Den body amb.R ρ' nm (.avec (l ++ [a]) t' none) p ∧ ∀ x o, p x = some o ↔
                              (x = (ρ' nm).b ∧ o = .cells (pre2 ++ (((List.range l.length).map (fun i => Value.pointer (some ⟨(ρs i 0).b, 0, none⟩)) ++ [Value.pointer (some ⟨(ρ m).b, 0, none⟩)]) ++ post2)).toArray t') ∨ ∃ i, pts' i x = some o := by
                          intro ρ' nm pre2 post2 k1 k2 k3
                          obtain ⟨p, hp1, hp2⟩ := avec_mk (body := body) (R := amb.R) (l := l ++ [a]) (t := t') (ρ' := ρ') (nm := nm) (pre := pre2) (post := post2) ρs' pts' k1 k2
                            (by intro i a' hi
                                by_cases h1 : i < l.length
                                · rw [List.getElem?_append_left h1] at hi
                                  simp only [ρs', pts', if_pos h1]
                                  exact hpt i a' hi (fun _ => rfl)
                                · have h2 : i = l.length := by
                                    have := (List.getElem?_eq_some_iff.1 hi).1
                                    simp at this; omega
                                  subst h2
                                  simp at hi
                                  subst hi
                                  simp only [ρs', pts', Nat.lt_irrefl, if_false, if_true]
                                  exact Den.abs_any hdm rfl)
                            (by intro i hi x
                                simp only [List.length_append, List.length_cons, List.length_nil] at hi
                                simp only [pts']
                                rw [if_neg (by omega), if_neg (by omega)]; rfl)
                            (by intro i j x hij h
                                simp only [pts'] at h ⊢
                                have hpn : ∀ i, pts i x ≠ none → pt n x ≠ none := by
                                  intro i h
                                  cases hq : pts i x with
                                  | none => exact absurd hq h
                                  | some o => rw [hpts i x o hq]; exact fun e => by cases e
                                by_cases h1 : i < l.length
                                · rw [if_pos h1] at h
                                  by_cases h2 : j < l.length
                                  · rw [if_pos h2]
                                    have := hu.apart (i + 1) (j + 1) x (by omega) (by rw [if_neg (by omega)]; exact h)
                                    rw [if_neg (by omega)] at this; exact this
                                  · rw [if_neg h2]
                                    split
                                    · exact hnm x (hpn i h)
                                    · rfl
                                · rw [if_neg h1] at h
                                  by_cases h3 : i = l.length
                                  · rw [if_pos h3] at h
                                    by_cases h2 : j < l.length
                                    · rw [if_pos h2]
                                      cases hq : pts j x with
                                      | none => rfl
                                      | some o => exact absurd (hnm x (hpn j (by rw [hq]; exact fun e => by cases e))) h
                                    · rw [if_neg h2, if_neg (by omega)]; rfl
                                  · rw [if_neg h3] at h; exact absurd rfl h)
                            k3
                            (by intro i
                                simp only [ρs']
                                split
                                · exact hob i
                                · split
                                  · exact hdm.abs_o
                                  · rfl)
                          rw [hrange] at hp2
                          exact ⟨p, hp1, hp2⟩
                        have hcore := append_core (P := P) (ty := ty) ht ht2 hi hz hzs hby w (ρ n).b (ρ n).o (ρ n).c l.length pre ((List.range l.length).map (fun i => Value.pointer (some ⟨(ρs i 0).b, 0, none⟩))) post hheap ho
                          (by simp [hi1]) (by rw [hi1]; omega) hcap.1 ad 1 cy [Value.pointer (some ⟨(ρ m).b, 0, none⟩)] (by simp [hi1]) (by rw [← e1]; exact hnews) (by rw [← e1]; exact hone) (by omega)
                        intro q' hsub hq' hq
                        have hnb := hq nb (Nat.le_refl _) (Nat.lt_succ_self _)
                        have hnb' := hq' nb (Nat.le_refl _) (Nat.lt_succ_self _)
                        have hlen1 : (l ++ [a]).length = l.length + 1 := by simp
                        have hpb : ∀ i, pts' i (ρ n).b = none := by
                          intro i
                          simp only [pts']
                          split
                          · exact hptsb i
                          · split
                            · exact hpm
                            · rfl
                        rcases hcore with ⟨post', hrun, k1, k2⟩ | ⟨c', post', hrun, k1, k2⟩
                        · simp only [hi1, Nat.mul_one] at k1
                          obtain ⟨p1, hp1, hp1'⟩ := mk (ρ' := ρ) (nm := n) (pre2 := pre) (post2 := post') ho (by rw [hlen1]; omega) hpb
                          obtain ⟨p2, hp2, hp2'⟩ := mk (ρ' := setBk ρ nb ⟨(ρ n).b, (ρ n).o, (ρ n).c, undef⟩) (nm := nb) (pre2 := pre) (post2 := post') (by rw [setBk_same]; exact ho) (by rw [setBk_same, hlen1]; dsimp only; omega)
                            (by rw [setBk_same]; exact hpb)
                          have hs1 := (hs.drop m).put n p1 (some (.avec (l ++ [a]) t' none)) (q' := q) (ρ' := ρ) (w' := w.setRow (ρ n).b (pre ++ (((List.range l.length).map (fun i => Value.pointer (some ⟨(ρs i 0).b, 0, none⟩)) ++ [Value.pointer (some ⟨(ρ m).b, 0, none⟩)]) ++ post')).toArray)
                            (Agree.refl _ _) (Sub.refl _) (fun c h => by cases h; exact ⟨hqn, rfl, hp1⟩) (fun h => by cases h)
                            (by intro x hx
                                cases hq : p1 x with
                                | none => exact absurd hq hx
                                | some o =>
                                  rcases (hp1' x o).1 hq with ⟨rfl, _⟩ | ⟨i, hi⟩
                                  · left; rw [if_neg (fun e => hmn e.symm), hblk]; exact fun e => by cases e
                                  · simp only [pts'] at hi
                                    by_cases h1 : i < l.length
                                    · rw [if_pos h1] at hi
                                      left; rw [if_neg (fun e => hmn e.symm), hpts i x o hi]; exact fun e => by cases e
                                    · rw [if_neg h1] at hi
                                      by_cases h2 : i = l.length
                                      · rw [if_pos h2] at hi
                                        right
                                        refine ⟨fun m' => ?_, hs.out m x (by rw [hi]; exact fun e => by cases e)⟩
                                        by_cases e2 : m' = m
                                        · rw [if_pos e2]; rfl
                                        · rw [if_neg e2]; exact hs.apart m m' x (fun e => e2 e.symm) (by rw [hi]; exact fun e => by cases e)
                                      · rw [if_neg h2] at hi; cases hi)
                            (by intro x o hx
                                rcases (hp1' x o).1 hx with ⟨rfl, rfl⟩ | ⟨i, hi⟩
                                · exact setRow_heap w (ρ n).b _ _ t' (0, 0) hheap
                                · have hxb : x ≠ (ρ n).b := by rintro rfl; rw [hpb i] at hi; cases hi
                                  rw [setRow_other _ _ _ _ hxb]
                                  simp only [pts'] at hi
                                  by_cases h1 : i < l.length
                                  · rw [if_pos h1] at hi; exact hs.heap n x o (hpts i x o hi)
                                  · rw [if_neg h1] at hi
                                    by_cases h2 : i = l.length
                                    · rw [if_pos h2] at hi; exact hs.heap m x o hi
                                    · rw [if_neg h2] at hi; cases hi)
                            (by intro x o hx hw
                                have hxb : x ≠ (ρ n).b := by
                                  rintro rfl
                                  rw [if_neg (fun e => hmn e.symm), hblk] at hx; cases hx
                                rw [setRow_other _ _ _ _ hxb]; exact hw) ⟨rfl, rfl, rfl⟩
                          obtain ⟨m1, m2⟩ := hs1.move (upd_same _ _ _) hsub hnb' hnb (c' := .avec (l ++ [a]) t' none) rfl (p' := p2)
                            (by intro x o hx
                                rw [if_pos rfl]
                                have := (hp2' x o).1 hx
                                rw [setBk_same] at this
                                exact (hp1' x o).2 this) hp2
                          refine ⟨setBk ρ nb ⟨(ρ n).b, (ρ n).o, (ρ n).c, undef⟩, w.setRow (ρ n).b (pre ++ (((List.range l.length).map (fun i => Value.pointer (some ⟨(ρs i 0).b, 0, none⟩)) ++ [Value.pointer (some ⟨(ρ m).b, 0, none⟩)]) ++ post')).toArray, ?_, m1, by simp only [LV.ok]; exact hnb', ?_⟩
                          · simp only [den, setBk_same]; exact hrun
                          · have e : hov [(nb, some (LO.avec (l ++ [a]) t' none)), (n, none)] (upd (upd H m none) n (some (.avec (l ++ [a]) t' none))) = hov [(nb, some (LO.avec (l ++ [a]) t' none)), (n, none), (m, none)] H := by
                              funext x
                              simp only [hov, upd]
                              by_cases h1 : nb = x
                              · simp [h1]
                              · by_cases h2 : n = x
                                · simp [h2]
                                · have h3 : ¬ x = n := fun e => h2 e.symm
                                  by_cases h4 : m = x
                                  · simp [h1, h2, h3, h4]
                                  · have h5 : ¬ x = m := fun e => h4 e.symm
                                    simp [h1, h2, h3, h4, h5]
                            rw [e] at m2
                            exact m2
                        · simp only [hi1, Nat.mul_one] at k1
                          have hfr := hs.fresh (b := w.heap.size) (by simp)
                          obtain ⟨p2, hp2, hp2'⟩ := mk (ρ' := setBk ρ nb ⟨w.heap.size, 0, c', undef⟩) (nm := nb) (pre2 := []) (post2 := post') (by rw [setBk_same]; rfl) (by rw [setBk_same, hlen1]; dsimp only; omega)
                            (by intro i
                                rw [setBk_same]
                                simp only [pts']
                                split
                                · cases hq : pts i w.heap.size with
                                  | none => rfl
                                  | some o => have := hpts i _ o hq; rw [hfr.1 n] at this; cases this
                                · split
                                  · exact hfr.1 m
                                  · rfl)
                          refine ⟨setBk ρ nb ⟨w.heap.size, 0, c', undef⟩, w.drew.alloc (.cells (((List.range l.length).map (fun i => Value.pointer (some ⟨(ρs i 0).b, 0, none⟩)) ++ [Value.pointer (some ⟨(ρ m).b, 0, none⟩)]) ++ post').toArray t'), ?_, setBk_agree hnb, by simp only [LV.ok]; exact hnb', ?_⟩
                          · simp only [den, setBk_same]; exact hrun
                          · rw [hov_cons, hov_cons, hov_one]
                            have hs1 := ((hs.drop m).drop n).allocWith hnb hsub hnb' (setBk_agree hnb) (c' := .avec (l ++ [a]) t' none) rfl (p' := p2)
                              (o := .cells (((List.range l.length).map (fun i => Value.pointer (some ⟨(ρs i 0).b, 0, none⟩)) ++ [Value.pointer (some ⟨(ρ m).b, 0, none⟩)]) ++ post').toArray t') ?_ hp2
                            · exact ⟨_, hs1⟩
                            · intro x o hx
                              rcases (hp2' x o).1 hx with ⟨h1, h2⟩ | ⟨i, hi⟩
                              · rw [setBk_same] at h1
                                exact .inl ⟨h1, by rw [h2]; rfl⟩
                              · right
                                have free : ∀ k, (k = m ∨ k = n) → pt k x = some o → w.heap[x]? = some o ∧ (∀ m', (if m' = n then Hp.none else (fun y => if y = m then Hp.none else pt y) m') x = none) ∧ amb.O x = none := by
                                  intro k hk hkx
                                  refine ⟨hs.heap k x o hkx, fun m' => ?_, hs.out k x (by rw [hkx]; exact fun e => by cases e)⟩
                                  by_cases e2 : m' = n
                                  · rw [if_pos e2]; rfl
                                  · rw [if_neg e2]
                                    by_cases e3 : m' = m
                                    · dsimp only; rw [if_pos e3]; rfl
                                    · dsimp only; rw [if_neg e3]
                                      exact hs.apart k m' x (by rintro rfl; rcases hk with h | h <;> contradiction) (by rw [hkx]; exact fun e => by cases e)
                                simp only [pts'] at hi
                                by_cases h1 : i < l.length
                                · rw [if_pos h1] at hi; exact free n (.inr rfl) (hpts i x o hi)
                                · rw [if_neg h1] at hi
                                  by_cases h2 : i = l.length
                                  · rw [if_pos h2] at hi; exact free m (.inl rfl) hi
                                  · rw [if_neg h2] at hi; cases hi
                      | _ => cases hcc
                    · exact (h'.bad).elim
                  · exact (h.bad).elim
                · exact (h.bad).elim
              · exact (h.bad).elim
            · exact (h.bad).elim
          · exact (h.bad).elim
        · exact (h.bad).elim
  · exact (h.bad).elim
end
end Go.Sx

/- What the symbolic executor's operations mean: maps. No condition. -/
set_option linter.unusedVariables false
set_option linter.unusedSimpArgs false
namespace Go.Sx

/-- The entry of a key. -/
theorem findNow_spec {κ : IntKind} (z : Int) : ∀ (l : List MapEntry) (i0 : Nat), (∀ e ∈ l, ∃ k, e.key = .int .i64 k) →
    ∃ r, Instr.findNow (.int κ) (.int .i64 z) l i0 = some r ∧ (r = none → ∀ e ∈ l, e.key ≠ .int .i64 z) ∧
      (∀ j v, r = some (j, v) → i0 ≤ j ∧ ∃ e, l[j - i0]? = some e ∧ e.key = .int .i64 z ∧ v = e.val)
  | [], i0, _ => ⟨none, rfl, fun _ _ h => by simp at h, fun _ _ h => by cases h⟩
  | e :: l, i0, h => by
    obtain ⟨k, hk⟩ := h e (by simp)
    obtain ⟨r, h1, h2, h3⟩ := findNow_spec (κ := κ) z l (i0 + 1) (fun e he => h e (by simp [he]))
    by_cases hz : z = k
    · subst hz
      refine ⟨some (i0, e.val), by simp [Instr.findNow, Instr.sameNow, hk], (fun h => by cases h), fun j v h => ?_⟩
      cases h
      exact ⟨Nat.le_refl _, e, by simp, hk, rfl⟩
    · refine ⟨r, ?_, fun hr e' he' => ?_, fun j v hr => ?_⟩
      · have hzk : (z == k) = false := by simpa using hz
        simp [Instr.findNow, Instr.sameNow, hk, hzk, h1]
      · rcases List.mem_cons.1 he' with rfl | he'
        · rw [hk]; intro e; cases e; exact hz rfl
        · exact h2 hr e' he'
      · obtain ⟨g1, e', g2, g3, g4⟩ := h3 j v hr
        refine ⟨by omega, e', ?_, g3, g4⟩
        rw [show j - i0 = (j - (i0 + 1)) + 1 by omega]
        simpa using g2

section
variable {P : Program}

theorem MapOk.find {es : Array MapEntry} {clock : Nat} {f : Int → Value} {zero : Value} (hm : MapOk es clock f zero) {kt : TypeId} {κ : IntKind} (hd : ∀ w, (underlying kt).run P w = .ok (.int κ) w) (z : Int) (w : World) :
    ((Instr.findKey kt (.int .i64 z) es.toList).run P w = .ok none w ∧ (∀ (i : Nat) (e : MapEntry), es[i]? = some e → e.key ≠ .int .i64 z) ∧ f z = zero) ∨
    (∃ (i : Nat) (e : MapEntry), (Instr.findKey kt (.int .i64 z) es.toList).run P w = .ok (some (i, e.val)) w ∧ es[i]? = some e ∧ e.key = .int .i64 z ∧ e.val = f z) := by
  have hkeys : ∀ e ∈ es.toList, ∃ k, e.key = .int .i64 k := by
    intro e he
    obtain ⟨i, hi⟩ := List.mem_iff_getElem?.1 he
    obtain ⟨k, h, _⟩ := hm.keys i e (by simpa using hi)
    exact ⟨k, h⟩
  obtain ⟨r, h1, h2, h3⟩ := findNow_spec (κ := κ) z es.toList 0 hkeys
  cases r with
  | none =>
    left
    have hno : ∀ (i : Nat) (e : MapEntry), es[i]? = some e → e.key ≠ .int .i64 z := fun i e hi => h2 rfl e (by rw [List.mem_iff_getElem?]; exact ⟨i, by simpa using hi⟩)
    refine ⟨?_, hno, hm.miss z hno⟩
    simp [Instr.findKey, hd, h1]
  | some x =>
    obtain ⟨i, v⟩ := x
    right
    obtain ⟨_, e, g2, g3, g4⟩ := h3 i v rfl
    have hi : es[i]? = some e := by simpa using g2
    refine ⟨i, e, ?_, hi, g3, ?_⟩
    · simp [Instr.findKey, hd, h1, g4]
    · obtain ⟨k, h, hv⟩ := hm.keys i e hi
      rw [g3] at h; cases h; exact hv

theorem checkKey_run {kt : TypeId} {κ : IntKind} {w : World} (hd : ∀ w, (underlying kt).run P w = .ok (.int κ) w) (b : Bool) (z : Int) : (Instr.checkKey b 10000 kt (.int .i64 z)).run P w = .ok () w := by
  show (Instr.checkKey b (9999 + 1) kt (.int .i64 z)).run P w = _
  unfold Instr.checkKey
  simp [hd]

theorem stays_run {w : World} (z : Int) : (Instr.keyThatStays (.int .i64 z) (.int .i64 z)).run P w = .ok (.int .i64 z) w := by
  simp [Instr.keyThatStays, Instr.sameBits]

/-- The entries with one key's value turned, or come. -/
theorem MapOk.put {es : Array MapEntry} {clock : Nat} {f : Int → Value} {zero : Value} (hm : MapOk es clock f zero) {z : Int} {v : Value} :
    (∀ (i : Nat) (e : MapEntry), es[i]? = some e → e.key = .int .i64 z → MapOk (es.modify i fun e => { e with key := .int .i64 z, val := v }) clock (fun k => if k = z then v else f k) zero) ∧
    ((∀ (i : Nat) (e : MapEntry), es[i]? = some e → e.key ≠ .int .i64 z) → MapOk (es.push { key := .int .i64 z, val := v, born := clock }) (clock + 1) (fun k => if k = z then v else f k) zero) := by
  constructor
  · intro i e hi hk
    have hget : ∀ (j : Nat) (e' : MapEntry), (es.modify i fun e => { e with key := .int .i64 z, val := v })[j]? = some e' → ∃ e0, es[j]? = some e0 ∧ e'.key = e0.key ∧ e'.born = e0.born ∧ (j = i → e'.val = v) ∧ (j ≠ i → e'.val = e0.val) := by
      intro j e' h
      rw [Array.getElem?_modify] at h
      split at h
      · rename_i hij
        subst hij
        rw [hi] at h
        simp only [Option.map_some, Option.some.injEq] at h
        subst h
        exact ⟨e, hi, hk.symm, rfl, fun _ => rfl, fun h => absurd rfl h⟩
      · rename_i hij
        exact ⟨e', h, rfl, rfl, fun e => absurd e.symm hij, fun _ => rfl⟩
    constructor
    · intro j e' h
      obtain ⟨e0, h1, h2, h3, h4, h5⟩ := hget j e' h
      obtain ⟨k, hk1, hk2⟩ := hm.keys j e0 h1
      refine ⟨k, h2.trans hk1, ?_⟩
      by_cases hji : j = i
      · subst hji
        rw [hi] at h1; cases h1
        rw [hk] at hk1; cases hk1
        simp [h4 rfl]
      · have : k ≠ z := by
          rintro rfl
          exact hji (hm.once j i e0 e h1 hi (by rw [hk1, hk]))
        simp [this, h5 hji, hk2]
    · intro a b e1 e2 h1 h2 h
      obtain ⟨x1, g1, g2, _⟩ := hget a e1 h1
      obtain ⟨x2, k1, k2, _⟩ := hget b e2 h2
      exact hm.once a b x1 x2 g1 k1 (by rw [← g2, ← k2, h])
    · intro a e1 h1
      obtain ⟨x1, g1, _, g3, _⟩ := hget a e1 h1
      rw [g3]; exact hm.born a x1 g1
    · intro a b e1 e2 h1 h2 h
      obtain ⟨x1, g1, _, g3, _⟩ := hget a e1 h1
      obtain ⟨x2, k1, _, k3, _⟩ := hget b e2 h2
      exact hm.stamps a b x1 x2 g1 k1 (by rw [← g3, ← k3, h])
    · intro k hno
      have hkz : k ≠ z := by
        rintro rfl
        have hi' : (es.modify i fun e => { e with key := .int .i64 k, val := v })[i]? = some { e with key := .int .i64 k, val := v } := by
          rw [Array.getElem?_modify]; simp [hi]
        exact hno i _ hi' rfl
      simp only [if_neg hkz]
      refine hm.miss k fun j e0 h0 hk0 => ?_
      have hji : j ≠ i := by
        rintro rfl
        rw [hi] at h0; cases h0
        rw [hk] at hk0; cases hk0; exact hkz rfl
      refine hno j e0 ?_ hk0
      rw [Array.getElem?_modify, if_neg (fun e => hji e.symm)]; exact h0
  · intro hno
    have hget : ∀ (j : Nat) (e' : MapEntry), (es.push { key := .int .i64 z, val := v, born := clock })[j]? = some e' → (j < es.size ∧ es[j]? = some e') ∨ (j = es.size ∧ e' = { key := .int .i64 z, val := v, born := clock }) := by
      intro j e' h
      rw [Array.getElem?_push] at h
      split at h
      · rename_i hj
        cases h; exact .inr ⟨hj, rfl⟩
      · have hlt := (Array.getElem?_eq_some_iff.1 h).1
        exact .inl ⟨hlt, h⟩
    constructor
    · intro j e' h
      rcases hget j e' h with ⟨_, h1⟩ | ⟨_, rfl⟩
      · obtain ⟨k, hk1, hk2⟩ := hm.keys j e' h1
        refine ⟨k, hk1, ?_⟩
        have : k ≠ z := by rintro rfl; exact hno j e' h1 hk1
        simp [this, hk2]
      · exact ⟨z, rfl, by simp⟩
    · intro a b e1 e2 h1 h2 h
      rcases hget a e1 h1 with ⟨_, g1⟩ | ⟨g0, rfl⟩ <;> rcases hget b e2 h2 with ⟨_, k1⟩ | ⟨k0, rfl⟩
      · exact hm.once a b e1 e2 g1 k1 h
      · exact absurd h (hno a e1 g1)
      · exact absurd h.symm (hno b e2 k1)
      · omega
    · intro a e1 h1
      rcases hget a e1 h1 with ⟨_, g1⟩ | ⟨_, rfl⟩
      · have := hm.born a e1 g1; omega
      · simp
    · intro a b e1 e2 h1 h2 h
      rcases hget a e1 h1 with ⟨_, g1⟩ | ⟨g0, rfl⟩ <;> rcases hget b e2 h2 with ⟨_, k1⟩ | ⟨k0, rfl⟩
      · exact hm.stamps a b e1 e2 g1 k1 h
      · have := hm.born a e1 g1; simp only at h; omega
      · have := hm.born b e2 k1; simp only at h; omega
      · omega
    · intro k hno'
      have hkz : k ≠ z := by
        rintro rfl
        exact hno' es.size { key := .int .i64 k, val := v, born := clock } (by simp) rfl
      simp only [if_neg hkz]
      refine hm.miss k fun j e0 h0 hk0 => hno' j e0 ?_ hk0
      have := (Array.getElem?_eq_some_iff.1 h0).1
      rw [Array.getElem?_push, if_neg (by omega)]; exact h0

theorem MapOk.congr {es : Array MapEntry} {clock : Nat} {f g : Int → Value} {zero : Value} (hm : MapOk es clock f zero) (h : ∀ k, f k = g k) : MapOk es clock g zero := by
  have : f = g := funext h
  rw [← this]; exact hm
end

section
variable {A : Type} {P : Program} {body : A → List (Option (LO A))} {amb : Amb} {H : Nat → Option (LO A)} {E : Env A} {q : Nat → Bool} {ρ : Nat → Bk} {w : World} {pt : Nat → Hp}

theorem SatP.map_at (hs : SatP body amb H q ρ w pt) {n : Nat} {m : Mv} {pend : Option (Int × Nat)} (hn : H n = some (.map m pend)) :
    q n = true ∧ ∃ es clock, MapOk es clock (fun k => Sx.den ρ (m.at k)) (Sx.den ρ m.zero) ∧ (∀ k s, pend = some (k, s) → ∃ (i : Nat) (e : MapEntry), es[i]? = some e ∧ e.key = .int .i64 k ∧ e.born = (ρ s).c) ∧
      pt n = Hp.one (ρ n).b (.map es clock) ∧ w.heap[(ρ n).b]? = some (.map es clock) := by
  obtain ⟨h1, h2, h3⟩ := hs.den n _ hn
  generalize hc : LO.map (A := A) m pend = c at h3
  generalize hp : pt n = p at h3
  cases h3 with
  | map es clock hm hpd =>
    cases hc
    exact ⟨h1, es, clock, hm, hpd, rfl, hs.heap n _ _ (by rw [hp]; simp)⟩
  | _ => cases hc

def World.setBlk (w : World) (b : Nat) (o : Obj) : World := { w with heap := w.heap.setIfInBounds b o }

theorem SatP.setMap (hs : SatP body amb H q ρ w pt) {n b : Nat} {o : Obj} {o' : Obj} (hp : pt n b = some o) (hqn : q n = true) {q' : Nat → Bool} {ρ' : Nat → Bk} (hag : Agree q ρ ρ') (hsub : Sub q q')
    {p' : Hp} (hp' : ∀ x y, p' x = some y → (x = b ∧ y = o') ∨ (x ≠ b ∧ pt n x = some y) ∨ (x ≠ b ∧ w.heap[x]? = some y ∧ (∀ m, pt m x = none) ∧ amb.O x = none))
    {c' : LO A} (hc : LO.ok q' c' = true) (hd : Den body amb.R ρ' n c' p') :
    SatP body amb (upd H n (some c')) q' ρ' (World.setBlk w b o') (fun x => if x = n then p' else pt x) := by
  have hb := hs.heap n b o hp
  have hlt := (Array.getElem?_eq_some_iff.1 hb).1
  refine hs.put n _ (some c') hag hsub (fun c h => by cases h; exact ⟨hsub _ hqn, hc, hd⟩) (fun h => by cases h) ?_ ?_ ?_ ⟨rfl, rfl, rfl⟩
  · intro x hx
    cases hq : p' x with
    | none => exact absurd hq hx
    | some y =>
      rcases hp' x y hq with ⟨rfl, _⟩ | ⟨_, h⟩ | ⟨_, _, h⟩
      · left; rw [hp]; exact fun e => by cases e
      · left; rw [h]; exact fun e => by cases e
      · exact .inr h
  · intro x y hx
    show (w.heap.setIfInBounds b o')[x]? = _
    rcases hp' x y hx with ⟨rfl, rfl⟩ | ⟨hne, h⟩ | ⟨hne, h, _⟩
    · simp [hlt]
    · rw [Array.getElem?_setIfInBounds_ne (fun e => hne e.symm)]; exact hs.heap n x y h
    · rw [Array.getElem?_setIfInBounds_ne (fun e => hne e.symm)]; exact h
  · intro x y hx hw
    have hne : b ≠ x := by rintro rfl; rw [hp] at hx; cases hx
    show (w.heap.setIfInBounds b o')[x]? = _
    rw [Array.getElem?_setIfInBounds_ne hne]; exact hw

theorem run_getMap {b : Nat} {es : Array MapEntry} {clock : Nat} (hb : w.heap[b]? = some (.map es clock)) : (getObj b).run P w = .ok (.map es clock) w := by
  simp [getObj, Sem.run, hb]
theorem run_setMap {b : Nat} {es : Array MapEntry} {clock : Nat} {o : Obj} (hb : w.heap[b]? = some (.map es clock)) : (setObj b o).run P w = .ok () (World.setBlk w b o) := by
  simp [setObj, Sem.run, hb, World.setBlk]

theorem Mv.put_spec {m m' : Mv} {z : Int} {v : LV} (h : m.put z v = some m') (ρ : Nat → Bk) : (∀ k, den ρ (m'.at k) = if k = z then den ρ v else den ρ (m.at k)) ∧ den ρ m'.zero = den ρ m.zero := by
  unfold Mv.put at h
  split at h <;> first
    | (cases h; done)
    | (cases h
       refine ⟨fun k => ?_, rfl⟩
       simp only [Mv.at, upf]
       split <;> simp [den, denL])

theorem lookup_map_run (hT : TyOk P E) {t kt et : TypeId} {row : Row} (hd : descT E t = some (.map kt et)) (hk : descT E kt = some (.int .i64)) (hrow : E.ty et = some row) {m : Mv}
    (hz : den ρ row.zero = den ρ m.zero) {b : Nat} {es : Array MapEntry} {clock : Nat} (hm : MapOk es clock (fun k => den ρ (m.at k)) (den ρ m.zero)) (hb : w.heap[b]? = some (.map es clock)) (z : Int) :
    (Instr.lookup t (.map (some b)) (.int .i64 z) false).run P w = .ok (den ρ (m.at z)) w := by
  have hkr := descT_run hT hk
  unfold Instr.lookup
  simp only [Sem.run_bind, descT_run hT hd w, Result.andThen_ok, run_getMap hb, checkKey_run hkr]
  rcases hm.find hkr z w with ⟨h1, _, h3⟩ | ⟨i, e, h1, _, _, h4⟩
  · simp only [Sem.run_bind, Sem.run_pure, Result.andThen_ok, run_getMap hb, checkKey_run hkr, h1, (hT et row hrow).zero w ρ, hz, ← h3]
    rfl
  · simp only [Sem.run_bind, Sem.run_pure, Result.andThen_ok, run_getMap hb, checkKey_run hkr, h1, h4]
    rfl

theorem mapUpdate_map_run (hT : TyOk P E) {t kt et : TypeId} (hd : descT E t = some (.map kt et)) (hk : descT E kt = some (.int .i64)) {f : Int → Value} {zero : Value}
    {b : Nat} {es : Array MapEntry} {clock : Nat} (hm : MapOk es clock f zero) (hb : w.heap[b]? = some (.map es clock)) (z : Int) (v : Value) :
    ∃ es' clock', (Instr.mapUpdate t (.map (some b)) (.int .i64 z) v).run P w = .ok () (World.setBlk w b (.map es' clock')) ∧ MapOk es' clock' (fun k => if k = z then v else f k) zero := by
  have hkr := descT_run hT hk
  unfold Instr.mapUpdate
  simp only [Sem.run_bind, descT_run hT hd w, Result.andThen_ok, run_getMap hb, checkKey_run hkr]
  rcases hm.find hkr z w with ⟨h1, h2, h3⟩ | ⟨i, e, h1, h2, h3, h4⟩
  · refine ⟨_, _, ?_, hm.put.2 h2⟩
    simp only [Sem.run_bind, h1, Result.andThen_ok, run_setMap hb]
  · refine ⟨_, _, ?_, hm.put.1 i e h2 h3⟩
    simp only [Sem.run_bind, h1, Result.andThen_ok, h2, Option.map_some, Option.getD_some, h3, stays_run, run_setMap hb]
end
end Go.Sx

/- What the symbolic executor's operations mean: maps, the operations. No condition. -/
set_option linter.unusedVariables false
set_option linter.unusedSimpArgs false
namespace Go.Sx

section
variable {A : Type} {P : Program} {body : A → List (Option (LO A))} {amb : Amb} {H : Nat → Option (LO A)} {E : Env A} {q : Nat → Bool} {ρ : Nat → Bk} {w : World} {pt : Nat → Hp}

/-- What a map of slices holds. -/
def gval (f : Int → List (Int × Int)) (bs : Int → Bk) (k : Int) : Value :=
  if f k = [] then .slice none 0 0 else .slice (some ⟨(bs k).b, (bs k).o, none⟩) (f k).length (bs k).c

/-- The parts of a map of slices. -/
structure GParts (body : A → List (Option (LO A))) (R : Hp) (ρ : Nat → Bk) (n : Nat) (f : Int → List (Int × Int)) (t : TypeId) (hole : Option (Int × Nat)) (p : Hp) (es : Array MapEntry) (clock : Nat) (bs : Int → Bk) (pts : Int → Hp) : Prop where
  hm : MapOk es clock (gval f bs) (.slice none 0 0)
  hpt : ∀ k, f k ≠ [] → (∀ m, hole ≠ some (k, m)) → Den body R (fun _ => bs k) 0 (.vec (.pairs (f k)) t) (pts k)
  hz : ∀ k, (f k = [] ∨ ∃ m, hole = some (k, m)) → ∀ x, pts k x = none
  hh : ∀ k m, hole = some (k, m) → f k ≠ [] ∧ (bs k).b = (ρ m).b ∧ (bs k).o = (ρ m).o ∧ (bs k).c = (ρ m).c
  hap : ∀ k k' x, k ≠ k' → pts k x ≠ none → pts k' x = none
  hb : ∀ k, pts k (ρ n).b = none
  hp : ∀ x o, p x = some o ↔ (x = (ρ n).b ∧ o = .map es clock) ∨ ∃ k, pts k x = some o

theorem SatP.gmap_at (hs : SatP body amb H q ρ w pt) {n : Nat} {f : Int → List (Int × Int)} {t : TypeId} {hole : Option (Int × Nat)} (hn : H n = some (.gmap f t hole)) :
    q n = true ∧ LO.ok q (.gmap (A := A) f t hole) = true ∧ ∃ es clock bs pts, GParts body amb.R ρ n f t hole (pt n) es clock bs pts := by
  obtain ⟨h1, h2, h3⟩ := hs.den n _ hn
  refine ⟨h1, h2, ?_⟩
  generalize hc : LO.gmap (A := A) f t hole = c at h3
  generalize pt n = p at h3
  cases h3 with
  | gmap es clock bs pts p hm hpt hz hh hu =>
    cases hc
    refine ⟨es, clock, bs, pts, hm, hpt, hz, hh, ?_, ?_, ?_⟩
    · intro k k' x hk h
      exact hu.apart (some k) (some k') x (fun e => hk (Option.some.inj e)) h
    · intro k
      exact hu.apart none (some k) _ (fun e => by cases e) (by show Hp.one (ρ n).b (Obj.map es clock) (ρ n).b ≠ none; rw [Hp.one_self]; exact fun e => by cases e)
    · intro x o
      constructor
      · intro h
        obtain ⟨i, hi⟩ := hu.to x o h
        cases i with
        | none => exact .inl (Hp.one_some hi)
        | some k => exact .inr ⟨k, hi⟩
      · rintro (⟨rfl, rfl⟩ | ⟨k, hk⟩)
        · exact hu.of none _ _ (Hp.one_self _ _)
        · exact hu.of (some k) _ _ hk
  | _ => cases hc

theorem GParts.den {R : Hp} {ρ : Nat → Bk} {n : Nat} {f : Int → List (Int × Int)} {t : TypeId} {hole : Option (Int × Nat)} {p : Hp} {es : Array MapEntry} {clock : Nat} {bs : Int → Bk} {pts : Int → Hp}
    (g : GParts body R ρ n f t hole p es clock bs pts) : Den body R ρ n (.gmap f t hole) p := by
  refine Den.gmap es clock bs pts p g.hm g.hpt g.hz g.hh ⟨?_, ?_, ?_⟩
  · intro x o h
    rcases (g.hp x o).1 h with ⟨rfl, rfl⟩ | ⟨k, hk⟩
    · exact ⟨none, Hp.one_self _ _⟩
    · exact ⟨some k, hk⟩
  · intro i x o h
    cases i with
    | none => exact (g.hp x o).2 (.inl (Hp.one_some h))
    | some k => exact (g.hp x o).2 (.inr ⟨k, h⟩)
  · intro i j x hij h
    cases i with
    | none =>
      have hx := Hp.one_ne h
      cases j with
      | none => exact absurd rfl hij
      | some k => rw [hx]; exact g.hb k
    | some k =>
      cases j with
      | none =>
        show Hp.one (ρ n).b _ x = none
        unfold Hp.one
        rw [if_neg]
        rintro rfl
        exact h (g.hb k)
      | some k' => exact g.hap k k' x (fun e => hij (by rw [e])) h

theorem GParts.hblk {R : Hp} {ρ : Nat → Bk} {n : Nat} {f : Int → List (Int × Int)} {t : TypeId} {hole : Option (Int × Nat)} {p : Hp} {es : Array MapEntry} {clock : Nat} {bs : Int → Bk} {pts : Int → Hp}
    (g : GParts body R ρ n f t hole p es clock bs pts) : p (ρ n).b = some (.map es clock) := (g.hp _ _).2 (.inl ⟨rfl, rfl⟩)

theorem Den.pairs_any {R : Hp} {ρ₁ ρ₂ : Nat → Bk} {n₁ n₂ : Nat} {l : List (Int × Int)} {t : TypeId} {p : Hp} (h : Den body R ρ₁ n₁ (.vec (.pairs l) t) p) (e : ρ₂ n₂ = ρ₁ n₁) : Den body R ρ₂ n₂ (.vec (.pairs l) t) p := by
  generalize hc : LO.vec (A := A) (.pairs l) t = c at h
  cases h with
  | vec pre post ho hw hcap hl =>
    cases hc
    have := Den.vec (body := body) (R := R) (ρ := ρ₂) (n := n₂) (r := .pairs l) (t := t) pre post (by rw [e]; exact ho) rfl (by rw [e]; exact hcap) (by rw [e]; exact hl)
    rw [e] at this
    have e2 : (Rows.pairs l).cells.map (Sx.den ρ₂) = (Rows.pairs l).cells.map (Sx.den ρ₁) := map_den_agree (p := fun _ => false) (fun _ h => by cases h) (Rows.ok_cells rfl)
    rw [e2] at this
    exact this
  | _ => cases hc

theorem lookup_ok (hT : TyOk P E) (hs : SatP body amb H q ρ w pt) {nb : Nat} {t : TypeId} {m k : LV} {r : Rs A} (h : Gives H (lookupQ E nb t m k) r) :
    OutV body amb H q ρ nb r ((Instr.lookup t (den ρ m) (den ρ k) false).run P w) := by
  unfold lookupQ at h
  split at h
  · rename_i kt et n z hd
    split at h
    · rename_i row hk hrow
      replace h := h.get
      have hkr := descT_run hT hk
      split at h
      · rename_i mv hn
        obtain ⟨h1, es, clock, hm, _, _, hb⟩ := hs.map_at hn
        split at h <;> first
          | exact (h.bad).elim
          | (rename_i hz
             cases h.ret
             refine Quiet.out hs (.mk' (by rfl)) ?_
             simp only [den]
             exact lookup_map_run hT hd hk hrow (by rw [hz]; rfl) hm hb z)
      · rename_i f t' hn
        obtain ⟨hqn, hok, es, clock, bs, pts, g⟩ := hs.gmap_at hn
        have hb := hs.heap n _ _ g.hblk
        split at h
        · rename_i hz
          have hzero : (zeroValue et).run P w = .ok (.slice none 0 0) w := by rw [(hT et row hrow).zero w ρ, hz]; rfl
          have hrun : (Instr.lookup t (.map (some (ρ n).b)) (.int .i64 z) false).run P w = .ok (gval f bs z) w := by
            unfold Instr.lookup
            simp only [Sem.run_bind, descT_run hT hd w, Result.andThen_ok, run_getMap hb, checkKey_run hkr]
            rcases g.hm.find hkr z w with ⟨h1, _, h3⟩ | ⟨i, e, h1, _, _, h4⟩
            · simp only [Sem.run_bind, Sem.run_pure, Result.andThen_ok, run_getMap hb, checkKey_run hkr, h1, hzero, ← h3]
              rfl
            · simp only [Sem.run_bind, Sem.run_pure, Result.andThen_ok, run_getMap hb, checkKey_run hkr, h1, h4]
              rfl
          rcases h.br with ⟨hc, h'⟩ | ⟨hc, h'⟩ <;> clear h
          · cases h'.ret
            refine Quiet.out hs (.mk' rfl) ?_
            simp only [den]
            rw [hrun]
            have : f z = [] := by simpa using hc
            simp [gval, this]
          · have hfz : f z ≠ [] := by simpa using hc
            cases h'.ret
            intro q' hsub hq' hq
            have hnb := hq nb (Nat.le_refl _) (Nat.lt_succ_self _)
            have hnb' := hq' nb (Nat.le_refl _) (Nat.lt_succ_self _)
            have hag : Agree q ρ (setBk ρ nb (bs z)) := setBk_agree hnb
            have hne : nb ≠ n := by rintro rfl; rw [hnb] at hqn; cases hqn
            let p' : Hp := fun x => if pts z x = none then pt n x else none
            have hgp : GParts body amb.R (setBk ρ nb (bs z)) n f t' (some (z, nb)) p' es clock bs (fun k => if k = z then Hp.none else pts k) := by
              have hbn : (setBk ρ nb (bs z) n) = ρ n := hag n hqn
              refine ⟨g.hm, ?_, ?_, ?_, ?_, ?_, ?_⟩
              · intro k hk hh
                have : k ≠ z := fun e => hh nb (by rw [e])
                simp only [if_neg this]
                exact g.hpt k hk (fun m h => by cases h)
              · intro k hk x
                by_cases e : k = z
                · simp only [if_pos e]; rfl
                · simp only [if_neg e]
                  refine g.hz k ?_ x
                  rcases hk with h | ⟨m, h⟩
                  · exact .inl h
                  · cases h; exact absurd rfl e
              · intro k m hk
                cases hk
                rw [setBk_same]
                exact ⟨hfz, rfl, rfl, rfl⟩
              · intro k k' x hkk h
                by_cases e : k = z
                · simp only [if_pos e] at h; exact absurd rfl h
                · simp only [if_neg e] at h
                  by_cases e' : k' = z
                  · simp only [if_pos e']; rfl
                  · simp only [if_neg e']; exact g.hap k k' x hkk h
              · intro k
                rw [hbn]
                split
                · rfl
                · exact g.hb k
              · intro x o
                rw [hbn]
                show (if pts z x = none then pt n x else none) = some o ↔ _
                constructor
                · intro h
                  split at h
                  · rename_i h0
                    rcases (g.hp x o).1 h with h1 | ⟨k, hk⟩
                    · exact .inl h1
                    · refine .inr ⟨k, ?_⟩
                      have : k ≠ z := by rintro rfl; rw [h0] at hk; cases hk
                      simp only [if_neg this]; exact hk
                  · cases h
                · rintro (⟨rfl, rfl⟩ | ⟨k, hk⟩)
                  · rw [if_pos (g.hb z)]; exact g.hblk
                  · by_cases e : k = z
                    · simp only [if_pos e] at hk; cases hk
                    · simp only [if_neg e] at hk
                      rw [if_pos (g.hap k z x e (by rw [hk]; exact fun e => by cases e))]
                      exact (g.hp x o).2 (.inr ⟨k, hk⟩)
            have hptz : ∀ x o, pts z x = some o → pt n x = some o := fun x o h => (g.hp x o).2 (.inr ⟨z, h⟩)
            have h1 := hs.put n p' (some (.gmap f t' (some (z, nb)))) (q' := q') (ρ' := setBk ρ nb (bs z)) (w' := w) hag hsub
              (fun c h => by cases h; exact ⟨hsub _ hqn, by simpa [LO.ok] using hnb', hgp.den⟩) (fun h => by cases h)
              (fun x hx => .inl (by
                have hx' : (if pts z x = none then pt n x else none) ≠ none := hx
                split at hx'
                · exact hx'
                · exact absurd rfl hx'))
              (fun x o h => by
                have h' : (if pts z x = none then pt n x else none) = some o := h
                split at h'
                · exact hs.heap n x o h'
                · cases h')
              (fun x o _ h => h) ⟨rfl, rfl, rfl⟩
            have h2 := h1.put nb (pts z) (some (.vec (.pairs (f z)) t')) (q' := q') (ρ' := setBk ρ nb (bs z)) (w' := w) (Agree.refl _ _) (Sub.refl _)
              (fun c h => by
                cases h
                exact ⟨hnb', rfl, Den.pairs_any (g.hpt z hfz (fun m h => by cases h)) (setBk_same _ _ _)⟩)
              (fun h => by cases h)
              (fun x hx => .inr ⟨fun m => by
                have hpn : pt n x ≠ none := by
                  cases hq : pts z x with
                  | none => exact absurd hq hx
                  | some o => rw [hptz x o hq]; exact fun e => by cases e
                by_cases e : m = n
                · simp only [if_pos e]
                  show (if pts z x = none then pt n x else none) = none
                  rw [if_neg hx]
                · simp only [if_neg e]; exact hs.apart n m x (fun e' => e e'.symm) hpn, by
                cases hq : pts z x with
                | none => exact absurd hq hx
                | some o => exact hs.out n x (by rw [hptz x o hq]; exact fun e => by cases e)⟩)
              (fun x o h => hs.heap n x o (hptz x o h)) (fun x o _ h => h) ⟨rfl, rfl, rfl⟩
            refine ⟨setBk ρ nb (bs z), w, ?_, hag, by simp only [LV.ok]; exact hnb', ?_⟩
            · simp only [den, setBk_same]
              rw [hrun]
              simp [gval, hfz]
            · rw [hov_cons, hov_one]; exact ⟨_, h2⟩
        · exact (h.bad).elim
      · rename_i f t' z' m' hn
        obtain ⟨hqn, hok, es, clock, bs, pts, g⟩ := hs.gmap_at hn
        have hb := hs.heap n _ _ g.hblk
        split at h
        · rename_i hz
          rcases h.br with ⟨hc, h'⟩ | ⟨hc, h'⟩ <;> clear h
          · simp only [beq_iff_eq] at hc
            subst hc
            cases h'.ret
            obtain ⟨hf, e1, e2, e3⟩ := g.hh z m' rfl
            refine Quiet.out hs (.mk' (by simpa [LV.ok, LO.ok] using hok)) ?_
            simp only [den]
            unfold Instr.lookup
            simp only [Sem.run_bind, descT_run hT hd w, Result.andThen_ok, run_getMap hb, checkKey_run hkr]
            rcases g.hm.find hkr z w with ⟨h1, _, h3⟩ | ⟨i, e, h1, _, _, h4⟩
            · exfalso
              simp only [gval, if_neg hf] at h3
              cases h3
            · simp only [Sem.run_bind, Sem.run_pure, Result.andThen_ok, run_getMap hb, checkKey_run hkr, h1, h4]
              simp [gval, hf, e1, e2, e3]
          · exact (h'.bad).elim
        · exact (h.bad).elim
      · exact (h.bad).elim
    · exact (h.bad).elim
  · exact (h.bad).elim
end
end Go.Sx

/- What the symbolic executor's operations mean: maps written. No condition. -/
set_option linter.unusedVariables false
set_option linter.unusedSimpArgs false
namespace Go.Sx

section
variable {A : Type} {P : Program} {body : A → List (Option (LO A))} {amb : Amb} {H : Nat → Option (LO A)} {E : Env A} {q : Nat → Bool} {ρ : Nat → Bk} {w : World} {pt : Nat → Hp}

theorem gmapUpdate_run (hT : TyOk P E) {t kt et : TypeId} (hd : descT E t = some (.map kt et)) (hk : descT E kt = some (.int .i64)) {f : Int → Value} {zero : Value}
    {b : Nat} {es : Array MapEntry} {clock : Nat} (hm : MapOk es clock f zero) (hb : w.heap[b]? = some (.map es clock)) (z : Int) (v : Value) :
    ∃ es' clock', (Instr.mapUpdate t (.map (some b)) (.int .i64 z) v).run P w = .ok () (World.setBlk w b (.map es' clock')) ∧ MapOk es' clock' (fun k => if k = z then v else f k) zero :=
  mapUpdate_map_run hT hd hk hm hb z v

theorem mapUpdate_ok (hT : TyOk P E) (hs : SatP body amb H q ρ w pt) {nb : Nat} {t : TypeId} {m k v : LV} {r : Rs A} (h : Gives H (mapUpdateQ E nb t m k v) r) :
    OutU body amb H q ρ nb r ((Instr.mapUpdate t (den ρ m) (den ρ k) (den ρ v)).run P w) := by
  unfold mapUpdateQ at h
  split at h
  · rename_i kt et n z hd
    split at h
    · rename_i hk
      replace h := h.get
      split at h
      · rename_i mv hn
        split at h
        · rename_i mv' hput
          cases h.ret
          obtain ⟨h1, es, clock, hm, _, hp, hb⟩ := hs.map_at hn
          obtain ⟨p1, p2⟩ := Mv.put_spec hput ρ
          obtain ⟨es', clock', hrun, hm'⟩ := mapUpdate_map_run hT hd hk hm hb z (den ρ v)
          refine ⟨rfl, fun q' hsub _ _ => ⟨ρ, World.setBlk w (ρ n).b (.map es' clock'), by simp only [den]; exact hrun, Agree.refl _ _, ?_⟩⟩
          rw [hov_one]
          have hd' : Den body amb.R ρ n (.map mv' none) (Hp.one (ρ n).b (.map es' clock')) :=
            Den.map es' clock' ((hm'.congr fun k => (p1 k).symm).congr (fun _ => rfl) |> fun x => by rw [p2]; exact x) (fun _ _ h => by cases h)
          exact ⟨_, hs.setMap (o' := .map es' clock') (by rw [hp]; exact Hp.one_self _ _) h1 (Agree.refl _ _) hsub (fun x y hx => .inl (Hp.one_some hx)) (c' := .map mv' none) rfl hd'⟩
        · exact (h.bad).elim
      · rename_i f t' hole hn
        rcases h.br with ⟨hc, h'⟩ | ⟨hc, h'⟩ <;> clear h
        · obtain ⟨hqn, hok, es, clock, bs, pts, g⟩ := hs.gmap_at hn
          have hb := hs.heap n _ _ g.hblk
          have hhole : ∀ k m, hole = some (k, m) → k = z := by
            intro k m e
            rw [e] at hc
            have : (z == k) = true := hc
            exact (by simpa using this : z = k).symm
          split at h'
          · cases h'.ret
            obtain ⟨es', clock', hrun, hm'⟩ := gmapUpdate_run hT hd hk g.hm hb z (.slice none 0 0)
            let p' : Hp := fun x => if x = (ρ n).b then some (.map es' clock') else if pts z x = none then pt n x else none
            have hgp : GParts body amb.R ρ n (upf f z []) t' none p' es' clock' bs (fun k => if k = z then Hp.none else pts k) := by
              refine ⟨hm'.congr fun k => ?_, ?_, ?_, ?_, ?_, ?_, ?_⟩
              · simp only [gval, upf]
                split <;> rfl
              · intro k hk1 _
                by_cases e : k = z
                · simp [upf, e] at hk1
                · simp only [if_neg e, upf] at hk1 ⊢
                  exact g.hpt k hk1 (fun m hm => e (hhole k m hm))
              · intro k hk1 x
                by_cases e : k = z
                · simp only [if_pos e]; rfl
                · simp only [if_neg e]
                  refine g.hz k ?_ x
                  rcases hk1 with h | ⟨m, h⟩
                  · left; simpa [upf, e] using h
                  · cases h
              · intro k m hk1; cases hk1
              · intro k k' x hkk h
                by_cases e : k = z
                · simp only [if_pos e] at h; exact absurd rfl h
                · simp only [if_neg e] at h
                  by_cases e' : k' = z
                  · simp only [if_pos e']; rfl
                  · simp only [if_neg e']; exact g.hap k k' x hkk h
              · intro k
                split
                · rfl
                · exact g.hb k
              · intro x o
                show (if x = (ρ n).b then some (Obj.map es' clock') else if pts z x = none then pt n x else none) = some o ↔ _
                by_cases ex : x = (ρ n).b
                · rw [if_pos ex]
                  constructor
                  · intro h; exact .inl ⟨ex, (Option.some.inj h).symm⟩
                  · rintro (⟨_, rfl⟩ | ⟨k, hk1⟩)
                    · rfl
                    · subst ex
                      split at hk1
                      · cases hk1
                      · rw [g.hb k] at hk1; cases hk1
                · rw [if_neg ex]
                  constructor
                  · intro h
                    split at h
                    · rename_i h0
                      rcases (g.hp x o).1 h with ⟨h1, _⟩ | ⟨k, hk1⟩
                      · exact absurd h1 ex
                      · refine .inr ⟨k, ?_⟩
                        have : k ≠ z := by rintro rfl; rw [h0] at hk1; cases hk1
                        simp only [if_neg this]; exact hk1
                    · cases h
                  · rintro (⟨h1, _⟩ | ⟨k, hk1⟩)
                    · exact absurd h1 ex
                    · by_cases e : k = z
                      · simp only [if_pos e] at hk1; cases hk1
                      · simp only [if_neg e] at hk1
                        rw [if_pos (g.hap k z x e (by rw [hk1]; exact fun e => by cases e))]
                        exact (g.hp x o).2 (.inr ⟨k, hk1⟩)
            refine ⟨rfl, fun q' hsub _ _ => ⟨ρ, World.setBlk w (ρ n).b (.map es' clock'), by simp only [den]; exact hrun, Agree.refl _ _, ?_⟩⟩
            rw [hov_one]
            exact ⟨_, hs.setMap (o' := .map es' clock') g.hblk hqn (Agree.refl _ _) hsub (p' := p') (fun x y hx => by
              have hx' : (if x = (ρ n).b then some (Obj.map es' clock') else if pts z x = none then pt n x else none) = some y := hx
              split at hx'
              · rename_i e; exact .inl ⟨e, (Option.some.inj hx').symm⟩
              · rename_i e
                split at hx'
                · exact .inr (.inl ⟨e, hx'⟩)
                · cases hx') (c' := .gmap (upf f z []) t' none) rfl hgp.den⟩
          · rename_i m' len
            replace h' := h'.get
            split at h'
            · rename_i l t'' hm'
              rcases h'.br with ⟨hc2, h⟩ | ⟨hc2, h⟩ <;> clear h'
              · simp only [Bool.and_eq_true, beq_iff_eq, Bool.not_eq_true', List.isEmpty_eq_false_iff] at hc2
                obtain ⟨⟨rfl, hl⟩, rfl⟩ := hc2
                cases h.ret
                obtain ⟨hqm, _, hdm⟩ := hs.den m' _ hm'
                have hmn : m' ≠ n := by rintro rfl; rw [hm'] at hn; cases hn
                have hap : ∀ x, pt n x ≠ none → pt m' x = none := fun x h => hs.apart n m' x (fun e => hmn e.symm) h
                have hnp : ∀ k x, pts k x ≠ none → pt n x ≠ none := by
                  intro k x h
                  cases hq : pts k x with
                  | none => exact absurd hq h
                  | some o => rw [(g.hp x o).2 (.inr ⟨k, hq⟩)]; exact fun e => by cases e
                have hmb : pt m' (ρ n).b = none := hap _ (by rw [g.hblk]; exact fun e => by cases e)
                obtain ⟨es', clock', hrun, hmp⟩ := gmapUpdate_run hT hd hk g.hm hb z (den ρ (.vec m' l.length))
                let p' : Hp := fun x => if x = (ρ n).b then some (.map es' clock') else if pts z x = none then (if pt m' x = none then pt n x else pt m' x) else none
                let bs' : Int → Bk := fun k => if k = z then ρ m' else bs k
                let pts' : Int → Hp := fun k => if k = z then pt m' else pts k
                have hgp : GParts body amb.R ρ n (upf f z l) t'' none p' es' clock' bs' pts' := by
                  refine ⟨hmp.congr fun k => ?_, ?_, ?_, ?_, ?_, ?_, ?_⟩
                  · simp only [gval, upf, bs']
                    by_cases e : k = z
                    · simp [e, hl, den]
                    · simp [e]
                  · intro k hk1 _
                    by_cases e : k = z
                    · subst e
                      simp only [upf, if_true, bs', pts']
                      exact Den.pairs_any hdm rfl
                    · simp only [if_neg e, upf, bs', pts'] at hk1 ⊢
                      exact g.hpt k hk1 (fun m hm => e (hhole k m hm))
                  · intro k hk1 x
                    by_cases e : k = z
                    · subst e
                      rcases hk1 with h | ⟨m, h⟩
                      · simp [upf, hl] at h
                      · cases h
                    · simp only [if_neg e, pts']
                      refine g.hz k ?_ x
                      rcases hk1 with h | ⟨m, h⟩
                      · left; simpa [upf, e] using h
                      · cases h
                  · intro k m hk1; cases hk1
                  · intro k k' x hkk h
                    simp only [pts'] at h ⊢
                    by_cases e : k = z
                    · rw [if_pos e] at h
                      rw [if_neg (by rintro rfl; exact hkk e)]
                      cases hq : pts k' x with
                      | none => rfl
                      | some o => exact absurd (hap x (hnp k' x (by rw [hq]; exact fun e => by cases e))) h
                    · rw [if_neg e] at h
                      by_cases e' : k' = z
                      · rw [if_pos e']; exact hap x (hnp k x h)
                      · rw [if_neg e']; exact g.hap k k' x hkk h
                  · intro k
                    simp only [pts']
                    split
                    · exact hmb
                    · exact g.hb k
                  · intro x o
                    show (if x = (ρ n).b then some (Obj.map es' clock') else if pts z x = none then (if pt m' x = none then pt n x else pt m' x) else none) = some o ↔ _
                    by_cases ex : x = (ρ n).b
                    · rw [if_pos ex]
                      constructor
                      · intro h; exact .inl ⟨ex, (Option.some.inj h).symm⟩
                      · rintro (⟨_, rfl⟩ | ⟨k, hk1⟩)
                        · rfl
                        · subst ex
                          simp only [pts'] at hk1
                          split at hk1
                          · rw [hmb] at hk1; cases hk1
                          · rw [g.hb k] at hk1; cases hk1
                    · rw [if_neg ex]
                      constructor
                      · intro h
                        split at h
                        · rename_i h0
                          split at h
                          · rename_i h1
                            rcases (g.hp x o).1 h with ⟨h2, _⟩ | ⟨k, hk1⟩
                            · exact absurd h2 ex
                            · refine .inr ⟨k, ?_⟩
                              have : k ≠ z := by rintro rfl; rw [h0] at hk1; cases hk1
                              simp only [pts', if_neg this]; exact hk1
                          · exact .inr ⟨z, by simp only [pts', if_true]; exact h⟩
                        · cases h
                      · rintro (⟨h1, _⟩ | ⟨k, hk1⟩)
                        · exact absurd h1 ex
                        · simp only [pts'] at hk1
                          by_cases e : k = z
                          · rw [if_pos e] at hk1
                            have hz0 : pts z x = none := by
                              cases hq : pts z x with
                              | none => rfl
                              | some o' => have := hap x (hnp z x (by rw [hq]; exact fun e => by cases e)); rw [this] at hk1; cases hk1
                            rw [if_pos hz0, if_neg (by rw [hk1]; exact fun e => by cases e)]; exact hk1
                          · rw [if_neg e] at hk1
                            have hne : pts k x ≠ none := by rw [hk1]; exact fun e => by cases e
                            rw [if_pos (g.hap k z x e hne), if_pos (hap x (hnp k x hne))]
                            exact (g.hp x o).2 (.inr ⟨k, hk1⟩)
                refine ⟨rfl, fun q' hsub _ _ => ⟨ρ, World.setBlk w (ρ n).b (.map es' clock'), by simp only [den] at hrun ⊢; exact hrun, Agree.refl _ _, ?_⟩⟩
                have hs1 := (hs.drop m').setMap (n := n) (b := (ρ n).b) (o := .map es clock) (o' := .map es' clock') (by rw [if_neg (fun e => hmn e.symm)]; exact g.hblk) hqn (Agree.refl _ _) hsub (p' := p') (fun x y hx => by
                  have hx' : (if x = (ρ n).b then some (Obj.map es' clock') else if pts z x = none then (if pt m' x = none then pt n x else pt m' x) else none) = some y := hx
                  split at hx'
                  · rename_i e; exact .inl ⟨e, (Option.some.inj hx').symm⟩
                  · rename_i e
                    split at hx'
                    · split at hx'
                      · exact .inr (.inl ⟨e, by rw [if_neg (fun e => hmn e.symm)]; exact hx'⟩)
                      · refine .inr (.inr ⟨e, hs.heap m' x y hx', fun m2 => ?_, hs.out m' x (by rw [hx']; exact fun e => by cases e)⟩)
                        by_cases e2 : m2 = m'
                        · rw [if_pos e2]; rfl
                        · rw [if_neg e2]; exact hs.apart m' m2 x (fun e => e2 e.symm) (by rw [hx']; exact fun e => by cases e)
                    · cases hx') (c' := .gmap (upf f z l) t'' none) rfl hgp.den
                rw [hov_cons, hov_one]
                exact ⟨_, hs1⟩
              · exact (h.bad).elim
            · exact (h'.bad).elim
          · exact (h'.bad).elim
        · exact (h'.bad).elim
      · exact (h.bad).elim
    · exact (h.bad).elim
  · exact (h.bad).elim

theorem mapEntry_ok (hT : TyOk P E) (hs : SatP body amb H q ρ w pt) {nb : Nat} {t : TypeId} {m k : LV} {r : Rs A} (h : Gives H (mapEntryQ E nb t m k) r) :
    OutV body amb H q ρ nb r ((Instr.mapEntry t (den ρ m) (den ρ k)).run P w) := by
  unfold mapEntryQ at h
  split at h
  · rename_i kt et n z hd
    split at h
    · rename_i row hk hrow
      replace h := h.get
      have hkr := descT_run hT hk
      split at h
      · rename_i mv hn
        obtain ⟨h1, es, clock, hm, _, hp, hb⟩ := hs.map_at hn
        have main : ∀ (hz : den ρ row.zero = den ρ mv.zero), OutV body amb H q ρ nb ⟨.tup [mv.at z, .nat nb], [(n, some (.map mv (some (z, nb))))], nb + 1⟩ ((Instr.mapEntry t (.map (some (ρ n).b)) (.int .i64 z)).run P w) := by
          intro hz q' hsub hq' hq
          have hnb := hq nb (Nat.le_refl _) (Nat.lt_succ_self _)
          have hnb' := hq' nb (Nat.le_refl _) (Nat.lt_succ_self _)
          have hatk : LV.ok q' (mv.at z) = true := by cases mv <;> rfl
          have fin : ∀ (es' : Array MapEntry) (clock' born : Nat), (Instr.mapEntry t (.map (some (ρ n).b)) (.int .i64 z)).run P w = .ok (.tuple #[den ρ (mv.at z), .int .i64 born]) (World.setBlk w (ρ n).b (.map es' clock')) →
              MapOk es' clock' (fun k => den ρ (mv.at k)) (den ρ mv.zero) → (∃ (i : Nat) (e : MapEntry), es'[i]? = some e ∧ e.key = .int .i64 z ∧ e.born = born) →
              ∃ ρ' w', (Instr.mapEntry t (.map (some (ρ n).b)) (.int .i64 z)).run P w = .ok (den ρ' (.tup [mv.at z, .nat nb])) w' ∧ Agree q ρ ρ' ∧ LV.ok q' (.tup [mv.at z, .nat nb]) = true ∧
                Sat body amb (hov [(n, some (.map mv (some (z, nb))))] H) q' ρ' w' := by
            intro es' clock' born hrun hm' hpend
            have hag : Agree q ρ (setBk ρ nb ⟨0, 0, born, undef⟩) := setBk_agree hnb
            refine ⟨setBk ρ nb ⟨0, 0, born, undef⟩, World.setBlk w (ρ n).b (.map es' clock'), ?_, hag, by simp only [LV.ok, okL, hatk, hnb', Bool.and_self], ?_⟩
            · rw [hrun]
              simp only [den, denL, setBk_same, Mv.den_at mv ρ (setBk ρ nb ⟨0, 0, born, undef⟩) z]
            · rw [hov_one]
              have hd' : Den body amb.R (setBk ρ nb ⟨0, 0, born, undef⟩) n (.map mv (some (z, nb))) (Hp.one (ρ n).b (.map es' clock')) := by
                have := Den.map (body := body) (R := amb.R) (ρ := setBk ρ nb ⟨0, 0, born, undef⟩) (n := n) (m := mv) (pend := some (z, nb)) es' clock'
                  (by simpa only [Mv.den_at mv ρ (setBk ρ nb ⟨0, 0, born, undef⟩), Mv.den_zero mv ρ (setBk ρ nb ⟨0, 0, born, undef⟩)] using hm')
                  (by intro k s e; cases e; rw [setBk_same]; exact hpend)
                rw [hag n h1] at this
                exact this
              exact ⟨_, hs.setMap (o' := .map es' clock') (by rw [hp]; exact Hp.one_self _ _) h1 hag hsub (fun x y hx => .inl (Hp.one_some hx)) (c' := .map mv (some (z, nb))) hnb' hd'⟩
          rcases hm.find hkr z w with ⟨g1, g2, g3⟩ | ⟨i, e, g1, g2, g3, g4⟩
          · have hput := (hm.put (z := z) (v := den ρ mv.zero)).2 g2
            refine fin _ _ clock ?_ (hput.congr fun k => by by_cases e : k = z <;> simp [e, ← g3]) ⟨es.size, { key := .int .i64 z, val := den ρ mv.zero, born := clock }, by simp, rfl, rfl⟩
            unfold Instr.mapEntry
            simp only [Sem.run_bind, descT_run hT hd w, Result.andThen_ok, run_getMap hb, checkKey_run hkr, g1, (hT et row hrow).zero w ρ, hz, run_setMap hb, Sem.run_pure, goInt]
            rw [show den ρ (mv.at z) = den ρ mv.zero from g3]
          · have hput := (hm.put (z := z) (v := e.val)).1 i e g2 g3
            have hmod : (es.modify i fun e' => { e' with key := .int .i64 z, val := e.val }) = es.modify i fun e' => { e' with key := .int .i64 z } := by
              apply Array.ext_getElem?
              intro j
              rw [Array.getElem?_modify, Array.getElem?_modify]
              split
              · rename_i hij
                subst hij
                rw [g2]; rfl
              · rfl
            rw [hmod] at hput
            refine fin _ _ e.born ?_ (hput.congr fun k => by by_cases e' : k = z <;> simp [e', g4]) ⟨i, { e with key := .int .i64 z }, by rw [Array.getElem?_modify]; simp [g2], rfl, rfl⟩
            unfold Instr.mapEntry
            simp only [Sem.run_bind, descT_run hT hd w, Result.andThen_ok, run_getMap hb, checkKey_run hkr, g1, g2, Option.map_some, Option.getD_some, g3, stays_run, run_setMap hb, Sem.run_pure, goInt, g4]
        split at h <;> first
          | exact (h.bad).elim
          | (rename_i hz
             cases h.ret
             exact main (by rw [hz]; rfl))
      · exact (h.bad).elim
    · exact (h.bad).elim
  · exact (h.bad).elim

theorem entryStore_ok (hs : SatP body amb H q ρ w pt) {nb : Nat} {t : TypeId} {m s v : LV} {r : Rs A} (h : Gives H (entryStoreQ nb m s v) r) :
    OutU body amb H q ρ nb r ((Instr.entryStore t (den ρ m) (den ρ s) (den ρ v)).run P w) := by
  unfold entryStoreQ at h
  split at h
  · rename_i n sn
    replace h := h.get
    split at h
    · rename_i mv z sn' hn
      split at h
      · rename_i mv' hq0 hput
        have : sn = sn' := Nat.eq_of_beq_eq_true hq0
        subst this
        cases h.ret
        obtain ⟨h1, es, clock, hm, hpend, hp, hb⟩ := hs.map_at hn
        obtain ⟨p1, p2⟩ := Mv.put_spec hput ρ
        obtain ⟨i, e, g1, g2, g3⟩ := hpend z sn rfl
        have hfind : es.findIdx? (fun e => ((e.born : Int) == ((ρ sn).c : Int))) = some i := by
          rw [Array.findIdx?_eq_some_iff_getElem]
          have hlt := (Array.getElem?_eq_some_iff.1 g1)
          refine ⟨hlt.1, ?_, ?_⟩
          · rw [hlt.2, g3]; simp
          · intro j hj
            have hjl : j < es.size := Nat.lt_trans hj hlt.1
            simp only [beq_iff_eq, Int.natCast_inj]
            intro hb'
            exact absurd (hm.stamps j i es[j] e (Array.getElem?_eq_getElem hjl) g1 (by rw [g3]; simpa using hb')) (by omega)
        have hput' := (hm.put (z := z) (v := den ρ v)).1 i e g1 g2
        have hmod : (es.modify i fun e' => { e' with key := .int .i64 z, val := den ρ v }) = es.modify i fun e' => { e' with val := den ρ v } := by
          apply Array.ext_getElem?
          intro j
          rw [Array.getElem?_modify, Array.getElem?_modify]
          split
          · rename_i hij
            subst hij
            rw [g1]; simp [g2]
          · rfl
        rw [hmod] at hput'
        refine ⟨rfl, fun q' hsub _ _ => ⟨ρ, World.setBlk w (ρ n).b (.map (es.modify i fun e' => { e' with val := den ρ v }) clock), ?_, Agree.refl _ _, ?_⟩⟩
        · simp only [den, Instr.entryStore, Sem.run_bind, run_getMap hb, Result.andThen_ok, asInt, asIntOf, Sem.run_pure, hfind, run_setMap hb]
        · rw [hov_one]
          have hd' : Den body amb.R ρ n (.map mv' none) (Hp.one (ρ n).b (.map (es.modify i fun e' => { e' with val := den ρ v }) clock)) :=
            Den.map _ clock (by rw [p2]; exact hput'.congr fun k => (p1 k).symm) (fun _ _ h => by cases h)
          exact ⟨_, hs.setMap (o' := .map (es.modify i fun e' => { e' with val := den ρ v }) clock) (by rw [hp]; exact Hp.one_self _ _) h1 (Agree.refl _ _) hsub (fun x y hx => .inl (Hp.one_some hx)) (c' := .map mv' none) rfl hd'⟩
      · exact (h.bad).elim
    · exact (h.bad).elim
  · exact (h.bad).elim

theorem MapOk.empty {f : Int → Value} {zero : Value} (hf : ∀ k, f k = zero) : MapOk #[] 0 f zero :=
  ⟨fun i e h => by simp at h, fun i j e e' h => by simp at h, fun i e h => by simp at h, fun i j e e' h => by simp at h, fun k _ => hf k⟩
theorem MapOk.emptyAt {f : Int → Value} {zero : Value} (c : Nat) (hf : ∀ k, f k = zero) : MapOk #[] c f zero :=
  ⟨fun i e h => by simp at h, fun i j e e' h => by simp at h, fun i e h => by simp at h, fun i j e e' h => by simp at h, fun k _ => hf k⟩

theorem clear_ok (hT : TyOk P E) (hs : SatP body amb H q ρ w pt) {nb : Nat} {t rt : TypeId} {x : LV} {r : Rs A} (h : Gives H (clearQ E nb t x) r) :
    OutV body amb H q ρ nb r ((Builtin.clear_ #[t] rt #[den ρ x]).run P w) := by
  unfold clearQ at h
  split at h
  · rename_i kt et n hd
    replace h := h.get
    split at h
    · rename_i mv hn
      cases h.ret
      obtain ⟨h1, es, clock, hm, _, hp, hb⟩ := hs.map_at hn
      intro q' hsub _ _
      refine ⟨ρ, World.setBlk w (ρ n).b (.map #[] clock), ?_, Agree.refl _ _, rfl, ?_⟩
      · simp only [den, denL, Builtin.clear_]
        simp [descT_run hT hd w, run_getMap hb, run_setMap hb]
      · rw [hov_one]
        have hd' : Den body amb.R ρ n (.map mv.clear none) (Hp.one (ρ n).b (.map #[] clock)) :=
          Den.map _ clock (MapOk.emptyAt clock (by cases mv <;> simp [Mv.clear, Mv.at, Mv.zero])) (fun _ _ h => by cases h)
        exact ⟨_, hs.setMap (o' := .map #[] clock) (by rw [hp]; exact Hp.one_self _ _) h1 (Agree.refl _ _) hsub (fun x y hx => .inl (Hp.one_some hx)) (c' := .map mv.clear none) rfl hd'⟩
    · exact (h.bad).elim
  · exact (h.bad).elim

/-- What a new map may be. -/
def freshMap : LO A → Bool
  | .map _ none => true
  | .gmap _ _ none => true
  | _ => false
def MapOfOk (E : Env A) : Prop := ∀ t c, E.mapOf t = some c → (∃ m, c = .map m none ∧ ∀ k ρ, den ρ (m.at k) = den ρ m.zero) ∨ ∃ e, c = .gmap (fun _ => []) e none

theorem makeMap_ok (hM : MapOfOk E) (hs : SatP body amb H q ρ w pt) {nb : Nat} {t : TypeId} {c : LO A} (hc : E.mapOf t = some c) :
    OutV body amb H q ρ nb ⟨.mp nb, [(nb, some c)], nb + 1⟩ ((Instr.makeMap t none).run P w) := by
  intro q' hsub hq' hq
  have hnb := hq nb (Nat.le_refl _) (Nat.lt_succ_self _)
  have hnb' := hq' nb (Nat.le_refl _) (Nat.lt_succ_self _)
  have hag : Agree q ρ (setBk ρ nb ⟨w.heap.size, 0, 0, undef⟩) := setBk_agree hnb
  have hrun : (Instr.makeMap t none).run P w = .ok (.map (some w.heap.size)) (w.alloc (.map #[] 0)) := by
    simp [Instr.makeMap]
  refine ⟨setBk ρ nb ⟨w.heap.size, 0, 0, undef⟩, w.alloc (.map #[] 0), ?_, hag, by simp only [LV.ok]; exact hnb', ?_⟩
  · rw [hrun]; simp only [den, setBk_same]
  · rw [hov_one]
    rcases hM t c hc with ⟨m, rfl, hm⟩ | ⟨e, rfl⟩
    · have hd' : Den body amb.R (setBk ρ nb ⟨w.heap.size, 0, 0, undef⟩) nb (.map m none) (Hp.one w.heap.size (.map #[] 0)) := by
        have := Den.map (body := body) (R := amb.R) (ρ := setBk ρ nb ⟨w.heap.size, 0, 0, undef⟩) (n := nb) (m := m) (pend := none) #[] 0 (MapOk.empty fun k => hm k _) (fun _ _ h => by cases h)
        rw [setBk_same] at this
        exact this
      exact ⟨_, hs.alloc hnb hsub hnb' hag (c' := .map m none) rfl hd'⟩
    · have hd' : Den body amb.R (setBk ρ nb ⟨w.heap.size, 0, 0, undef⟩) nb (.gmap (fun _ => []) e none) (Hp.one w.heap.size (.map #[] 0)) := by
        have : GParts body amb.R (setBk ρ nb ⟨w.heap.size, 0, 0, undef⟩) nb (fun _ => []) e none (Hp.one w.heap.size (.map #[] 0)) #[] 0 (fun _ => default) (fun _ => Hp.none) := by
          refine ⟨MapOk.empty fun k => rfl, fun k h => absurd rfl h, fun k _ x => rfl, fun k m h => (by cases h), fun k k' x _ h => absurd rfl h, fun k => rfl, fun x o => ?_⟩
          rw [setBk_same]
          constructor
          · intro h; exact .inl (Hp.one_some h)
          · rintro (⟨rfl, rfl⟩ | ⟨k, h⟩)
            · exact Hp.one_self _ _
            · cases h
        exact this.den
      exact ⟨_, hs.alloc hnb hsub hnb' hag (c' := .gmap (fun _ => []) e none) rfl hd'⟩
end
end Go.Sx

/- What the symbolic executor's operations mean: the chunks that a call is handed. No condition. -/
set_option linter.unusedVariables false
set_option linter.unusedSimpArgs false
namespace Go.Sx

mutual
theorem LV.ok_names (p : Nat → Bool) : ∀ v : LV, LV.ok p v = true ↔ ∀ n ∈ v.names, p n = true
  | .fn f a b => by simp only [LV.ok, LV.names, Bool.and_eq_true, okL_names p a, okL_names p b, List.mem_append]; exact ⟨fun ⟨h1, h2⟩ n h => h.elim (h1 n) (h2 n), fun h => ⟨fun n hn => h n (.inl hn), fun n hn => h n (.inr hn)⟩⟩
  | .ifc t v => by simp only [LV.ok, LV.names]; exact LV.ok_names p v
  | .agg l => by simp only [LV.ok, LV.names]; exact okL_names p l
  | .tup l => by simp only [LV.ok, LV.names]; exact okL_names p l
  | .ptr .. | .pe .. | .sl .. | .vec .. | .mp .. | .nat .. | .opq .. | .undef | .bool .. | .int .. | .str .. | .nilp | .nils | .nilm | .nilf | .nili => by simp [LV.ok, LV.names]
theorem okL_names (p : Nat → Bool) : ∀ l : List LV, okL p l = true ↔ ∀ n ∈ namesL l, p n = true
  | [] => by simp [okL, namesL]
  | a :: l => by simp only [okL, namesL, Bool.and_eq_true, LV.ok_names p a, okL_names p l, List.mem_append]; exact ⟨fun ⟨h1, h2⟩ n h => h.elim (h1 n) (h2 n), fun h => ⟨fun n hn => h n (.inl hn), fun n hn => h n (.inr hn)⟩⟩
end

theorem Rows.ok_names (p : Nat → Bool) (r : Rows) : r.ok p = true ↔ ∀ n ∈ r.names, p n = true := by
  cases r <;> simp only [Rows.ok, Rows.names, List.not_mem_nil, false_imp_iff, implies_true, List.all_eq_true, List.mem_flatMap]
  constructor
  · rintro h n ⟨x, hx, hn⟩; exact (okL_names p x).1 (h x hx) n hn
  · intro h x hx; exact (okL_names p x).2 fun n hn => h n ⟨x, hx, hn⟩

theorem LO.ok_names {A : Type} (p : Nat → Bool) (c : LO A) : c.ok p = true ↔ ∀ n ∈ c.names, p n = true := by
  cases c with
  | cells l t => exact okL_names p l
  | arr r t => exact Rows.ok_names p r
  | vec r t => exact Rows.ok_names p r
  | avec l t h => cases h <;> simp [LO.ok, LO.names]
  | roI l => simp [LO.ok, LO.names]
  | roB l => simp [LO.ok, LO.names]
  | map m h => cases h <;> simp [LO.ok, LO.names]
  | gmap f t h => cases h <;> simp [LO.ok, LO.names]
  | abs a l => simp [LO.ok, LO.names]

mutual
theorem LV.ren_ren (σ τ : Nat → Nat) : ∀ v : LV, (v.ren σ).ren τ = v.ren (fun n => τ (σ n))
  | .fn f a b => by simp [LV.ren, renL_renL σ τ a, renL_renL σ τ b]
  | .ifc t v => by simp [LV.ren, LV.ren_ren σ τ v]
  | .agg l => by simp [LV.ren, renL_renL σ τ l]
  | .tup l => by simp [LV.ren, renL_renL σ τ l]
  | .ptr .. | .pe .. | .sl .. | .vec .. | .mp .. | .nat .. | .opq .. | .undef | .bool .. | .int .. | .str .. | .nilp | .nils | .nilm | .nilf | .nili => by simp [LV.ren]
theorem renL_renL (σ τ : Nat → Nat) : ∀ l : List LV, renL τ (renL σ l) = renL (fun n => τ (σ n)) l
  | [] => rfl
  | a :: l => by simp [renL, LV.ren_ren σ τ a, renL_renL σ τ l]
end
mutual
theorem LV.ren_id : ∀ v : LV, v.ren (fun n => n) = v
  | .fn f a b => by simp [LV.ren, renL_id a, renL_id b]
  | .ifc t v => by simp [LV.ren, LV.ren_id v]
  | .agg l => by simp [LV.ren, renL_id l]
  | .tup l => by simp [LV.ren, renL_id l]
  | .ptr .. | .pe .. | .sl .. | .vec .. | .mp .. | .nat .. | .opq .. | .undef | .bool .. | .int .. | .str .. | .nilp | .nils | .nilm | .nilf | .nili => by simp [LV.ren]
theorem renL_id : ∀ l : List LV, renL (fun n => n) l = l
  | [] => rfl
  | a :: l => by simp [renL, LV.ren_id a, renL_id l]
end
theorem Rows.ren_ren (σ τ : Nat → Nat) (r : Rows) : (r.ren σ).ren τ = r.ren (fun n => τ (σ n)) := by
  cases r <;> simp [Rows.ren, renL_renL]
theorem Rows.ren_id (r : Rows) : r.ren (fun n => n) = r := by
  cases r <;> simp only [Rows.ren]
  rename_i l
  rw [show renL (fun n => n) = id from funext renL_id, List.map_id]
theorem LO.ren_ren {A : Type} (σ τ : Nat → Nat) (c : LO A) : (c.ren σ).ren τ = c.ren (fun n => τ (σ n)) := by
  cases c <;> simp [LO.ren, renL_renL, Rows.ren_ren, Function.comp_def]
theorem LO.ren_id {A : Type} (c : LO A) : c.ren (fun n => n) = c := by
  cases c <;> simp [LO.ren, renL_id, Rows.ren_id]

theorem addNames_spec : ∀ (l σ : List Nat), σ.Nodup → (addNames σ l).Nodup ∧ (∃ t, addNames σ l = σ ++ t) ∧ (∀ n ∈ l, n ∈ addNames σ l) ∧ (∀ n ∈ addNames σ l, n ∈ σ ∨ n ∈ l)
  | [], σ, h => ⟨h, ⟨[], by simp [addNames]⟩, fun n hn => (by cases hn), fun n hn => .inl hn⟩
  | n :: l, σ, h => by
    simp only [addNames]
    split
    · rename_i he
      obtain ⟨h1, ⟨t, h2⟩, h3, h4⟩ := addNames_spec l σ h
      refine ⟨h1, ⟨t, h2⟩, ?_, fun m hm => (h4 m hm).imp id (List.mem_cons_of_mem _)⟩
      intro m hm
      rcases List.mem_cons.1 hm with rfl | hm
      · rw [h2]; exact List.mem_append_left _ (by simpa using he)
      · exact h3 m hm
    · rename_i he
      have he' : n ∉ σ := by simpa using he
      obtain ⟨h1, ⟨t, h2⟩, h3, h4⟩ := addNames_spec l (σ ++ [n]) (by
        rw [List.nodup_append]
        exact ⟨h, by simp, fun a ha b hb => by rw [List.mem_singleton] at hb; subst hb; exact fun e => he' (e ▸ ha)⟩)
      refine ⟨h1, ⟨n :: t, by rw [h2]; simp⟩, ?_, ?_⟩
      · intro m hm
        rcases List.mem_cons.1 hm with rfl | hm
        · rw [h2]; simp
        · exact h3 m hm
      · intro m hm
        rcases h4 m hm with h | h
        · rcases List.mem_append.1 h with h | h
          · exact .inl h
          · exact .inr (by rw [List.mem_singleton.1 h]; exact List.mem_cons_self)
        · exact .inr (List.mem_cons_of_mem _ h)

section
variable {A : Type} {H : Nat → Option (LO A)} {q : Nat → Bool}

/-- What is so while the chunks are met. -/
structure Met (H : Nat → Option (LO A)) (q : Nat → Bool) (σ : List Nat) (cs : List (Option (LO A))) : Prop where
  nodup : σ.Nodup
  eq : cs = (σ.take cs.length).map H
  le : cs.length ≤ σ.length
  inn : ∀ c, some c ∈ cs → ∀ n ∈ c.names, n ∈ σ
  ok : ∀ n ∈ σ, q n = true

theorem reach_spec (hq : ∀ n c, H n = some c → LO.ok q c = true) : ∀ (f i : Nat) (σ : List Nat) (cs : List (Option (LO A))) (r : List Nat × List (Option (LO A))), Gives H (reach f i σ cs) r →
    i = cs.length → Met H q σ cs → Met H q r.1 r.2 ∧ r.2.length = r.1.length ∧ (∀ n ∈ σ, n ∈ r.1)
  | 0, _, _, _, _, h, _, _ => h.bad.elim
  | f + 1, i, σ, cs, r, h, hi, hr => by
    simp only [reach] at h
    split at h
    · rename_i hn
      cases h.ret
      have := List.getElem?_eq_none_iff.1 hn
      have h2 := hr.le
      exact ⟨hr, by show cs.length = σ.length; omega, fun n hn => hn⟩
    · rename_i n hn
      replace h := h.get
      subst hi
      have hlt : cs.length < σ.length := (List.getElem?_eq_some_iff.1 hn).1
      have hnm : n ∈ σ := List.mem_of_getElem? hn
      have htake : σ.take (cs.length + 1) = σ.take cs.length ++ [n] := by
        rw [List.take_add_one, hn]; rfl
      split at h
      · rename_i hH
        have hr' : Met H q σ (cs ++ [none]) := by
          refine ⟨hr.nodup, ?_, by simp; omega, ?_, hr.ok⟩
          · simp only [List.length_append, List.length_singleton]
            rw [htake, List.map_append, ← hr.eq]
            simp [hH]
          · intro c hc
            rcases List.mem_append.1 hc with h | h
            · exact hr.inn c h
            · simp at h
        exact reach_spec hq f _ σ _ r h (by simp) hr'
      · rename_i c hH
        obtain ⟨h1, ⟨t, h2⟩, h3, h4⟩ := addNames_spec c.names σ hr.nodup
        have hr' : Met H q (addNames σ c.names) (cs ++ [some c]) := by
          refine ⟨h1, ?_, by rw [h2]; simp; omega, ?_, ?_⟩
          · simp only [List.length_append, List.length_singleton]
            rw [h2, List.take_append_of_le_length (by omega), htake, List.map_append, ← hr.eq]
            simp [hH]
          · intro c' hc n' hn'
            rcases List.mem_append.1 hc with h | h
            · rw [h2]; exact List.mem_append_left _ (hr.inn c' h n' hn')
            · have : c' = c := by simpa using h
              subst this
              exact h3 n' hn'
          · intro n' hn'
            rcases h4 n' hn' with h | h
            · exact hr.ok n' h
            · exact (LO.ok_names q c).1 (hq n c hH) n' h
        obtain ⟨g1, g2, g3⟩ := reach_spec hq f _ _ _ r h (by simp) hr'
        exact ⟨g1, g2, fun n' hn' => g3 n' (by rw [h2]; exact List.mem_append_left _ hn')⟩

theorem idx_spec : ∀ {σ : List Nat} {n : Nat}, n ∈ σ → σ[idx σ n]? = some n
  | [], _, h => by cases h
  | m :: l, n, h => by
    simp only [idx]
    split
    · rename_i e; simp [Nat.eq_of_beq_eq_true e]
    · rename_i e
      have : n ∈ l := by
        rcases List.mem_cons.1 h with h | h
        · exact absurd h (Ne.symm (Nat.ne_of_beq_eq_false e))
        · exact h
      simpa using idx_spec this
theorem idx_lt {σ : List Nat} {n : Nat} (h : n ∈ σ) : idx σ n < σ.length := (List.getElem?_eq_some_iff.1 (idx_spec h)).1

theorem backUs_map (σ : List Nat) (nx : Nat) : ∀ (i : Nat) (l : List (Option (LO A))) (j : Nat) (c : Option (LO A)), l[j]? = some c →
    (∀ a b, a < i + l.length → b < i + l.length → outN σ nx a = outN σ nx b → a = b) → hov (backUs σ nx i l) H (outN σ nx (i + j)) = c.map (LO.ren (outN σ nx))
  | i, [], j, c, h, _ => by simp at h
  | i, a :: l, 0, c, h, hinj => by
    simp at h; subst h
    simp [backUs, hov]
  | i, a :: l, j + 1, c, h, hinj => by
    have hl : j < l.length := by
      have := (List.getElem?_eq_some_iff.1 h).1
      simpa using this
    simp only [backUs, hov]
    rw [if_neg (by
      intro e
      have := hinj i (i + (j + 1)) (by simp only [List.length_cons]; omega) (by simp only [List.length_cons]; omega) e
      omega)]
    have := backUs_map σ nx (i + 1) l j c (by simpa using h) (fun a b ha hb => hinj a b (by simp only [List.length_cons]; omega) (by simp only [List.length_cons]; omega))
    rw [show i + (j + 1) = i + 1 + j by omega]
    exact this
theorem backUs_other (σ : List Nat) (nx : Nat) : ∀ (i : Nat) (l : List (Option (LO A))) (x : Nat), (∀ j, i ≤ j → j < i + l.length → outN σ nx j ≠ x) → hov (backUs σ nx i l) H x = H x
  | i, [], x, h => rfl
  | i, a :: l, x, h => by
    simp only [backUs, hov]
    rw [if_neg (h i (Nat.le_refl _) (by simp only [List.length_cons]; omega))]
    exact backUs_other σ nx (i + 1) l x fun j h1 h2 => h j (by omega) (by simp only [List.length_cons]; omega)
end
end Go.Sx

/- What the symbolic executor's operations mean: calls. No condition. -/
set_option linter.unusedVariables false
set_option linter.unusedSimpArgs false
namespace Go.Sx

section
variable {A : Type} {P : Program} {body : A → List (Option (LO A))} {amb : Amb} {H : Nat → Option (LO A)} {E : Env A} {q : Nat → Bool} {ρ : Nat → Bk} {w : World} {pt : Nat → Hp}

/-- What a contract says of its function. -/
def Keeps (P : Program) (body : A → List (Option (LO A))) (f : FuncId) (S : Summ A) : Prop :=
  ∀ args cs v post, (S args cs).eval = some (v, post) → okL (lt cs.length) args = true → ∀ amb ρ w, Sat body amb (lget cs) (lt cs.length) ρ w →
    Calls P f (denL ρ args).toArray w fun e w' => ∃ ρ', Agree (lt cs.length) ρ ρ' ∧ LV.ok (lt post.length) v = true ∧ e = .returned (den ρ' v) ∧ Sat body amb (lget post) (lt post.length) ρ' w'

theorem Gives.toQy {α : Type} {H : Nat → Option (LO A)} : ∀ {t : T α} {r : α}, Gives H t.toQy r → t.eval = some r
  | .ret a, r, h => by cases h.ret; rfl
  | .bad k, r, h => h.bad.elim
  | .br c t e, r, h => by
    rcases h.br with ⟨rfl, h'⟩ | ⟨rfl, h'⟩
    · exact Gives.toQy (t := t) h'
    · exact Gives.toQy (t := e) h'

theorem nodup_inj : ∀ {l : List Nat}, l.Nodup → ∀ {i j : Nat} {hi : i < l.length} {hj : j < l.length}, l[i] = l[j] → i = j
  | [], _, i, j, hi, hj, _ => by cases hi
  | a :: l, h, 0, 0, _, _, _ => rfl
  | a :: l, h, 0, j + 1, _, hj, e => by
    rw [List.nodup_cons] at h
    simp only [List.getElem_cons_zero, List.getElem_cons_succ] at e
    exact absurd (e ▸ List.getElem_mem _) h.1
  | a :: l, h, i + 1, 0, hi, _, e => by
    rw [List.nodup_cons] at h
    simp only [List.getElem_cons_zero, List.getElem_cons_succ] at e
    exact absurd (e.symm ▸ List.getElem_mem _) h.1
  | a :: l, h, i + 1, j + 1, hi, hj, e => by
    rw [List.nodup_cons] at h
    simp only [List.getElem_cons_succ] at e
    rw [nodup_inj h.2 e]

theorem outN_lt {σ : List Nat} {nx i : Nat} (h : i < σ.length) : outN σ nx i = σ[i] := by simp [outN, List.getElem?_eq_getElem h]
theorem outN_ge {σ : List Nat} {nx i : Nat} (h : σ.length ≤ i) : outN σ nx i = nx + (i - σ.length) := by simp [outN, List.getElem?_eq_none h]
theorem outN_if (σ : List Nat) (nx i : Nat) : (if i < σ.length then outN σ nx i else nx + (i - σ.length)) = outN σ nx i := by
  split
  · rfl
  · rename_i h; rw [outN_ge (by omega)]
theorem outN_idx {σ : List Nat} {nx n : Nat} (h : n ∈ σ) : outN σ nx (idx σ n) = n := by
  simp [outN, idx_spec h]

theorem lget_lt {cs : List (Option (LO A))} {i : Nat} {c : Option (LO A)} (h : cs[i]? = some c) : lget cs i = c := by simp [lget, h]
theorem lget_ge {cs : List (Option (LO A))} {i : Nat} (h : cs.length ≤ i) : lget cs i = none := by simp [lget, List.getElem?_eq_none h]

theorem call_ok (hK : ∀ f S, E.summ f = some S → Keeps P body f S) (hs : SatP body amb H q ρ w pt) {nb : Nat} {f : FuncId} {args : List LV} {r : Rs A} (h : Gives H (callQ E nb f args) r)
    (hargs : okL q args = true) : ∀ q', Sub q q' → (∀ j, nb ≤ j → j < r.nx → q' j = true) → (∀ j, nb ≤ j → j < r.nx → q j = false) →
    Calls P f (denL ρ args).toArray w fun e w' => ∃ ρ', Agree q ρ ρ' ∧ LV.ok q' r.v = true ∧ e = .returned (den ρ' r.v) ∧ Sat body amb (hov r.us H) q' ρ' w' := by
  unfold callQ at h
  split at h
  · exact h.bad.elim
  · rename_i S hS
    obtain ⟨⟨σ, cs⟩, h1, h2⟩ := h.bind
    obtain ⟨a1, ⟨_, a2⟩, a3, a4⟩ := addNames_spec (namesL args) [] List.nodup_nil
    obtain ⟨hm, hlen, hin⟩ := reach_spec (H := H) (q := q) (fun n c hc => (hs.den n c hc).2.1) _ _ _ _ _ h1 rfl
      ⟨a1, by simp, by simp, by simp, fun n hn => (okL_names q args).1 hargs n ((a4 n hn).resolve_left (by simp))⟩
    simp only at hm hlen hin h2
    · obtain ⟨⟨v, post⟩, hSv, h2⟩ := h2.bind
      replace hSv := hSv.toQy
      simp only at h2
      split at h2
      · rename_i hle
        cases h2.ret
        intro q' hsub hq' hq
        have hinn : ∀ n ∈ namesL args, n ∈ σ := fun n hn => hin n (a3 n hn)
        have hcs : cs = σ.map H := by rw [hm.eq, hlen, List.take_length]
        have hag0 : Agree (fun n => decide (n ∈ σ)) ρ (fun n => ρ (outN σ nb (idx σ n))) := fun n hn => by
          show ρ (outN σ nb (idx σ n)) = ρ n
          rw [outN_idx (by simpa using hn)]
        let cs₁ := cs.map fun c => c.map (LO.ren (idx σ))
        have hl₁ : cs₁.length = σ.length := by simp [cs₁, hlen]
        have hcs₁ : ∀ i (h : i < σ.length), lget cs₁ i = (H σ[i]).map (LO.ren (idx σ)) := by
          intro i hi
          refine lget_lt ?_
          simp [cs₁, hcs, List.getElem?_eq_getElem hi]
        have hcok : ∀ i (hi : i < σ.length) c, H σ[i] = some c → LO.ok (fun n => decide (n ∈ σ)) c = true := by
          intro i hi c hc
          refine (LO.ok_names _ c).2 fun n hn => ?_
          have : some c ∈ cs := by rw [hcs, ← hc]; exact List.mem_map.2 ⟨σ[i], List.getElem_mem hi, rfl⟩
          simpa using hm.inn c this n hn
        obtain ⟨amb', hsat, hback⟩ := hs.out_back (outN σ nb) σ.length nb (lget cs₁)
          (fun i hi => by rw [outN_lt hi]; exact hm.ok _ (List.getElem_mem hi))
          (fun i j hi hj e => by
            rw [outN_lt hi, outN_lt hj] at e
            exact nodup_inj hm.nodup e)
          (fun i hi => by
            rw [outN_lt hi, hcs₁ i hi]
            cases hc : H σ[i] with
            | none => rfl
            | some c =>
              simp only [Option.map_some, LO.ren_ren]
              congr 1
              rw [LO.ren_congr (p := fun n => decide (n ∈ σ)) (τ := fun n => n) (fun n hn => outN_idx (by simpa using hn)) (hcok i hi c hc), LO.ren_id])
          (fun i hi => lget_ge (by rw [hl₁]; exact hi))
          (fun i c hc => by
            rcases Nat.lt_or_ge i σ.length with hi | hi
            · rw [hcs₁ i hi] at hc
              cases hc' : H σ[i] with
              | none => rw [hc'] at hc; cases hc
              | some c' =>
                rw [hc'] at hc
                cases hc
                exact LO.ok_ren (p := fun n => decide (n ∈ σ)) (fun n hn => lt_iff.2 (idx_lt (by simpa using hn))) (hcok i hi c' hc')
            · rw [lget_ge (by rw [hl₁]; exact hi)] at hc; cases hc)
        have hargs₁ : okL (lt cs₁.length) (args.map (LV.ren (idx σ))) = true := by
          rw [← renL_eq, hl₁]
          exact okL_ren (p := fun n => decide (n ∈ σ)) (fun n hn => lt_iff.2 (idx_lt (by simpa using hn))) args ((okL_names _ args).2 fun n hn => by simpa using hinn n hn)
        have hcall := hK f S hS _ _ v post hSv hargs₁ amb' (fun i => ρ (outN σ nb i)) w (by rw [hl₁]; exact hsat)
        have hden : denL (fun i => ρ (outN σ nb i)) (args.map (LV.ren (idx σ))) = denL ρ args := by
          rw [← renL_eq, denL_ren]
          exact denL_agree hag0 args ((okL_names _ args).2 fun n hn => by simpa using hinn n hn)
        rw [hden] at hcall
        refine hcall.mono fun e w' => ?_
        rintro ⟨ρ₀, hag, hvok, rfl, hsat'⟩
        rw [hl₁] at hag
        have hnew : ∀ j, j < post.length - σ.length → q (nb + j) = false := fun j hj => hq (nb + j) (by omega) (by show nb + j < nb + (post.length - σ.length); omega)
        have hnew' : ∀ j, j < post.length - σ.length → q' (nb + j) = true := fun j hj => hq' (nb + j) (by omega) (by show nb + j < nb + (post.length - σ.length); omega)
        obtain ⟨ρ', g1, g2, g3⟩ := hback hsat' hag hle hnew q' hsub hnew'
        have hinj : ∀ a b, a < 0 + post.length → b < 0 + post.length → outN σ nb a = outN σ nb b → a = b := by
          intro a b ha hb e
          rcases Nat.lt_or_ge a σ.length with ha' | ha' <;> rcases Nat.lt_or_ge b σ.length with hb' | hb'
          · rw [outN_lt ha', outN_lt hb'] at e
            exact nodup_inj hm.nodup e
          · rw [outN_lt ha', outN_ge hb'] at e
            have := hm.ok _ (List.getElem_mem ha')
            rw [e, hnew _ (by omega)] at this; cases this
          · rw [outN_ge ha', outN_lt hb'] at e
            have := hm.ok _ (List.getElem_mem hb')
            rw [← e, hnew _ (by omega)] at this; cases this
          · rw [outN_ge ha', outN_ge hb'] at e; omega
        have hτ : ∀ i, i < post.length → q' (outN σ nb i) = true := by
          intro i hi
          rcases Nat.lt_or_ge i σ.length with hi' | hi'
          · rw [outN_lt hi']; exact hsub _ (hm.ok _ (List.getElem_mem hi'))
          · rw [outN_ge hi']; exact hnew' _ (by omega)
        refine ⟨ρ', g1, LV.ok_ren (p := lt post.length) (fun i hi => hτ i (lt_iff.1 hi)) v hvok, ?_, g3 _ ?_ ?_⟩
        · show Ending.returned (den ρ₀ v) = .returned (den ρ' (v.ren (outN σ nb)))
          rw [den_ren]
          congr 1
          refine den_agree (p := lt post.length) (fun i hi => ?_) v hvok |>.symm
          have := g2 i (lt_iff.1 hi)
          rw [outN_if] at this
          exact this
        · intro i hi
          show hov (backUs σ nb 0 post) H _ = _
          have := backUs_map (H := H) σ nb 0 post i post[i] (List.getElem?_eq_getElem hi) hinj
          rw [outN_if, lget_lt (List.getElem?_eq_getElem hi)]
          rw [Nat.zero_add] at this
          rw [this]
          congr 2
          funext i
          exact (outN_if σ nb i).symm
        · intro x hx
          exact backUs_other σ nb 0 post x fun j _ hj => by
            have := hx j (by omega)
            rw [outN_if] at this
            exact this
      · exact h2.bad.elim
end
end Go.Sx

/- What the symbolic executor's operations mean: each operation. No condition. -/
set_option linter.unusedVariables false
set_option linter.unusedSimpArgs false
namespace Go.Sx

section
variable {A : Type} {P : Program} {body : A → List (Option (LO A))} {amb : Amb} {H : Nat → Option (LO A)} {E : Env A} {q : Nat → Bool} {ρ : Nat → Bk} {w : World} {pt : Nat → Hp}

structure EnvOk (P : Program) (body : A → List (Option (LO A))) (E : Env A) : Prop where
  ty : TyOk P E
  summ : ∀ f S, E.summ f = some S → Keeps P body f S
  enter : ∀ f S, E.summ f = some S → ∀ args w, (callFunc f args).run P w = .ok (.enter f args) w
  inv : ∀ t name g, E.inv t name = some g → ∀ v args w, (callMethod (.iface t v) name args).run P w = .ok (.enter g (#[v] ++ args)) w
  mapOf : MapOfOk E

theorem range_cells {z : Array Value} {m n : Nat} (hz : z.size = m) (hm : 1 ≤ m) : ((Array.range (n * m)).map (z[· % z.size]!)).toList = (List.range n).flatMap fun _ => z.toList := by
  induction n with
  | zero => simp
  | succ n ih =>
    rw [List.range_succ, List.flatMap_append, ← ih]
    simp only [Array.toList_map, Array.toList_range, List.flatMap_cons, List.flatMap_nil, List.append_nil]
    rw [Nat.succ_mul, List.range_add, List.map_append]
    congr 1
    rw [List.map_map]
    apply List.ext_getElem
    · simp [hz]
    · intro i h1 h2
      simp only [List.length_map, List.length_range] at h1
      simp only [List.getElem_map, List.getElem_range, Function.comp_apply, hz]
      rw [Nat.add_comm, Nat.mul_comm, Nat.add_mul_mod_self_left, Nat.mod_eq_of_lt h1]
      rw [getElem!_pos z i (by omega)]
      simp

theorem buildSlice_run (hT : TyOk P E) {t e : TypeId} {n : Nat} {parts : List (Nat × LV)} {row : Row} {z l : List LV} (hd : descT E t = some (.slice e)) (he : E.ty e = some row)
    (hz : row.zero.cellsOf = some z) (h1 : z.length = row.size) (h2 : 1 ≤ row.size) (h3 : n * row.size ≤ 1000)
    (hf : fillL (fun i => some (i * row.size, row.size)) ((List.range n).flatMap fun _ => z) parts = some l) (hp : ∀ x ∈ parts, LV.ok q x.2 = true) (ρ : Nat → Bk) (w : World) :
    okL q l = true ∧ (Instr.buildSlice t n (parts.map fun x => (x.1, den ρ x.2)).toArray).run P w = .ok (.slice (some ⟨w.heap.size, 0, none⟩) n n) (w.alloc (.cells (denL ρ l).toArray e)) := by
  have hr := hT e row he
  obtain ⟨hc1, _, hc2⟩ := cellsOf_spec (q := q) hz ρ
  have hzok : okL q ((List.range n).flatMap fun _ => z) = true := okL_of fun v hv => by
    obtain ⟨_, _, hv⟩ := List.mem_flatMap.1 hv
    exact okL_mem (hc2 (zero_ok hr)) hv
  have hlok := fill_okL parts _ l hf hzok hp
  have hfill := fill_ok (sizes := fun i => some (i * row.size, row.size)) (place := fun i => some (i * row.size, row.size)) (fun i x h => h) ρ parts _ l hf
  have hcells : ((Array.range (n * row.size)).map ((if n * row.size = 0 then #[] else (denL ρ z).toArray)[· % (if n * row.size = 0 then #[] else (denL ρ z).toArray : Array Value).size]!)) = (denL ρ ((List.range n).flatMap fun _ => z)).toArray := by
    apply Array.toList_inj.1
    by_cases h0 : n = 0
    · subst h0; simp [denL]
    · have hne : n * row.size ≠ 0 := Nat.mul_ne_zero h0 (by omega)
      simp only [if_neg hne]
      rw [range_cells (by simp [denL_length, h1]) h2, denL_eq ρ (List.flatMap _ _), List.map_flatMap]
      simp [denL_eq]
  refine ⟨hlok, ?_⟩
  have hbig : ¬ n * row.size > 2 ^ 24 := by omega
  unfold Instr.buildSlice
  simp only [Sem.run_bind, descT_run hT hd w, Result.andThen_ok, hr.size w, if_neg hbig, Sem.run_pure]
  by_cases h0 : n * row.size = 0
  · simp only [if_pos h0] at hcells ⊢
    simp only [Sem.run_pure, Result.andThen_ok, hcells, List.toList_toArray, hfill, newRow, Sem.run_bind, run_newObj]
    rfl
  · simp only [if_neg h0] at hcells ⊢
    simp only [Sem.run_bind, hr.zero w ρ, hc1, Sem.run_pure, Result.andThen_ok, hcells, List.toList_toArray, hfill, newRow, run_newObj]
    rfl

theorem buildSlice_ok (hT : TyOk P E) (hs : SatP body amb H q ρ w pt) {nb : Nat} {t e : TypeId} {n : Nat} {parts : List (Nat × LV)} {row : Row} {z l : List LV} (hd : descT E t = some (.slice e)) (he : E.ty e = some row)
    (hz : row.zero.cellsOf = some z) (h1 : z.length = row.size) (h2 : 1 ≤ row.size) (h3 : n * row.size ≤ 1000)
    (hf : fillL (fun i => some (i * row.size, row.size)) ((List.range n).flatMap fun _ => z) parts = some l) (hp : ∀ x ∈ parts, LV.ok q x.2 = true) :
    OutV body amb H q ρ nb ⟨.sl nb row.size 0 n n, [(nb, some (.cells l e))], nb + 1⟩ ((Instr.buildSlice t n (parts.map fun x => (x.1, den ρ x.2)).toArray).run P w) := by
  obtain ⟨hlok, hrun⟩ := buildSlice_run (q := q) hT hd he hz h1 h2 h3 hf hp ρ w
  intro q' hsub hq' hq
  have hnb := hq nb (Nat.le_refl _) (Nat.lt_succ_self _)
  have hnb' := hq' nb (Nat.le_refl _) (Nat.lt_succ_self _)
  have hag : Agree q ρ (setBk ρ nb ⟨w.heap.size, 0, 0, undef⟩) := setBk_agree hnb
  have hd' : Den body amb.R (setBk ρ nb ⟨w.heap.size, 0, 0, undef⟩) nb (.cells l e) (Hp.one w.heap.size (.cells (denL ρ l).toArray e)) := by
    have := Den.cells (body := body) (R := amb.R) (ρ := setBk ρ nb ⟨w.heap.size, 0, 0, undef⟩) (n := nb) (l := l) (t := e) (by rw [setBk_same])
    rw [setBk_same, ← denL_eq, denL_agree hag l hlok] at this
    exact this
  refine ⟨setBk ρ nb ⟨w.heap.size, 0, 0, undef⟩, w.alloc (.cells (denL ρ l).toArray e), ?_, hag, by simp only [LV.ok]; exact hnb', ?_⟩
  · rw [hrun]; simp only [den, setBk_same, Nat.zero_mul, Nat.add_zero]
  · rw [hov_one]
    exact ⟨_, hs.alloc hnb hsub hnb' hag (c' := .cells l e) (okL_mono hsub _ hlok) hd'⟩

theorem intsOf_spec : ∀ {l : List LV} {xs : List Int}, intsOf l = some xs → l = xs.map (LV.int .i64)
  | [], xs, h => by cases h; rfl
  | v :: l, xs, h => by
    unfold intsOf at h
    split at h
    · rename_i he; cases he
    · rename_i x l' he
      cases he
      split at h
      · rename_i ys hys
        cases h
        rw [intsOf_spec hys]; rfl
      · cases h
    · cases h

theorem buildSliceI_ok (hT : TyOk P E) (hs : SatP body amb H q ρ w pt) {nb : Nat} {t e : TypeId} {n : Nat} {parts : List (Nat × LV)} {row : Row} {z l : List LV} {xs : List Int} (hd : descT E t = some (.slice e)) (he : E.ty e = some row)
    (hz : row.zero.cellsOf = some z) (h1 : z.length = row.size) (h2 : 1 ≤ row.size) (h3 : n * row.size ≤ 1000)
    (hf : fillL (fun i => some (i * row.size, row.size)) ((List.range n).flatMap fun _ => z) parts = some l) (hp : ∀ x ∈ parts, LV.ok q x.2 = true) (hx : intsOf l = some xs) (hn : xs.length = n) :
    OutV body amb H q ρ nb ⟨.vec nb n, [(nb, some (.vec (.ints xs) e))], nb + 1⟩ ((Instr.buildSlice t n (parts.map fun x => (x.1, den ρ x.2)).toArray).run P w) := by
  obtain ⟨hlok, hrun⟩ := buildSlice_run (q := q) hT hd he hz h1 h2 h3 hf hp ρ w
  have hl := intsOf_spec hx
  intro q' hsub hq' hq
  have hnb := hq nb (Nat.le_refl _) (Nat.lt_succ_self _)
  have hnb' := hq' nb (Nat.le_refl _) (Nat.lt_succ_self _)
  have hag : Agree q ρ (setBk ρ nb ⟨w.heap.size, 0, n, undef⟩) := setBk_agree hnb
  have hd' : Den body amb.R (setBk ρ nb ⟨w.heap.size, 0, n, undef⟩) nb (.vec (.ints xs) e) (Hp.one w.heap.size (.cells (denL ρ l).toArray e)) := by
    have := Den.vec (body := body) (R := amb.R) (ρ := setBk ρ nb ⟨w.heap.size, 0, n, undef⟩) (n := nb) (r := .ints xs) (t := e) [] [] (by rw [setBk_same]; rfl) rfl (by rw [setBk_same]; simp [Rows.size, Rows.len, hn]) (by rw [setBk_same]; simp [Rows.len, hn])
    rw [setBk_same] at this
    have hc : ([] ++ ((Rows.ints xs).cells.map (den (setBk ρ nb ⟨w.heap.size, 0, n, undef⟩)) ++ [])) = denL ρ l := by
      rw [hl, denL_eq]
      simp [Rows.cells, den]
    rw [hc] at this
    exact this
  refine ⟨setBk ρ nb ⟨w.heap.size, 0, n, undef⟩, w.alloc (.cells (denL ρ l).toArray e), ?_, hag, by simp only [LV.ok]; exact hnb', ?_⟩
  · rw [hrun]; simp only [den, setBk_same]
  · rw [hov_one]
    exact ⟨_, hs.alloc hnb hsub hnb' hag (c' := .vec (.ints xs) e) rfl hd'⟩

def isConst : Operand → Bool
  | .const _ => true
  | _ => false
theorem eqGuard_const {op : BinOp} {t : TypeId} {x y : Operand} (hc : isConst x = true ∨ isConst y = true) (P : Program) (w : World) : (eqGuard op t x y .nilIface .nilIface).run P w = .ok () w := by
  cases op <;> first
    | rfl
    | (cases x <;> cases y <;> first
        | rfl
        | (rcases hc with hc | hc <;> cases hc))
theorem nili_core (hT : TyOk P E) {nx : Nat} {op : BinOp} {t : TypeId} {r : Rs A} (h : Gives H (match op, descT E t with
    | .eql, some (.interface _) => rs (.bool true) nx
    | .neq, some (.interface _) => rs (.bool false) nx
    | _, _ => .bad 40) r) (ρ : Nat → Bk) (w : World) : Quiet q nx r ∧ (binOp op t .nilIface .nilIface).run P w = .ok (den ρ r.v) w := by
  have he : ∀ ms, descT E t = some (.interface ms) → (Op.equal t .nilIface .nilIface).run P w = .ok true w := fun ms hd => equal_run (fun w => descT_run hT hd w) w (by simp)
  split at h
  · rename_i hd
    cases h.ret
    exact ⟨.mk' rfl, (eql_run (t := t) (x := .nilIface) (y := .nilIface) (he _ hd) (fun op => by cases op <;> rfl)).1⟩
  · rename_i hd
    cases h.ret
    exact ⟨.mk' rfl, (eql_run (t := t) (x := .nilIface) (y := .nilIface) (he _ hd) (fun op => by cases op <;> rfl)).2⟩
  · exact h.bad.elim
theorem nili_ok (hT : TyOk P E) {nx : Nat} {op : BinOp} {t : TypeId} {x y : Operand} {r : Rs A} (h : Gives H (niliQ E nx op t x y) r) (ρ : Nat → Bk) (w : World) :
    Quiet q nx r ∧ (eqGuard op t x y .nilIface .nilIface).run P w = .ok () w ∧ (binOp op t .nilIface .nilIface).run P w = .ok (den ρ r.v) w := by
  unfold niliQ at h
  cases x <;> cases y <;> first
    | exact ⟨(nili_core hT h ρ w).1, eqGuard_const (.inl rfl) P w, (nili_core (q := q) hT h ρ w).2⟩
    | exact ⟨(nili_core hT h ρ w).1, eqGuard_const (.inr rfl) P w, (nili_core (q := q) hT h ρ w).2⟩
    | exact h.bad.elim
end
end Go.Sx

/- What the symbolic executor's operations mean: all of them. No condition. -/
set_option linter.unusedVariables false
set_option linter.unusedSimpArgs false
namespace Go.Sx

section
variable {A : Type} {P : Program} {body : A → List (Option (LO A))} {amb : Amb} {H : Nat → Option (LO A)} {E : Env A} {q : Nat → Bool} {ρ : Nat → Bk} {w : World} {pt : Nat → Hp}

theorem bin_guard {nx : Nat} {op : BinOp} {t : TypeId} {x y : LV} {r : Rs A} (h : Gives H (binQ E nx op t x y) r) (X Y : Operand) (ρ : Nat → Bk) (w : World) :
    (eqGuard op t X Y (den ρ x) (den ρ y)).run P w = .ok () w := by
  cases x <;> cases y <;> first
    | exact (Gives.bad (k := 39) h).elim
    | (cases op <;> rfl)

/-- An operation that gives a value, from what it gives. -/
theorem wp_outV {nb : Nat} {r : Rs A} {sem : Sem Value} {o : Oper} {fr : List LV} (hx : execOp (actOf ρ fr).eval o = (do pure (.value (← sem)))) (h : OutV body amb H q ρ nb r (sem.run P w))
    {q' : Nat → Bool} (hsub : Sub q q') (hq' : ∀ j, nb ≤ j → j < r.nx → q' j = true) (hq : ∀ j, nb ≤ j → j < r.nx → q j = false) {next : Act → World → Prop} {Q : Exit → Act → World → Prop}
    (hn : ∀ ρ' w', Agree q ρ ρ' → LV.ok q' r.v = true → Sat body amb (hov r.us H) q' ρ' w' → next ((actOf ρ fr).put o.dst (den ρ' r.v)) w') : o.wp P (actOf ρ fr) w next Q := by
  obtain ⟨ρ', w', h1, h2, h3, h4⟩ := h q' hsub hq' hq
  exact wp_value (by rw [hx, Sem.run_bind, h1]; rfl) (hn ρ' w' h2 h3 h4)
theorem wp_outU {nb : Nat} {r : Rs A} {sem : Sem Unit} {o : Oper} {fr : List LV} (hx : execOp (actOf ρ fr).eval o = (do sem; pure .skip)) (h : OutU body amb H q ρ nb r (sem.run P w))
    {q' : Nat → Bool} (hsub : Sub q q') (hq' : ∀ j, nb ≤ j → j < r.nx → q' j = true) (hq : ∀ j, nb ≤ j → j < r.nx → q j = false) {next : Act → World → Prop} {Q : Exit → Act → World → Prop}
    (hn : ∀ ρ' w', Agree q ρ ρ' → LV.ok q' r.v = true → Sat body amb (hov r.us H) q' ρ' w' → next ((actOf ρ fr).put o.dst (den ρ' r.v)) w') : o.wp P (actOf ρ fr) w next Q := by
  obtain ⟨h0, h⟩ := h
  obtain ⟨ρ', w', h1, h2, h4⟩ := h q' hsub hq' hq
  rw [h0] at hn
  exact wp_skip_op (by rw [hx, Sem.run_bind, h1]; rfl) (hn ρ' w' h2 rfl h4)
theorem wp_quiet {nb : Nat} {r : Rs A} {o : Oper} {fr : List LV} (hs : SatP body amb H q ρ w pt) (hr : Quiet q nb r) (hx : (execOp (actOf ρ fr).eval o).run P w = .ok (.value (den ρ r.v)) w)
    {q' : Nat → Bool} (hsub : Sub q q') {next : Act → World → Prop} {Q : Exit → Act → World → Prop}
    (hn : ∀ ρ' w', Agree q ρ ρ' → LV.ok q' r.v = true → Sat body amb (hov r.us H) q' ρ' w' → next ((actOf ρ fr).put o.dst (den ρ' r.v)) w') : o.wp P (actOf ρ fr) w next Q :=
  wp_value hx (hn ρ w (Agree.refl _ _) (LV.ok_mono hsub _ hr.ok) (by rw [hr.us]; exact hs.sub hsub))

theorem wp_call {nb : Nat} {r : Rs A} {o : Oper} {fr : List LV} {g : FuncId} {args : List LV} (hE : EnvOk P body E) (hs : SatP body amb H q ρ w pt) (h : Gives H (callQ E nb g args) r) (ha : okL q args = true)
    (hx : ∀ S, E.summ g = some S → (execOp (actOf ρ fr).eval o).run P w = .ok (.enter g (denL ρ args).toArray) w) {q' : Nat → Bool} (hsub : Sub q q') (hq' : ∀ j, nb ≤ j → j < r.nx → q' j = true) (hq : ∀ j, nb ≤ j → j < r.nx → q j = false)
    {next : Act → World → Prop} {Q : Exit → Act → World → Prop}
    (hn : ∀ ρ' w', Agree q ρ ρ' → LV.ok q' r.v = true → Sat body amb (hov r.us H) q' ρ' w' → next ((actOf ρ fr).put o.dst (den ρ' r.v)) w') : o.wp P (actOf ρ fr) w next Q := by
  have hc := call_ok hE.summ hs h ha q' hsub hq' hq
  have hS : ∃ S, E.summ g = some S := by
    unfold callQ at h
    split at h
    · exact h.bad.elim
    · rename_i S hS; exact ⟨S, hS⟩
  obtain ⟨S, hS⟩ := hS
  unfold Oper.wp
  rw [hx S hS]
  refine hc.mono fun e w' => ?_
  rintro ⟨ρ', h1, h2, rfl, h3⟩
  exact hn ρ' w' h1 h2 h3

theorem evs_eq {fr : List LV} : ∀ {l : List Operand}, l.all evOk = true → l.map (actOf ρ fr).eval = denL ρ (l.map (evL fr))
  | [], _ => rfl
  | x :: l, h => by
    simp only [List.all_cons, Bool.and_eq_true] at h
    simp only [List.map_cons, denL, act_eval h.1, evs_eq h.2]
theorem evs_ok {fr : List LV} (hf : okL q fr = true) (l : List Operand) : okL q (l.map (evL fr)) = true := okL_of fun v hv => by
  obtain ⟨x, _, rfl⟩ := List.mem_map.1 hv
  exact evL_ok hf x
theorem arr_map {fr : List LV} {xs : Array Operand} (h : xs.toList.all evOk = true) : xs.map (actOf ρ fr).eval = (denL ρ (xs.toList.map (evL fr))).toArray := by
  apply Array.toList_inj.1
  rw [Array.toList_map, evs_eq h]
theorem opt_map {fr : List LV} {x : Option Operand} (h : x.toList.all evOk = true) : x.map (actOf ρ fr).eval = (x.map (evL fr)).map (den ρ) := by
  cases x with
  | none => rfl
  | some x => simp only [Option.toList, List.all_cons, List.all_nil, Bool.and_true] at h; simp [act_eval h]
theorem parts_map {fr : List LV} {ps : Array (Nat × Operand)} (h : (ps.toList.map (·.2)).all evOk = true) :
    (ps.map fun (i, x) => (i, (actOf ρ fr).eval x)) = (((ps.toList.map fun p => (p.1, evL fr p.2)).map fun x => (x.1, den ρ x.2))).toArray := by
  apply Array.toList_inj.1
  rw [Array.toList_map, List.map_map]
  simp only [List.toList_toArray]
  refine List.map_congr_left fun p hp => ?_
  simp only [Function.comp]
  rw [act_eval]
  rw [List.all_eq_true] at h
  exact h _ (List.mem_map.2 ⟨p, hp, rfl⟩)
theorem parts_ok {fr : List LV} (hf : okL q fr = true) (ps : Array (Nat × Operand)) : ∀ x ∈ (ps.toList.map fun p => (p.1, evL fr p.2)), LV.ok q x.2 = true := by
  intro x hx
  obtain ⟨p, _, rfl⟩ := List.mem_map.1 hx
  exact evL_ok hf p.2

theorem op_ok (hE : EnvOk P body E) (hs : SatP body amb H q ρ w pt) {nb : Nat} {fr : List LV} (hf : okL q fr = true) {o : Oper} (ha : allOk o = true) {r : Rs A} (h : Gives H (opQ E nb (evL fr) o) r)
    {q' : Nat → Bool} (hsub : Sub q q') (hq' : ∀ j, nb ≤ j → j < r.nx → q' j = true) (hq : ∀ j, nb ≤ j → j < r.nx → q j = false) {next : Act → World → Prop} {Q : Exit → Act → World → Prop}
    (hn : ∀ ρ' w', Agree q ρ ρ' → LV.ok q' r.v = true → Sat body amb (hov r.us H) q' ρ' w' → next ((actOf ρ fr).put o.dst (den ρ' r.v)) w') : o.wp P (actOf ρ fr) w next Q := by
  have hT := hE.ty
  obtain ⟨dst, op, type, pos, after, guard⟩ := o
  simp only [allOk] at ha
  unfold opQ at h
  simp only at h
  cases op
  case move x =>
    cases h.ret
    simp only [Op.operands, List.all_cons, List.all_nil, Bool.and_true] at ha
    exact wp_quiet hs ⟨rfl, rfl, evL_ok hf x⟩ (by simp only [execOp, Sem.run_pure, act_eval ha]) hsub hn
  case assign x =>
    cases h.ret
    simp only [Op.operands, List.all_cons, List.all_nil, Bool.and_true] at ha
    exact wp_quiet hs ⟨rfl, rfl, evL_ok hf x⟩ (by simp only [execOp, Sem.run_pure, act_eval ha]) hsub hn
  case pick c a b =>
    simp only [Op.operands, List.all_cons, List.all_nil, Bool.and_true, Bool.and_eq_true] at ha
    dsimp only at h
    split at h
    · rename_i t ht
      rcases h.br with ⟨hc, h'⟩ | ⟨hc, h'⟩ <;> clear h
      · cases h'.ret
        exact wp_quiet hs ⟨rfl, rfl, evL_ok hf a⟩ (by simp [execOp, act_eval ha.1, act_eval ha.2.1, act_eval ha.2.2, ht, den, hc, asBool]) hsub hn
      · cases h'.ret
        exact wp_quiet hs ⟨rfl, rfl, evL_ok hf b⟩ (by simp [execOp, act_eval ha.1, act_eval ha.2.1, act_eval ha.2.2, ht, den, hc, asBool]) hsub hn
    · exact h.bad.elim
  case alloc t =>
    dsimp only at h
    split at h
    · rename_i row hrow
      have hr := hT t row hrow
      have := newVar_ok (P := P) hs (t := t) h (zero_ok hr)
      refine wp_outV (sem := Instr.alloc t true (.tuple #[])) rfl ?_ hsub hq' hq hn
      have he : (Instr.alloc t true (.tuple #[])).run P w = ((newVar t (den ρ row.zero)) >>= fun a => pure (Value.pointer (some a))).run P w := by
        simp only [Instr.alloc, Sem.run_bind, hr.zero w ρ, Result.andThen_ok]
      rw [he]; exact this
    · exact h.bad.elim
  case box t x =>
    simp only [Op.operands, List.all_cons, List.all_nil, Bool.and_true] at ha
    have := newVar_ok (P := P) hs (t := t) h (evL_ok hf x)
    refine wp_outV (sem := Instr.box t (den ρ (evL fr x))) (by simp only [execOp, act_eval ha]) this hsub hq' hq hn
  case build t parts =>
    simp only [Op.operands] at ha
    obtain ⟨h1, h2⟩ := build_ok (q := q) hT h (parts_ok hf parts) ρ w
    exact wp_quiet hs h1 (by simp only [execOp, parts_map ha, Sem.run_bind, h2, Result.andThen_ok, Sem.run_pure]) hsub hn
  case buildSlice t n parts =>
    simp only [Op.operands] at ha
    dsimp only at h
    split at h
    · rename_i e hd
      split at h
      · rename_i row hrow
        split at h
        · rename_i z hz
          split at h
          · rename_i hc
            simp only [Bool.and_eq_true, beq_iff_eq, decide_eq_true_eq] at hc
            split at h
            · rename_i l hl
              split at h
              · rename_i xs hxs
                split at h
                · rename_i hb
                  simp only [Bool.and_eq_true] at hb
                  cases h.ret
                  exact wp_outV (sem := Instr.buildSlice t n _) (by simp only [execOp, parts_map ha]) (buildSliceI_ok hT hs hd hrow hz hc.1.1 hc.1.2 hc.2 hl (parts_ok hf parts) hxs (Nat.eq_of_beq_eq_true hb.2)) hsub hq' hq hn
                · cases h.ret
                  exact wp_outV (sem := Instr.buildSlice t n _) (by simp only [execOp, parts_map ha]) (buildSlice_ok hT hs hd hrow hz hc.1.1 hc.1.2 hc.2 hl (parts_ok hf parts)) hsub hq' hq hn
              · cases h.ret
                exact wp_outV (sem := Instr.buildSlice t n _) (by simp only [execOp, parts_map ha]) (buildSlice_ok hT hs hd hrow hz hc.1.1 hc.1.2 hc.2 hl (parts_ok hf parts)) hsub hq' hq hn
            · exact h.bad.elim
          · exact h.bad.elim
        · exact h.bad.elim
      · exact h.bad.elim
    · exact h.bad.elim
  case load t a =>
    simp only [Op.operands, List.all_cons, List.all_nil, Bool.and_true] at ha
    exact wp_outV (sem := Instr.loadAt t (den ρ (evL fr a))) (by simp only [execOp, act_eval ha]) (load_ok hT hs h (evL_ok hf a)) hsub hq' hq hn
  case store t a x =>
    simp only [Op.operands, List.all_cons, List.all_nil, Bool.and_true, Bool.and_eq_true] at ha
    exact wp_outU (sem := Instr.storeAt t (den ρ (evL fr a)) (den ρ (evL fr x))) (by simp only [execOp, act_eval ha.1, act_eval ha.2]) (store_ok hT hs h (evL_ok hf x)) hsub hq' hq hn
  case nilCheck x =>
    simp only [Op.operands, List.all_cons, List.all_nil, Bool.and_true] at ha
    have hok := evL_ok hf x
    dsimp only at h
    split at h <;> first
      | exact h.bad.elim
      | (rename_i hx
         cases h.ret
         rw [hx] at hok
         exact wp_quiet hs ⟨rfl, rfl, hok⟩ (by simp only [execOp, act_eval ha, hx, den, Sem.run_pure]) hsub hn)
  case binOp op t x y yt =>
    simp only [Op.operands, List.all_cons, List.all_nil, Bool.and_true, Bool.and_eq_true] at ha
    dsimp only at h
    split at h
    · rename_i hx hy
      obtain ⟨h1, h2, h3⟩ := nili_ok (q := q) hT h ρ w
      exact wp_quiet hs h1 (by simp only [execOp, act_eval ha.1, act_eval ha.2, hx, hy, den, Sem.run_bind, h2, h3, Result.andThen_ok, Sem.run_pure]) hsub hn
    · obtain ⟨h1, h2⟩ := bin_ok (p := q) hT h ρ w
      have h3 := bin_guard (P := P) h x y ρ w
      exact wp_quiet hs h1 (by simp only [execOp, act_eval ha.1, act_eval ha.2, Sem.run_bind, h2, h3, Result.andThen_ok, Sem.run_pure]) hsub hn
  case unOp op t x =>
    simp only [Op.operands, List.all_cons, List.all_nil, Bool.and_true] at ha
    cases op <;> dsimp only at h
    case not =>
      split at h
      · rename_i b hb
        cases h.ret
        exact wp_quiet hs ⟨rfl, rfl, rfl⟩ (by simp [execOp, act_eval ha, hb, den, Op.unary]) hsub hn
      · exact h.bad.elim
    case neg =>
      split at h
      · rename_i n hb
        cases h.ret
        exact wp_quiet hs ⟨rfl, rfl, rfl⟩ (by simp [execOp, act_eval ha, hb, den, Op.unary, Op.intArith, w64]) hsub hn
      · exact h.bad.elim
    all_goals exact h.bad.elim
  case convert s d x =>
    simp only [Op.operands, List.all_cons, List.all_nil, Bool.and_true] at ha
    dsimp only at h
    split at h
    · rename_i n h1 h2 hx
      cases h.ret
      exact wp_quiet hs ⟨rfl, rfl, rfl⟩ (by simp [execOp, act_eval ha, hx, den, convert, descT_run hT h1, descT_run hT h2, Conv.intToInt, w64]) hsub hn
    · exact h.bad.elim
  case makeInterface t x =>
    simp only [Op.operands, List.all_cons, List.all_nil, Bool.and_true] at ha
    dsimp only at h
    split at h
    · exact h.bad.elim
    · rename_i d hd hne
      cases h.ret
      refine wp_quiet hs ⟨rfl, rfl, evL_ok hf x⟩ ?_ hsub hn
      simp only [execOp, act_eval ha, Instr.makeInterface, Sem.run_bind, descT_run hT hne w, Result.andThen_ok]
      simp [den]
    · exact h.bad.elim
  case makeFunc fn first caps =>
    cases fn <;> dsimp only at h
    case func f =>
      simp only [Op.operands, Array.toList_append, List.all_append, Bool.and_eq_true] at ha
      cases h.ret
      exact wp_quiet hs ⟨rfl, rfl, by simp [LV.ok, evs_ok hf]⟩ (by simp [execOp, arr_map ha.1, arr_map ha.2, Instr.makeFunc, den]) hsub hn
    all_goals exact h.bad.elim
  case makeMap t rsv =>
    cases rsv <;> dsimp only at h
    · split at h
      · rename_i c hc
        cases h.ret
        exact wp_outV (sem := Instr.makeMap t none) rfl (makeMap_ok hE.mapOf hs hc) hsub hq' hq hn
      · exact h.bad.elim
    · exact h.bad.elim
  case makeSlice t l c =>
    simp only [Op.operands, List.all_cons, List.all_nil, Bool.and_true, Bool.and_eq_true] at ha
    exact wp_outV (sem := Instr.makeSlice t (den ρ (evL fr l)) (den ρ (evL fr c))) (by simp only [execOp, act_eval ha.1, act_eval ha.2]) (makeSlice_ok hT hs h) hsub hq' hq hn
  case slice t x lo hi mx =>
    simp only [Op.operands, Array.toList_append, List.all_append, Bool.and_eq_true, List.all_cons, List.all_nil, Bool.and_true, Option.toList_toArray] at ha
    exact wp_outV (sem := Instr.sliceAt t (den ρ (evL fr x)) ((lo.map (evL fr)).map (den ρ)) ((hi.map (evL fr)).map (den ρ)) ((mx.map (evL fr)).map (den ρ)))
      (by simp only [execOp, act_eval ha.1.1.1, opt_map ha.1.1.2, opt_map ha.1.2, opt_map ha.2]) (slice_ok hT hs h (evL_ok hf x)) hsub hq' hq hn
  case fieldAddr t x f =>
    simp only [Op.operands, List.all_cons, List.all_nil, Bool.and_true] at ha
    obtain ⟨h1, h2⟩ := fieldAddr_ok hT h (evL_ok hf x) ρ w
    exact wp_quiet hs h1 (by simp only [execOp, act_eval ha, Sem.run_bind, h2, Result.andThen_ok, Sem.run_pure]) hsub hn
  case field t x f =>
    simp only [Op.operands, List.all_cons, List.all_nil, Bool.and_true] at ha
    obtain ⟨h1, h2⟩ := field_ok hT h (evL_ok hf x) ρ w
    exact wp_quiet hs h1 (by simp only [execOp, act_eval ha, Sem.run_bind, h2, Result.andThen_ok, Sem.run_pure]) hsub hn
  case indexAddr t x i =>
    simp only [Op.operands, List.all_cons, List.all_nil, Bool.and_true, Bool.and_eq_true] at ha
    obtain ⟨h1, h2⟩ := indexAddr_ok hT h (evL_ok hf x) ρ w
    exact wp_quiet hs h1 (by simp only [execOp, act_eval ha.1, act_eval ha.2, Sem.run_bind, h2, Result.andThen_ok, Sem.run_pure]) hsub hn
  case index t x i =>
    simp only [Op.operands, List.all_cons, List.all_nil, Bool.and_true, Bool.and_eq_true] at ha
    obtain ⟨h1, h2⟩ := index_ok hT h (evL_ok hf x) ρ w
    exact wp_quiet hs h1 (by simp only [execOp, act_eval ha.1, act_eval ha.2, Sem.run_bind, h2, Result.andThen_ok, Sem.run_pure]) hsub hn
  case lookup t m k ok =>
    cases ok <;> dsimp only at h
    · simp only [Op.operands, List.all_cons, List.all_nil, Bool.and_true, Bool.and_eq_true] at ha
      exact wp_outV (sem := Instr.lookup t (den ρ (evL fr m)) (den ρ (evL fr k)) false) (by simp only [execOp, act_eval ha.1, act_eval ha.2]) (lookup_ok hT hs h) hsub hq' hq hn
    · exact h.bad.elim
  case mapUpdate t m k v =>
    simp only [Op.operands, List.all_cons, List.all_nil, Bool.and_true, Bool.and_eq_true] at ha
    exact wp_outU (sem := Instr.mapUpdate t (den ρ (evL fr m)) (den ρ (evL fr k)) (den ρ (evL fr v))) (by simp only [execOp, act_eval ha.1, act_eval ha.2.1, act_eval ha.2.2]) (mapUpdate_ok hT hs h) hsub hq' hq hn
  case mapEntry t m k =>
    simp only [Op.operands, List.all_cons, List.all_nil, Bool.and_true, Bool.and_eq_true] at ha
    exact wp_outV (sem := Instr.mapEntry t (den ρ (evL fr m)) (den ρ (evL fr k))) (by simp only [execOp, act_eval ha.1, act_eval ha.2]) (mapEntry_ok hT hs h) hsub hq' hq hn
  case entryStore t m k v =>
    simp only [Op.operands, List.all_cons, List.all_nil, Bool.and_true, Bool.and_eq_true] at ha
    exact wp_outU (sem := Instr.entryStore t (den ρ (evL fr m)) (den ρ (evL fr k)) (den ρ (evL fr v))) (by simp only [execOp, act_eval ha.1, act_eval ha.2.1, act_eval ha.2.2]) (entryStore_ok hs h) hsub hq' hq hn
  case typeAssert x xt a ok =>
    simp only [Op.operands, List.all_cons, List.all_nil, Bool.and_true] at ha
    obtain ⟨h1, h2⟩ := typeAssert_ok (xt := xt) hT h (evL_ok hf x) ρ w
    exact wp_quiet hs h1 (by simp only [execOp, act_eval ha, Sem.run_bind, h2, Result.andThen_ok, Sem.run_pure]) hsub hn
  case extract x i =>
    simp only [Op.operands, List.all_cons, List.all_nil, Bool.and_true] at ha
    obtain ⟨h1, h2⟩ := extract_ok (P := P) h (evL_ok hf x) ρ w
    exact wp_quiet hs h1 (by simp only [execOp, act_eval ha, Sem.run_bind, h2, Result.andThen_ok, Sem.run_pure]) hsub hn
  case call c =>
    obtain ⟨callee, args, argTypes⟩ := c
    cases callee with
    | value f =>
      simp only [Op.operands, Call.operands, Array.toList_append, List.all_append, Bool.and_eq_true, List.all_cons, List.all_nil, Bool.and_true] at ha
      dsimp only at h
      split at h
      · rename_i g first caps hg
        have hfo := evL_ok hf f
        rw [hg] at hfo
        simp only [LV.ok, Bool.and_eq_true] at hfo
        refine wp_call hE hs h (okL_app (okL_app hfo.1 (evs_ok hf _)) hfo.2) (fun S hS => ?_) hsub hq' hq hn
        have he := hE.enter g S hS
        simp only [execOp, resolve, act_eval ha.1, hg, den, Deferred.ofValue, arr_map ha.2, Sem.run_bind, Sem.run_pure, Result.andThen_ok, invoke, he]
        congr 2
        simp [denL_append]
      · exact h.bad.elim
    | invoke x name =>
      simp only [Op.operands, Call.operands, Array.toList_append, List.all_append, Bool.and_eq_true, List.all_cons, List.all_nil, Bool.and_true] at ha
      dsimp only at h
      split at h
      · rename_i t v hv
        have hfo := evL_ok hf x
        rw [hv] at hfo
        split at h
        · rename_i g hg
          refine wp_call hE hs h (by simp only [okL, Bool.and_eq_true]; exact ⟨hfo, evs_ok hf _⟩) (fun S hS => ?_) hsub hq' hq hn
          have he := hE.inv t name g hg (den ρ v) (denL ρ (args.toList.map (evL fr))).toArray w
          simp only [execOp, resolve, act_eval ha.1, hv, den, arr_map ha.2, Sem.run_bind, Sem.run_pure, Result.andThen_ok, invoke]
          have h0 : (#[Value.iface t (den ρ v)] ++ (denL ρ (args.toList.map (evL fr))).toArray : Array Value)[0]? = some (.iface t (den ρ v)) := by simp
          have h1 : (#[Value.iface t (den ρ v)] ++ (denL ρ (args.toList.map (evL fr))).toArray : Array Value).extract 1 (#[Value.iface t (den ρ v)] ++ (denL ρ (args.toList.map (evL fr))).toArray : Array Value).size = (denL ρ (args.toList.map (evL fr))).toArray := by
            apply Array.toList_inj.1
            simp
          rw [h0, h1]
          simp only [he, denL]
          congr 2
          simp
        · exact h.bad.elim
      · exact h.bad.elim
    | builtin b =>
      simp only [Op.operands, Call.operands, Array.toList_append, List.all_append, Bool.and_eq_true, List.all_cons, List.all_nil, Bool.and_true, true_and] at ha
      have hargs := arr_map (ρ := ρ) (fr := fr) ha
      cases b <;> dsimp only at h <;> first
        | exact h.bad.elim
        | skip
      case append =>
        split at h
        · rename_i x y t t2 hx ht
          have hx' : args = #[x, y] := by apply Array.toList_inj.1; rw [hx]
          have ht' : argTypes = #[t, t2] := by apply Array.toList_inj.1; rw [ht]
          subst hx' ht'
          simp only [List.map_cons, List.map_nil, denL] at hargs
          refine wp_outV (sem := Builtin.append_ #[t, t2] type #[den ρ (evL fr x), den ρ (evL fr y)]) ?_ (append_ok hT hs h (evL_ok hf x)) hsub hq' hq hn
          simp only [execOp, resolve, hargs]
          rfl
        · exact h.bad.elim
      case len =>
        split at h
        · rename_i x t hx ht
          have hx' : args = #[x] := by apply Array.toList_inj.1; rw [hx]
          have ht' : argTypes = #[t] := by apply Array.toList_inj.1; rw [ht]
          subst hx' ht'
          simp only [List.map_cons, List.map_nil, denL] at hargs
          obtain ⟨h1, h2⟩ := len_ok (p := q) (rt := type) hT h ρ w
          refine wp_quiet hs h1 ?_ hsub hn
          simp only [execOp, resolve, hargs, Sem.run_bind, Sem.run_pure, Result.andThen_ok, invoke, builtin, h2]
        · exact h.bad.elim
      case max =>
        split at h
        · rename_i x y hx
          have hx' : args = #[x, y] := by apply Array.toList_inj.1; rw [hx]
          subst hx'
          simp only [List.map_cons, List.map_nil, denL] at hargs
          split at h
          · rename_i v hv
            cases h.ret
            obtain ⟨h1, h2⟩ := max_ok (p := q) (P := P) hv type argTypes ρ w
            refine wp_quiet hs ⟨rfl, rfl, h1⟩ ?_ hsub hn
            simp only [execOp, resolve, hargs, Sem.run_bind, Sem.run_pure, Result.andThen_ok, invoke, builtin, h2]
          · exact h.bad.elim
        · exact h.bad.elim
      case min =>
        split at h
        · rename_i x y hx
          have hx' : args = #[x, y] := by apply Array.toList_inj.1; rw [hx]
          subst hx'
          simp only [List.map_cons, List.map_nil, denL] at hargs
          split at h
          · rename_i v hv
            cases h.ret
            obtain ⟨h1, h2⟩ := min_ok (p := q) (P := P) hv type argTypes ρ w
            refine wp_quiet hs ⟨rfl, rfl, h1⟩ ?_ hsub hn
            simp only [execOp, resolve, hargs, Sem.run_bind, Sem.run_pure, Result.andThen_ok, invoke, builtin, h2]
          · exact h.bad.elim
        · exact h.bad.elim
      case clear =>
        split at h
        · rename_i x t hx ht
          have hx' : args = #[x] := by apply Array.toList_inj.1; rw [hx]
          have ht' : argTypes = #[t] := by apply Array.toList_inj.1; rw [ht]
          subst hx' ht'
          simp only [List.map_cons, List.map_nil, denL] at hargs
          refine wp_outV (sem := Builtin.clear_ #[t] type #[den ρ (evL fr x)]) ?_ (clear_ok hT hs h) hsub hq' hq hn
          simp only [execOp, resolve, hargs]
          rfl
        · exact h.bad.elim
  all_goals exact h.bad.elim
end
end Go.Sx

/- The symbolic executor is sound: guards, and operations in one order. No condition. -/
set_option linter.unusedVariables false
set_option linter.unusedSimpArgs false
namespace Go.Sx

section
variable {A : Type} {P : Program} {body : A → List (Option (LO A))} {amb : Amb} {E : Env A}

/-- The state is what the frame and the world hold. -/
structure Good (body : A → List (Option (LO A))) (amb : Amb) (st : St A) (ρ : Nat → Bk) (w : World) : Prop where
  fr : okL (lt st.nx) st.fr = true
  sat : Sat body amb (hget st.hp) (lt st.nx) ρ w

/-- Whether the operation is wanted, by the frame. -/
def wantL (ops : Array Oper) (o : Oper) (fr : List LV) : Option Bool :=
  match o.guard with
  | none => some true
  | some (g, want) => match (ops[g]?).bind (·.dst) with
    | none => some false
    | some d => match fr[d]? with
      | some (.bool c) => some (c == want)
      | some .undef => some false
      | _ => none

theorem wantL_spec {ops : Array Oper} {o : Oper} {fr : List LV} {b : Bool} (h : wantL ops o fr = some b) (ρ : Nat → Bk) : Region.wanted o (yielded ops (actOf ρ fr).tmps) = b := by
  unfold wantL at h
  unfold Region.wanted
  cases hg : o.guard with
  | none => rw [hg] at h; simpa using h
  | some gw =>
    obtain ⟨g, want⟩ := gw
    rw [hg] at h
    simp only at h ⊢
    unfold yielded
    cases hd : (ops[g]?).bind (·.dst) with
    | none => rw [hd] at h; simpa using h
    | some d =>
      rw [hd] at h
      simp only at h
      simp only [Option.bind_some, actOf, List.getElem?_toArray, denL_getElem?]
      split at h
      · rename_i c hc
        rw [hc]
        cases h
        simp only [Option.map_some, den]
        cases c <;> cases want <;> rfl
      · rename_i hc
        rw [hc]
        cases h
        simp only [Option.map_some, den]
        rfl
      · cases h

theorem set_same {l : List LV} {i : Nat} {v : LV} (h : l[i]? = some v) : l.set i v = l := by
  apply List.ext_getElem?
  intro j
  rw [List.getElem?_set]
  split
  · rename_i e
    subst e
    rw [if_pos (List.getElem?_eq_some_iff.1 h).1, h]
  · rfl

theorem guarded_eval {β : Type} {ops : Array Oper} {o : Oper} {st : St A} {yes no : St A → T β} {b : β} (h : (guarded ops o st yes no).eval = some b) :
    (wantL ops o st.fr = some true ∧ (yes st).eval = some b) ∨ (wantL ops o st.fr = some false ∧ (no st).eval = some b) := by
  unfold guarded at h
  unfold wantL
  cases hg : o.guard with
  | none => rw [hg] at h; exact .inl ⟨rfl, h⟩
  | some gw =>
    obtain ⟨g, want⟩ := gw
    rw [hg] at h
    simp only at h ⊢
    cases hd : (ops[g]?).bind (·.dst) with
    | none => rw [hd] at h; exact .inr ⟨rfl, h⟩
    | some d =>
      rw [hd] at h
      simp only at h ⊢
      split at h
      · rename_i c hc
        have hst : ({ st with fr := st.fr.set d (.bool c) } : St A) = st := by rw [set_same hc]
        cases c
        · simp only [T.eval, cond] at h
          rw [hst] at h
          cases want
          · exact .inl ⟨by simp [hc], h⟩
          · exact .inr ⟨by simp [hc], h⟩
        · simp only [T.eval, cond] at h
          rw [hst] at h
          cases want
          · exact .inr ⟨by simp [hc], h⟩
          · exact .inl ⟨by simp [hc], h⟩
      · rename_i hc
        exact .inr ⟨by simp [hc], h⟩
      · cases h

theorem stepL_ok (hE : EnvOk P body E) {o : Oper} {st st' : St A} (h : (stepL E o st).eval = some st') {ρ : Nat → Bk} {w : World} (hg : Good body amb st ρ w) {next : Act → World → Prop} {Q : Exit → Act → World → Prop}
    (hn : ∀ ρ' w', Agree (lt st.nx) ρ ρ' → st.nx ≤ st'.nx → Good body amb st' ρ' w' → next (actOf ρ' st'.fr) w') : o.wp P (actOf ρ st.fr) w next Q := by
  unfold stepL at h
  split at h
  · cases h
  · rename_i ha
    rw [T.eval_bind, Option.bind_eq_some_iff] at h
    obtain ⟨⟨r, acc⟩, h1, h2⟩ := h
    simp only at h2
    split at h2
    · rename_i hle
      cases h2
      replace hle := Nat.le_of_ble_eq_true hle
      obtain ⟨pt, hs⟩ := hg.sat
      refine op_ok hE hs hg.fr ha ⟨[], acc, h1⟩ (q' := lt r.nx) (Sub.lt hle) (fun j _ h => lt_iff.2 h) (fun j h _ => ?_) ?_
      · simp [lt]; exact h
      · intro ρ' w' hag hv hsat
        rw [← act_agree hag hg.fr, act_put]
        refine hn ρ' w' hag hle ⟨putL_ok (okL_mono (Sub.lt hle) _ hg.fr) hv, ?_⟩
        show Sat body amb (hget (r.us ++ st.hp)) (lt r.nx) ρ' w'
        rw [show hget (r.us ++ st.hp) = hov r.us (hget st.hp) from funext fun n => hget_append _ _ n]
        exact hsat
    · cases h2

theorem seqOps_ok (hE : EnvOk P body E) {ops : Array Oper} {Q : Exit → Act → World → Prop} : ∀ (l : List Oper) (k : Nat), ops.toList.drop k = l → ∀ (st st' : St A), (seqOps E ops l st).eval = some st' → ∀ (ρ : Nat → Bk) (w : World), Good body amb st ρ w →
    (∀ ρ' w', Agree (lt st.nx) ρ ρ' → st.nx ≤ st'.nx → Good body amb st' ρ' w' → Q .normal (actOf ρ' st'.fr) w') → wpOps P ops Q (List.range' k l.length) (actOf ρ st.fr) w
  | [], k, hl, st, st', h, ρ, w, hg, hQ => by
    cases h
    exact hQ ρ w (Agree.refl _ _) (Nat.le_refl _) hg
  | o :: l, k, hl, st, st', h, ρ, w, hg, hQ => by
    have hk : ops[k]? = some o := by
      have := congrArg (·[0]?) hl
      simpa using this
    have hl' : ops.toList.drop (k + 1) = l := by
      have := congrArg (List.drop 1) hl
      simpa [List.drop_drop, Nat.add_comm] using this
    simp only [seqOps, T.eval_bind, Option.bind_eq_some_iff] at h
    obtain ⟨st1, h1, h2⟩ := h
    simp only [List.length_cons, List.range'_succ, wpOps, hk]
    rcases guarded_eval h1 with ⟨hw, h3⟩ | ⟨hw, h3⟩
    · rw [if_pos (wantL_spec hw ρ)]
      refine .inl (stepL_ok hE h3 hg fun ρ' w' hag hle hg' => ?_)
      exact seqOps_ok hE l (k + 1) hl' st1 st' h2 ρ' w' hg' fun ρ'' w'' hag' hle' hg'' => hQ ρ'' w'' (hag.trans hag' (Sub.lt hle)) (Nat.le_trans hle hle') hg''
    · rw [if_neg (by rw [wantL_spec hw ρ]; exact Bool.false_ne_true)]
      cases h3
      have hp : (actOf ρ st.fr).put o.dst undef = actOf ρ (putL st.fr o.dst .undef) := act_put ρ st.fr o.dst .undef
      rw [hp]
      exact seqOps_ok hE l (k + 1) hl' _ st' h2 ρ w ⟨putL_ok hg.fr rfl, hg.sat⟩ hQ
end
end Go.Sx

/- The symbolic executor is sound: what an operation asks for. No condition. -/
set_option linter.unusedVariables false
set_option linter.unusedSimpArgs false
namespace Go.Sx

section
variable {A : Type}

theorem Qy.run_acc {α : Type} {H : Nat → Option (LO A)} : ∀ {q : Qy A α} {l acc : List Nat} {r : α}, (q.run H l).eval = some (r, acc) → ∀ n ∈ l, n ∈ acc
  | .ret a, l, acc, r, h, n, hn => by
    simp only [Qy.run, T.eval, Option.some.injEq, Prod.mk.injEq] at h
    rw [← h.2]; exact hn
  | .br c t e, l, acc, r, h, n, hn => by
    cases c
    · exact Qy.run_acc (q := e) h n hn
    · exact Qy.run_acc (q := t) h n hn
  | .get m k, l, acc, r, h, n, hn => Qy.run_acc (q := k (H m)) h n (List.mem_cons_of_mem _ hn)
  | .bad k, l, acc, r, h, n, hn => by cases h

theorem Qy.run_congr {α : Type} {H H' : Nat → Option (LO A)} : ∀ {q : Qy A α} {l acc : List Nat} {r : α}, (q.run H l).eval = some (r, acc) → (∀ n ∈ acc, H' n = H n) → (q.run H' l).eval = some (r, acc)
  | .ret a, l, acc, r, h, hh => h
  | .br c t e, l, acc, r, h, hh => by
    cases c
    · exact Qy.run_congr (q := e) h hh
    · exact Qy.run_congr (q := t) h hh
  | .get m k, l, acc, r, h, hh => by
    have hm : m ∈ acc := Qy.run_acc (q := k (H m)) h m List.mem_cons_self
    show ((k (H' m)).run H' (m :: l)).eval = some (r, acc)
    rw [hh m hm]
    exact Qy.run_congr (q := k (H m)) h hh
  | .bad k, l, acc, r, h, hh => by cases h

theorem evL_congr {fr fr' : List LV} {x : Operand} (h : ∀ t, x = .tmp t → fr'[t]? = fr[t]?) : evL fr' x = evL fr x := by
  cases x with
  | tmp t => simp only [evL, h t rfl]
  | _ => rfl

theorem opQ_congr {E : Env A} {nx : Nat} {ev ev' : Operand → LV} {o : Oper} (h : ∀ x ∈ o.op.operands, ev' x = ev x) : opQ E nx ev' o = opQ E nx ev o := by
  obtain ⟨dst, op, type, pos, after, guard⟩ := o
  have pairs : ∀ ps : Array (Nat × Operand), (∀ x ∈ (ps.toList.map (·.2)).toArray, ev' x = ev x) →
      (ps.toList.map fun p => (p.1, ev' p.2)) = (ps.toList.map fun p => (p.1, ev p.2)) := fun ps hp =>
    List.map_congr_left fun p hm => by rw [hp p.2 (by simpa using ⟨p.1, by simpa using hm⟩)]
  cases op <;> simp only [Op.operands] at h <;> simp only [opQ]
  case build t ps => rw [pairs ps h]
  case buildSlice t n ps => rw [pairs ps h]
  case makeFunc fn first caps =>
    have h1 : first.toList.map ev' = first.toList.map ev := List.map_congr_left fun x hx => h x (by simp [Array.mem_toList_iff.1 hx])
    have h2 : caps.toList.map ev' = caps.toList.map ev := List.map_congr_left fun x hx => h x (by simp [Array.mem_toList_iff.1 hx])
    cases fn <;> dsimp only
    rw [h1, h2]
  case call c =>
    obtain ⟨callee, args, argTypes⟩ := c
    have h1 : args.toList.map ev' = args.toList.map ev := List.map_congr_left fun x hx => h x (by simp [Call.operands, Array.mem_toList_iff.1 hx])
    have h0 : ∀ x ∈ args.toList, ev' x = ev x := fun x hx => h x (by simp [Call.operands, Array.mem_toList_iff.1 hx])
    cases callee with
    | value f => simp only [h1, h f (by simp [Call.operands])]
    | invoke x name => simp only [h1, h x (by simp [Call.operands])]
    | builtin b =>
      cases b <;> dsimp only
      case append =>
        generalize args.toList = l at h0 ⊢
        split
        · rw [h0 _ (by simp), h0 _ (by simp)]
        · rfl
      case len =>
        generalize args.toList = l at h0 ⊢
        split
        · rw [h0 _ (by simp)]
        · rfl
      case max =>
        generalize args.toList = l at h0 ⊢
        split
        · rw [h0 _ (by simp), h0 _ (by simp)]
        · rfl
      case min =>
        generalize args.toList = l at h0 ⊢
        split
        · rw [h0 _ (by simp), h0 _ (by simp)]
        · rfl
      case clear =>
        generalize args.toList = l at h0 ⊢
        split
        · rw [h0 _ (by simp)]
        · rfl
  case makeMap t r => cases r <;> rfl
  case slice t x lo hi mx => cases lo <;> cases hi <;> cases mx <;> simp_all
  case unOp op t x => cases op <;> simp_all
  case lookup t m k ok => cases ok <;> simp_all
  all_goals (first | rfl | (simp_all; done))

/-- What an operation did. -/
structure Did (A : Type) where
  dst : Option Nat
  v : LV
  us : List (Nat × Option (LO A))
  acc : List Nat

abbrev Sp (A : Type) := List LV × (Nat → Option (LO A))
def lay1 (d : Did A) (s : Sp A) : Sp A := (putL s.1 d.dst d.v, hov d.us s.2)
/-- The state after those that are listed. -/
def lays (L : Nat → Bool) : Nat → List (Did A) → Sp A → Sp A
  | _, [], s => s
  | i, d :: ds, s => lays L (i + 1) ds (match L i with | true => lay1 d s | false => s)

theorem putL_other {fr : List LV} {d : Option Nat} {v : LV} {t : Nat} (h : d ≠ some t) : (putL fr d v)[t]? = fr[t]? := by
  cases d with
  | none => rfl
  | some x => simp only [putL]; rw [List.getElem?_set_ne (fun e => h (by rw [e]))]
theorem putL_congr {fr fr' : List LV} {d : Option Nat} {v : LV} {t : Nat} (h : fr[t]? = fr'[t]?) : (putL fr d v)[t]? = (putL fr' d v)[t]? := by
  cases d with
  | none => exact h
  | some x =>
    simp only [putL, List.getElem?_set]
    split
    · rename_i e
      subst e
      have : x < fr.length ↔ x < fr'.length := by
        have h1 := List.getElem?_eq_none_iff (l := fr) (i := x)
        have h2 := List.getElem?_eq_none_iff (l := fr') (i := x)
        rw [h] at h1
        have h3 := h1.symm.trans h2
        omega
      simp only [this]
    · exact h
theorem putL_comm {fr : List LV} {d e : Option Nat} {v u : LV} (h : ∀ t, d = some t → e ≠ some t) : putL (putL fr d v) e u = putL (putL fr e u) d v := by
  cases d with
  | none => rfl
  | some x =>
    cases e with
    | none => rfl
    | some y =>
      have : x ≠ y := fun e => h x rfl (by rw [e])
      simp only [putL]
      rw [List.set_comm _ _ this]

theorem hov_other {us : List (Nat × Option (LO A))} {H : Nat → Option (LO A)} {n : Nat} (h : n ∉ us.map (·.1)) : hov us H n = H n := by
  induction us with
  | nil => rfl
  | cons x us ih =>
    obtain ⟨m, c⟩ := x
    simp only [List.map_cons, List.mem_cons, not_or] at h
    simp only [hov]
    rw [if_neg (fun e => h.1 e.symm)]
    exact ih h.2
theorem hov_mem {us : List (Nat × Option (LO A))} {H H' : Nat → Option (LO A)} {n : Nat} (h : n ∈ us.map (·.1)) : hov us H n = hov us H' n := by
  induction us with
  | nil => cases h
  | cons x us ih =>
    obtain ⟨m, c⟩ := x
    simp only [hov]
    split
    · rfl
    · rename_i e
      simp only [List.map_cons, List.mem_cons] at h
      exact ih (h.resolve_left (fun e' => e e'.symm))
theorem hov_congr {us : List (Nat × Option (LO A))} {H H' : Nat → Option (LO A)} {n : Nat} (h : H n = H' n) : hov us H n = hov us H' n := by
  by_cases hm : n ∈ us.map (·.1)
  · exact hov_mem hm
  · rw [hov_other hm, hov_other hm, h]
theorem hov_comm {us us' : List (Nat × Option (LO A))} {H : Nat → Option (LO A)} (h : ∀ n ∈ us.map (·.1), n ∉ us'.map (·.1)) : hov us (hov us' H) = hov us' (hov us H) := by
  funext n
  by_cases hm : n ∈ us.map (·.1)
  · rw [hov_other (h n hm), hov_mem hm]
  · rw [hov_other hm]
    exact hov_congr (hov_other hm).symm

theorem lays_fr {L L' : Nat → Bool} {t : Nat} : ∀ (ds : List (Did A)) (i : Nat) (s s' : Sp A), s.1[t]? = s'.1[t]? → (∀ k d, ds[k]? = some d → L (i + k) ≠ L' (i + k) → d.dst ≠ some t) →
    (lays L i ds s).1[t]? = (lays L' i ds s').1[t]?
  | [], i, s, s', h, _ => h
  | d :: ds, i, s, s', h, hd => by
    simp only [lays]
    refine lays_fr ds (i + 1) _ _ ?_ (fun k d' hk hne => hd (k + 1) d' (by simpa using hk) (by rw [show i + (k + 1) = i + 1 + k by omega]; exact hne))
    have h0 := hd 0 d rfl
    rw [Nat.add_zero] at h0
    cases h1 : L i <;> cases h2 : L' i
    · exact h
    · rw [h1, h2] at h0
      simp only [lay1]
      rw [putL_other (h0 (by simp))]; exact h
    · rw [h1, h2] at h0
      simp only [lay1]
      rw [putL_other (h0 (by simp))]; exact h
    · simp only [lay1]; exact putL_congr h

theorem lays_hp {L L' : Nat → Bool} {n : Nat} : ∀ (ds : List (Did A)) (i : Nat) (s s' : Sp A), s.2 n = s'.2 n → (∀ k d, ds[k]? = some d → L (i + k) ≠ L' (i + k) → n ∉ d.us.map (·.1)) →
    (lays L i ds s).2 n = (lays L' i ds s').2 n
  | [], i, s, s', h, _ => h
  | d :: ds, i, s, s', h, hd => by
    simp only [lays]
    refine lays_hp ds (i + 1) _ _ ?_ (fun k d' hk hne => hd (k + 1) d' (by simpa using hk) (by rw [show i + (k + 1) = i + 1 + k by omega]; exact hne))
    have h0 := hd 0 d rfl
    rw [Nat.add_zero] at h0
    cases h1 : L i <;> cases h2 : L' i
    · exact h
    · rw [h1, h2] at h0
      simp only [lay1]
      rw [hov_other (h0 (by simp))]; exact h
    · rw [h1, h2] at h0
      simp only [lay1]
      rw [hov_other (h0 (by simp))]; exact h
    · simp only [lay1]; exact hov_congr h

/-- Two that write nothing of each other's. -/
def Did.offW (d e : Did A) : Prop := (∀ t, d.dst = some t → e.dst ≠ some t) ∧ ∀ n ∈ d.us.map (·.1), n ∉ e.us.map (·.1)

theorem lay1_comm {d e : Did A} (h : d.offW e) (s : Sp A) : lay1 e (lay1 d s) = lay1 d (lay1 e s) := by
  simp only [lay1]
  rw [putL_comm h.1, hov_comm h.2]

theorem lays_out {L : Nat → Bool} {d : Did A} : ∀ (ds : List (Did A)) (i : Nat) (s : Sp A), (∀ k e, ds[k]? = some e → L (i + k) = true → d.offW e) → lays L i ds (lay1 d s) = lay1 d (lays L i ds s)
  | [], i, s, _ => rfl
  | e :: ds, i, s, h => by
    simp only [lays]
    have hrest : ∀ k e, ds[k]? = some e → L (i + 1 + k) = true → d.offW e := fun k e' hk hl => h (k + 1) e' (by simpa using hk) (by rw [show i + (k + 1) = i + 1 + k by omega]; exact hl)
    cases hl : L i
    · exact lays_out ds (i + 1) s hrest
    · have := h 0 e rfl (by simpa using hl)
      simp only [lay1_comm this]
      exact lays_out ds (i + 1) _ hrest

theorem lays_congr {L L' : Nat → Bool} : ∀ (ds : List (Did A)) (i : Nat) (s : Sp A), (∀ k, i ≤ k → k < i + ds.length → L k = L' k) → lays L i ds s = lays L' i ds s
  | [], i, s, _ => rfl
  | e :: ds, i, s, h => by
    simp only [lays, h i (Nat.le_refl _) (by simp only [List.length_cons]; omega)]
    exact lays_congr ds (i + 1) _ fun k hk hk' => h k (by omega) (by simp only [List.length_cons]; omega)

theorem lays_shift {L : Nat → Bool} : ∀ (ds : List (Did A)) (i : Nat) (s : Sp A), lays L (i + 1) ds s = lays (fun m => L (m + 1)) i ds s
  | [], i, s => rfl
  | e :: ds, i, s => by
    simp only [lays]
    exact lays_shift ds (i + 1) _

theorem lays_more {L L' : Nat → Bool} {d : Did A} : ∀ (ds : List (Did A)) (i j : Nat) (s : Sp A), ds[j]? = some d → L (i + j) = false → L' (i + j) = true → (∀ k, k ≠ i + j → L' k = L k) →
    (∀ k e, j < k → ds[k]? = some e → L (i + k) = true → d.offW e) → lays L' i ds s = lay1 d (lays L i ds s)
  | [], i, j, s, hd, _, _, _, _ => by simp at hd
  | e :: ds, i, 0, s, hd, h1, h2, h3, h4 => by
    simp only [List.getElem?_cons_zero, Option.some.injEq] at hd
    subst hd
    rw [Nat.add_zero] at h1 h2 h3
    simp only [lays, h1, h2]
    rw [lays_congr (L := L') (L' := L) ds (i + 1) _ (fun k hk _ => h3 k (by omega))]
    exact lays_out ds (i + 1) s fun k e' hk hl => h4 (k + 1) e' (by omega) (by simpa using hk) (by rw [show i + (k + 1) = i + 1 + k by omega]; exact hl)
  | e :: ds, i, j + 1, s, hd, h1, h2, h3, h4 => by
    have e1 : i + (j + 1) = i + 1 + j := by omega
    rw [e1] at h1 h2 h3
    simp only [lays, h3 i (by omega)]
    exact lays_more ds (i + 1) j _ (by simpa using hd) h1 h2 h3 fun k e' hk hk' hl => h4 (k + 1) e' (by omega) (by simpa using hk') (by rw [show i + (k + 1) = i + 1 + k by omega]; exact hl)
end
end Go.Sx

/- The symbolic executor is sound: regions that draw. No condition. -/
set_option linter.unusedVariables false
set_option linter.unusedSimpArgs false
namespace Go.Sx

section
variable {A : Type} {P : Program} {body : A → List (Option (LO A))} {amb : Amb} {E : Env A}

def toRec (d : Did A) : Rec := ⟨d.acc, d.us.map (·.1)⟩

/-- What the walk found of an operation of a region that draws. -/
inductive Found (E : Env A) (ops : Array Oper) (nx : Nat) (o : Oper) (j : Nat) (s : Sp A) : Did A → Prop
  | skipped (h : wantL ops o s.1 = some false) : Found E ops nx o j s ⟨o.dst, .undef, [], []⟩
  | ran {r : Rs A} {acc : List Nat} (h : wantL ops o s.1 = some true) (ha : allOk o = true) (hr : ((opQ E (nx + 16 * j) (evL s.1) o).run s.2 []).eval = some (r, acc)) (hn : r.nx ≤ nx + 16 * j + 16) :
    Found E ops nx o j s ⟨o.dst, r.v, r.us, acc⟩

theorem Found.dst {ops : Array Oper} {nx : Nat} {o : Oper} {j : Nat} {s : Sp A} {d : Did A} (h : Found E ops nx o j s d) : d.dst = o.dst := by cases h <;> rfl

theorem drawOps_spec {ops : Array Oper} : ∀ (l : List Oper) (i : Nat) (st st' : St A) (rs rs' : List Rec), (drawOps E ops i l st rs).eval = some (st', rs') →
    ∃ ds : List (Did A), ds.length = l.length ∧ rs' = rs ++ ds.map toRec ∧ st'.nx = st.nx ∧ (st'.fr, hget st'.hp) = lays (fun _ => true) 0 ds (st.fr, hget st.hp) ∧
      ∀ k o d, l[k]? = some o → ds[k]? = some d → Found E ops st.nx o (i + k) (lays (fun m => decide (m < k)) 0 ds (st.fr, hget st.hp)) d
  | [], i, st, st', rs, rs', h => by
    cases h
    exact ⟨[], rfl, by simp, rfl, rfl, fun k o d h => by simp at h⟩
  | o :: l, i, st, st', rs, rs', h => by
    simp only [drawOps, T.eval_bind, Option.bind_eq_some_iff] at h
    obtain ⟨⟨st1, r1⟩, h1, h2⟩ := h
    simp only at h2
    obtain ⟨ds, g1, g2, g3, g4, g5⟩ := drawOps_spec l (i + 1) st1 st' _ rs' h2
    have main : ∃ d : Did A, r1 = toRec d ∧ st1.nx = st.nx ∧ (st1.fr, hget st1.hp) = lay1 d (st.fr, hget st.hp) ∧ Found E ops st.nx o i (st.fr, hget st.hp) d := by
      rcases guarded_eval h1 with ⟨hw, h3⟩ | ⟨hw, h3⟩
      · unfold stepD at h3
        split at h3
        · cases h3
        · rename_i ha
          rw [T.eval_bind, Option.bind_eq_some_iff] at h3
          obtain ⟨⟨r, acc⟩, h4, h5⟩ := h3
          simp only at h5
          split at h5
          · rename_i hle
            cases h5
            refine ⟨⟨o.dst, r.v, r.us, acc⟩, rfl, rfl, ?_, .ran hw ha h4 (by simpa using hle)⟩
            simp only [lay1]
            rw [show hget (r.us ++ st.hp) = hov r.us (hget st.hp) from funext fun n => hget_append _ _ n]
          · cases h5
      · cases h3
        exact ⟨⟨o.dst, .undef, [], []⟩, rfl, rfl, rfl, .skipped hw⟩
    obtain ⟨d, m1, m2, m3, m4⟩ := main
    refine ⟨d :: ds, by simp [g1], by rw [g2, m1]; simp, g3.trans m2, ?_, ?_⟩
    · rw [g4, m3]
      simp only [lays]
      rw [lays_shift]
    · intro k o' d' hk hk'
      cases k with
      | zero =>
        simp only [List.getElem?_cons_zero, Option.some.injEq] at hk hk'
        subst hk hk'
        simp only [lays, Nat.lt_irrefl, decide_false]
        rw [lays_shift]
        have hz : ∀ (ds : List (Did A)) (i : Nat) (s : Sp A), lays (fun m => decide (m + 1 < 0)) i ds s = s := by
          intro ds
          induction ds with
          | nil => intro i s; rfl
          | cons x ds ih => intro i s; simp only [lays, Nat.not_lt_zero, decide_false]; exact ih _ _
        rw [hz]
        exact m4
      | succ k =>
        simp only [List.getElem?_cons_succ] at hk hk'
        have := g5 k o' d' hk hk'
        simp only [lays, Nat.zero_lt_succ, decide_true]
        rw [lays_shift, ← m3]
        simp only [Nat.add_lt_add_iff_right]
        rw [m2, show i + 1 + k = i + (k + 1) by omega] at this
        exact this

/-- Bound behind, as the bits have it. -/
def bef (bs : List Nat) (i j : Nat) : Prop := (bs.getD j 0).testBit i = true

theorem fold_bits (acc : List Nat) (i : Nat) : ∀ (l : List Edge) (s : Nat), (l.foldl (fun s e => if bindsB e then s ||| 2 ^ e.on ||| acc.getD e.on 0 else s) s).testBit i = true →
    s.testBit i = true ∨ ∃ e ∈ l, bindsB e = true ∧ (i = e.on ∨ bef acc i e.on)
  | [], s, h => .inl h
  | e :: l, s, h => by
    simp only [List.foldl_cons] at h
    rcases fold_bits acc i l _ h with h | ⟨e', h1, h2⟩
    · split at h
      · rename_i hb
        simp only [Nat.testBit_or, Bool.or_eq_true, Nat.testBit_two_pow, decide_eq_true_eq] at h
        rcases h with (h | h) | h
        · exact .inl h
        · exact .inr ⟨e, List.mem_cons_self, hb, .inl h.symm⟩
        · exact .inr ⟨e, List.mem_cons_self, hb, .inr h⟩
      · exact .inl h
    · exact .inr ⟨e', List.mem_cons_of_mem _ h1, h2⟩

theorem befores_spec : ∀ (l : List Oper) (acc : List Nat), (∃ t, befores l acc = acc ++ t) ∧
    ∀ k o i, l[k]? = some o → bef (befores l acc) i (acc.length + k) → ∃ e ∈ o.after, bindsB e = true ∧ (i = e.on ∨ bef (befores l acc) i e.on)
  | [], acc => ⟨⟨[], by simp [befores]⟩, fun k o i h => by simp at h⟩
  | o :: l, acc => by
    simp only [befores]
    generalize hx : o.after.toList.foldl (fun s e => if bindsB e then s ||| 2 ^ e.on ||| acc.getD e.on 0 else s) 0 = x
    obtain ⟨⟨t, ht⟩, h2⟩ := befores_spec l (acc ++ [x])
    refine ⟨⟨x :: t, by rw [ht]; simp⟩, ?_⟩
    intro k o' i hk hb
    cases k with
    | zero =>
      simp only [List.getElem?_cons_zero, Option.some.injEq] at hk
      subst hk
      simp only [Nat.add_zero] at hb
      have hb' : x.testBit i = true := by
        unfold bef at hb
        rw [ht] at hb
        simpa [List.getD_eq_getElem?_getD] using hb
      rw [← hx] at hb'
      rcases fold_bits acc i _ _ hb' with h | ⟨e, h1, h2, h3⟩
      · simp at h
      · refine ⟨e, by simpa using h1, h2, h3.imp id fun h => ?_⟩
        unfold bef at h ⊢
        have hlt : e.on < acc.length := by
          rcases Nat.lt_or_ge e.on acc.length with h' | h'
          · exact h'
          · rw [List.getD_eq_getElem?_getD, List.getElem?_eq_none h'] at h; simp at h
        rw [ht, List.append_assoc, List.getD_eq_getElem?_getD, List.getElem?_append_left hlt, ← List.getD_eq_getElem?_getD]
        exact h
    | succ k =>
      refine h2 k o' i (by simpa using hk) ?_
      rw [List.length_append, List.length_singleton, show acc.length + 1 + k = acc.length + (k + 1) by omega]
      exact hb

theorem binds_any (e : Edge) : Region.binds .any e = bindsB e := by
  unfold Region.binds bindsB
  cases e.ground <;> rfl

theorem backEdges_spec : ∀ (l : List Oper) (j : Nat), backEdges j l = true → ∀ k o, l[k]? = some o → ∀ e ∈ o.after, bindsB e = true → e.on < j + k
  | [], j, _, k, o, h => by simp at h
  | o :: l, j, h, k, o', hk => by
    simp only [backEdges, Bool.and_eq_true, List.all_eq_true] at h
    cases k with
    | zero =>
      simp only [List.getElem?_cons_zero, Option.some.injEq] at hk
      subst hk
      intro e he hb
      have := h.1 e (by simpa using he)
      simpa [hb] using this
    | succ k =>
      intro e he hb
      have := backEdges_spec l (j + 1) h.2 k o' (by simpa using hk) e he hb
      omega

theorem indepRow_spec {bs : List Nat} {rs : List Rec} {j : Nat} {rj : Rec} : ∀ (l : List Rec) (i : Nat), indepRow bs rs j rj i l = true → ∀ k r, l[k]? = some r → i + k < j → bef bs (i + k) j ∨ r.free rj = true
  | [], i, _, k, r, h => by simp at h
  | x :: l, i, h, k, r, hk => by
    simp only [indepRow, Bool.and_eq_true] at h
    cases k with
    | zero =>
      simp only [List.getElem?_cons_zero, Option.some.injEq] at hk
      subst hk
      intro hlt
      have h1 := h.1
      rw [if_pos (by simpa using hlt)] at h1
      simpa [bef] using h1
    | succ k =>
      intro hlt
      have := indepRow_spec l (i + 1) h.2 k r (by simpa using hk) (by omega)
      rwa [show i + 1 + k = i + (k + 1) by omega] at this
theorem indepAll_spec {bs : List Nat} {rs : List Rec} : ∀ (l : List Rec) (j : Nat), indepAll bs rs j l = true → ∀ m rj, l[m]? = some rj → ∀ k r, rs[k]? = some r → k < j + m → bef bs k (j + m) ∨ r.free rj = true
  | [], j, _, m, rj, h => by simp at h
  | x :: l, j, h, m, rj, hm => by
    simp only [indepAll, Bool.and_eq_true] at h
    cases m with
    | zero =>
      simp only [List.getElem?_cons_zero, Option.some.injEq] at hm
      subst hm
      intro k r hk hlt
      have := indepRow_spec rs 0 h.1 k r hk (by simpa using hlt)
      simpa using this
    | succ m =>
      intro k r hk hlt
      have := indepAll_spec l (j + 1) h.2 m rj (by simpa using hm) k r hk (by omega)
      rwa [show j + 1 + m = j + (m + 1) by omega] at this
theorem apartRow_spec {ops : Array Oper} {bs : List Nat} {j : Nat} {oj : Oper} : ∀ (l : List Oper) (i : Nat), apartRow ops bs j oj i l = true → ∀ k r, l[k]? = some r → i + k < j → bef bs (i + k) j ∨ Oper.apart ops r oj = true
  | [], i, _, k, r, h => by simp at h
  | x :: l, i, h, k, r, hk => by
    simp only [apartRow, Bool.and_eq_true] at h
    cases k with
    | zero =>
      simp only [List.getElem?_cons_zero, Option.some.injEq] at hk
      subst hk
      intro hlt
      have h1 := h.1
      rw [if_pos (by simpa using hlt)] at h1
      simpa [bef] using h1
    | succ k =>
      intro hlt
      have := apartRow_spec l (i + 1) h.2 k r (by simpa using hk) (by omega)
      rwa [show i + 1 + k = i + (k + 1) by omega] at this
theorem apartAll_spec {ops : Array Oper} {bs : List Nat} : ∀ (l : List Oper) (j : Nat), apartAll ops bs j l = true → ∀ m oj, l[m]? = some oj → ∀ k r, ops[k]? = some r → k < j + m → bef bs k (j + m) ∨ Oper.apart ops r oj = true
  | [], j, _, m, rj, h => by simp at h
  | x :: l, j, h, m, rj, hm => by
    simp only [apartAll, Bool.and_eq_true] at h
    cases m with
    | zero =>
      simp only [List.getElem?_cons_zero, Option.some.injEq] at hm
      subst hm
      intro k r hk hlt
      have := apartRow_spec ops.toList 0 h.1 k r (by simpa using hk) (by simpa using hlt)
      simpa using this
    | succ m =>
      intro k r hk hlt
      have := apartAll_spec l (j + 1) h.2 m rj (by simpa using hm) k r hk (by omega)
      rwa [show j + 1 + m = j + (m + 1) by omega] at this

theorem meets_false {a b : List Nat} (h : meets a b = false) : ∀ x ∈ a, x ∉ b := by
  intro x hx hb
  have : meets a b = true := by
    simp only [meets, List.any_eq_true]
    exact ⟨x, hx, by simpa using hb⟩
  rw [h] at this; cases this
theorem free_spec {r s : Rec} (h : r.free s = true) : (∀ x ∈ r.acc, x ∉ s.us) ∧ (∀ x ∈ s.acc, x ∉ r.us) ∧ (∀ x ∈ r.us, x ∉ s.us) := by
  simp only [Rec.free, Bool.and_eq_true, Bool.not_eq_true'] at h
  exact ⟨meets_false h.1.1, meets_false h.1.2, meets_false h.2⟩
end
end Go.Sx

/- The symbolic executor is sound: regions. No condition. -/
set_option linter.unusedVariables false
set_option linter.unusedSimpArgs false
namespace Go.Sx

section
variable {A : Type} {P : Program} {body : A → List (Option (LO A))} {amb : Amb} {E : Env A}

theorem count_lt {p p' : Nat → Bool} : ∀ (l : List Nat) (i : Nat), i ∈ l → p i = true → p' i = false → (∀ j, p' j = true → p j = true) → (l.filter p').length < (l.filter p).length
  | [], i, h, _, _, _ => by cases h
  | x :: l, i, h, hp, hp', hm => by
    have hle : ∀ l : List Nat, (l.filter p').length ≤ (l.filter p).length := by
      intro l
      induction l with
      | nil => simp
      | cons y l ih =>
        simp only [List.filter_cons]
        cases hy' : p' y
        · simp only [Bool.false_eq_true, if_false]
          split
          · simp only [List.length_cons]; omega
          · exact ih
        · simp only [if_true, hm y hy', List.length_cons]; omega
    simp only [List.filter_cons]
    rcases List.mem_cons.1 h with rfl | h
    · simp only [hp, hp', if_true, Bool.false_eq_true, if_false, List.length_cons]
      have := hle l
      omega
    · have ih := count_lt l i h hp hp' hm
      cases hx' : p' x
      · simp only [Bool.false_eq_true, if_false]
        split
        · simp only [List.length_cons]; omega
        · exact ih
      · simp only [if_true, hm x hx', List.length_cons]; omega

/-- What the walk knows of a region that draws. -/
structure Drawn (E : Env A) (ops : Array Oper) (nx : Nat) (ds : List (Did A)) (s0 : Sp A) (bs : List Nat) : Prop where
  len : ds.length = ops.size
  found : ∀ (k : Nat) (o : Oper) (d : Did A), ops[k]? = some o → ds[k]? = some d → Found E ops nx o k (lays (fun m => decide (m < k)) 0 ds s0) d
  back : ∀ (k : Nat) (o : Oper), ops[k]? = some o → ∀ e ∈ o.after, bindsB e = true → e.on < k
  apart : ∀ (i j : Nat) (oi oj : Oper), i < j → ops[i]? = some oi → ops[j]? = some oj → bef bs i j ∨ Oper.apart ops oi oj = true
  free : ∀ (i j : Nat) (di dj : Did A), i < j → ds[i]? = some di → ds[j]? = some dj → bef bs i j ∨ (toRec di).free (toRec dj) = true
  bits : ∀ (j : Nat) (o : Oper) (i : Nat), ops[j]? = some o → bef bs i j → ∃ e ∈ o.after, bindsB e = true ∧ (i = e.on ∨ bef bs i e.on)

/-- What is listed has all that it is bound behind. -/
def Down (ops : Array Oper) (L : Nat → Bool) : Prop := ∀ (j : Nat) (o : Oper), L j = true → ops[j]? = some o → ∀ e ∈ o.after, bindsB e = true → L e.on = true

theorem Drawn.down {ops : Array Oper} {nx : Nat} {ds : List (Did A)} {s0 : Sp A} {bs : List Nat} (hd : Drawn E ops nx ds s0 bs) {L : Nat → Bool} (hL : Down ops L) (hsz : ∀ j, L j = true → j < ops.size) :
    ∀ (j : Nat) (o : Oper), ops[j]? = some o → (∀ e ∈ o.after, bindsB e = true → L e.on = true) → ∀ i, bef bs i j → L i = true := by
  intro j
  induction j using Nat.strongRecOn with
  | _ j ih =>
    intro o ho he i hb
    obtain ⟨e, h1, h2, h3⟩ := hd.bits j o i ho hb
    rcases h3 with rfl | h3
    · exact he e h1 h2
    · have hl := he e h1 h2
      obtain ⟨o', ho'⟩ : ∃ o', ops[e.on]? = some o' := ⟨_, Array.getElem?_eq_getElem (hsz _ hl)⟩
      exact ih e.on (hd.back j o ho e h1 h2) o' ho' (fun e' he' hb' => hL e.on o' hl ho' e' he' hb') i h3

/-- The names that are there. -/
def qL (nx : Nat) (L : Nat → Bool) : Nat → Bool := fun n => decide (n < nx) || L ((n - nx) / 16)

theorem wantL_congr {ops : Array Oper} {o : Oper} {fr fr' : List LV} (h : ∀ t ∈ o.looksAt ops, fr'[t]? = fr[t]?) : wantL ops o fr' = wantL ops o fr := by
  unfold wantL
  cases hg : o.guard with
  | none => rfl
  | some gw =>
    obtain ⟨g, want⟩ := gw
    simp only
    cases hd : (ops[g]?).bind (·.dst) with
    | none => rfl
    | some d =>
      simp only
      rw [h d]
      simp [Oper.looksAt, hg, hd]

theorem draw_go (hE : EnvOk P body E) {ops : Array Oper} {nx : Nat} {ds : List (Did A)} {s0 : Sp A} {bs : List Nat} (hd : Drawn E ops nx ds s0 bs) {Q : Exit → Act → World → Prop} {ρ0 : Nat → Bk}
    (hQ : ∀ ρ w, Agree (lt nx) ρ0 ρ → okL (lt (nx + 16 * ops.size)) (lays (fun _ => true) 0 ds s0).1 = true → Sat body amb (lays (fun _ => true) 0 ds s0).2 (lt (nx + 16 * ops.size)) ρ w → Q .normal (actOf ρ (lays (fun _ => true) 0 ds s0).1) w) :
    ∀ (fuel : Nat) (listed : Array Bool) (ρ : Nat → Bk) (w : World), listed.size = ops.size → ((List.range ops.size).filter fun i => !listed.getD i false).length ≤ fuel → Down ops (fun i => listed.getD i false) →
      Agree (lt nx) ρ0 ρ → okL (qL nx fun i => listed.getD i false) (lays (fun i => listed.getD i false) 0 ds s0).1 = true → Sat body amb (lays (fun i => listed.getD i false) 0 ds s0).2 (qL nx fun i => listed.getD i false) ρ w →
      wpAny P .any ops Q fuel listed (actOf ρ (lays (fun i => listed.getD i false) 0 ds s0).1) w := by
  -- when nothing is ready, all is listed
  have hdone : ∀ (listed : Array Bool) (ρ : Nat → Bk) (w : World), listed.size = ops.size → Agree (lt nx) ρ0 ρ → okL (qL nx fun i => listed.getD i false) (lays (fun i => listed.getD i false) 0 ds s0).1 = true →
      Sat body amb (lays (fun i => listed.getD i false) 0 ds s0).2 (qL nx fun i => listed.getD i false) ρ w → (∀ i, i < ops.size → listed.getD i false = true) → Q .normal (actOf ρ (lays (fun i => listed.getD i false) 0 ds s0).1) w := by
    intro listed ρ w hsz hag hok hsat hall
    have e1 : lays (fun i => listed.getD i false) 0 ds s0 = lays (fun _ => true) 0 ds s0 := lays_congr ds 0 s0 fun k _ hk => hall k (by rw [hd.len] at hk; omega)
    have e2 : qL nx (fun i => listed.getD i false) = lt (nx + 16 * ops.size) := by
      funext n
      simp only [qL, lt]
      rcases Nat.lt_or_ge n nx with h | h
      · have : n < nx + 16 * ops.size := by omega
        simp [h, this]
      · rcases Nat.lt_or_ge ((n - nx) / 16) ops.size with h' | h'
        · rw [hall _ h']
          have : n < nx + 16 * ops.size := by omega
          simp [this]
        · have h2 : listed.getD ((n - nx) / 16) false = false := by
            rw [Array.getD_eq_getD_getElem?, Array.getElem?_eq_none (by omega)]; rfl
          rw [h2]
          have h3 : ¬ n < nx := by omega
          have h4 : ¬ n < nx + 16 * ops.size := by omega
          simp [h3, h4]
    rw [e1, e2] at hok hsat
    rw [e1]
    exact hQ ρ w hag hok hsat
  have hready : ∀ (listed : Array Bool), listed.size = ops.size → Region.ready .any ops listed = [] → ∀ i, i < ops.size → listed.getD i false = true := by
    intro listed hsz hr i
    induction i using Nat.strongRecOn with
    | _ i ih =>
      intro hi
      cases hl : listed.getD i false with
      | true => rfl
      | false =>
        have : i ∈ Region.ready .any ops listed := by
          rw [mem_ready]
          refine ⟨?_, ops[i], Array.getElem?_eq_getElem hi, fun e he hb => ?_⟩
          · rw [Array.getD_eq_getD_getElem?, Array.getElem?_eq_getElem (by omega)] at hl ⊢; exact hl
          · rw [binds_any] at hb
            have := hd.back i _ (Array.getElem?_eq_getElem hi) e he hb
            exact ih e.on this (by omega)
        rw [hr] at this; cases this
  intro fuel
  induction fuel with
  | zero =>
    intro listed ρ w hsz hcount hdown hag hok hsat
    have hall : ∀ i, i < ops.size → listed.getD i false = true := by
      intro i hi
      have h0 : (List.range ops.size).filter (fun i => !listed.getD i false) = [] := List.length_eq_zero_iff.1 (Nat.le_zero.1 hcount)
      have := (List.filter_eq_nil_iff.1 h0) i (List.mem_range.2 hi)
      simpa using this
    refine ⟨?_, hdone listed ρ w hsz hag hok hsat hall⟩
    rw [List.eq_nil_iff_forall_not_mem]
    intro i hi
    obtain ⟨h1, o, h2, _⟩ := mem_ready.1 hi
    have hlt := (Array.getElem?_eq_some_iff.1 h2).1
    have h3 := hall i hlt
    rw [Array.getD_eq_getD_getElem?, Array.getElem?_eq_getElem (by omega)] at h1 h3
    simp only [Option.getD_some] at h1 h3
    rw [h3] at h1; cases h1
  | succ fuel ih =>
    intro listed ρ w hsz hcount hdown hag hok hsat
    refine ⟨fun hr => hdone listed ρ w hsz hag hok hsat (hready listed hsz hr), fun j hj => ?_⟩
    obtain ⟨hj1, o, ho, hedges⟩ := mem_ready.1 hj
    have hjlt : j < ops.size := (Array.getElem?_eq_some_iff.1 ho).1
    have hLj : listed.getD j false = false := by
      rw [Array.getD_eq_getD_getElem?, Array.getElem?_eq_getElem (by omega)] at hj1 ⊢; exact hj1
    have hLsz : ∀ i, listed.getD i false = true → i < ops.size := by
      intro i hi
      rcases Nat.lt_or_ge i ops.size with h | h
      · exact h
      · rw [Array.getD_eq_getD_getElem?, Array.getElem?_eq_none (by omega)] at hi; cases hi
    have hE1 : ∀ e ∈ o.after, bindsB e = true → listed.getD e.on false = true := fun e he hb => hedges e he (by rw [binds_any]; exact hb)
    have hbef : ∀ i, bef bs i j → listed.getD i false = true := hd.down hdown hLsz j o ho hE1
    obtain ⟨d, hdj⟩ : ∃ d, ds[j]? = some d := ⟨_, List.getElem?_eq_getElem (by rw [hd.len]; exact hjlt)⟩
    have hfd := hd.found j o d ho hdj
    have hnb : ∀ k, listed.getD k false = true → ¬ bef bs j k := by
      intro k hk hb
      obtain ⟨ok, hok'⟩ : ∃ ok, ops[k]? = some ok := ⟨_, Array.getElem?_eq_getElem (hLsz k hk)⟩
      have := hd.down hdown hLsz k ok hok' (fun e he hb => hdown k ok hk hok' e he hb) j hb
      simp only [hLj] at this; cases this
    have hdst : ∀ (k : Nat) (d' : Did A), ds[k]? = some d' → ∃ ok, ops[k]? = some ok ∧ d'.dst = ok.dst := by
      intro k d' hk
      have hkl : k < ops.size := by
        have := (List.getElem?_eq_some_iff.1 hk).1
        rw [hd.len] at this; exact this
      exact ⟨_, Array.getElem?_eq_getElem hkl, (hd.found k _ d' (Array.getElem?_eq_getElem hkl) hk).dst⟩
    -- the frame and the heap, where the operation looks, are as in the text's order
    have hfr : ∀ t ∈ o.looksAt ops, (lays (fun i => listed.getD i false) 0 ds s0).1[t]? = (lays (fun m => decide (m < j)) 0 ds s0).1[t]? := by
      intro t ht
      refine lays_fr ds 0 s0 s0 rfl fun k d' hk hne => ?_
      rw [Nat.zero_add] at hne
      obtain ⟨ok, hok', hdd⟩ := hdst k d' hk
      rw [hdd]
      intro hcon
      rcases Nat.lt_trichotomy k j with h | h | h
      · have hkL : listed.getD k false = false := by
          cases hq : listed.getD k false with
          | false => rfl
          | true => rw [hq] at hne; simp [h] at hne
        rcases hd.apart k j ok o h hok' ho with h' | h'
        · rw [hbef k h'] at hkL; cases hkL
        · exact (Oper.apart_spec h').1 t hcon ht
      · subst h
        simp only [hLj] at hne
        simp at hne
      · have hkL : listed.getD k false = true := by
          cases hq : listed.getD k false with
          | true => rfl
          | false => rw [hq] at hne; simp [show ¬ k < j by omega] at hne
        rcases hd.apart j k o ok h ho hok' with h' | h'
        · exact hnb k hkL h'
        · exact (Oper.apart_spec h').2.2 t hcon ht
    have hhp : ∀ n ∈ d.acc, (lays (fun i => listed.getD i false) 0 ds s0).2 n = (lays (fun m => decide (m < j)) 0 ds s0).2 n := by
      intro n hn
      refine lays_hp ds 0 s0 s0 rfl fun k d' hk hne => ?_
      rw [Nat.zero_add] at hne
      intro hcon
      rcases Nat.lt_trichotomy k j with h | h | h
      · have hkL : listed.getD k false = false := by
          cases hq : listed.getD k false with
          | false => rfl
          | true => rw [hq] at hne; simp [h] at hne
        rcases hd.free k j d' d h hk hdj with h' | h'
        · rw [hbef k h'] at hkL; cases hkL
        · exact (free_spec h').2.1 n hn hcon
      · subst h
        simp only [hLj] at hne
        simp at hne
      · have hkL : listed.getD k false = true := by
          cases hq : listed.getD k false with
          | true => rfl
          | false => rw [hq] at hne; simp [show ¬ k < j by omega] at hne
        rcases hd.free j k d d' h hdj hk with h' | h'
        · exact hnb k hkL h'
        · exact (free_spec h').1 n hn hcon
    -- what is listed then
    have hset : ∀ k, k ≠ j → (listed.setIfInBounds j true).getD k false = listed.getD k false := fun k hk => getD_set_ne false (fun e => hk e.symm)
    have hsetj : (listed.setIfInBounds j true).getD j false = true := by
      rw [Array.getD_eq_getD_getElem?, Array.getElem?_setIfInBounds_self]
      simp [show j < listed.size by omega]
    have hmore : lays (fun i => (listed.setIfInBounds j true).getD i false) 0 ds s0 = lay1 d (lays (fun i => listed.getD i false) 0 ds s0) := by
      refine lays_more ds 0 j s0 hdj (by rw [Nat.zero_add]; exact hLj) (by rw [Nat.zero_add]; exact hsetj) (fun k hk => hset k (by rw [Nat.zero_add] at hk; exact hk)) fun k e hk hke hl => ?_
      rw [Nat.zero_add] at hl
      obtain ⟨ok, hok', hdd⟩ := hdst k e hke
      obtain ⟨oj, hoj, hddj⟩ := hdst j d hdj
      rw [ho] at hoj; cases hoj
      constructor
      · rw [hdd, hddj]
        rcases hd.apart j k o ok hk ho hok' with h' | h'
        · exact absurd h' (hnb k hl)
        · exact fun t ht => (Oper.apart_spec h').2.1 t ht
      · rcases hd.free j k d e hk hdj hke with h' | h'
        · exact absurd h' (hnb k hl)
        · exact (free_spec h').2.2
    have hsz' : (listed.setIfInBounds j true).size = ops.size := by simpa using hsz
    have hdown' : Down ops fun i => (listed.setIfInBounds j true).getD i false := by
      intro k ok hk hok' e he hb
      have hle : listed.getD e.on false = true := by
        by_cases hkj : k = j
        · subst hkj; rw [ho] at hok'; cases hok'; exact hE1 e he hb
        · exact hdown k ok (by show listed.getD k false = true; rw [← hset k hkj]; exact hk) hok' e he hb
      by_cases hej : e.on = j
      · show (listed.setIfInBounds j true).getD e.on false = true
        rw [hej]; exact hsetj
      · show (listed.setIfInBounds j true).getD e.on false = true
        rw [hset _ hej]; exact hle
    have hcount' : ((List.range ops.size).filter fun i => !(listed.setIfInBounds j true).getD i false).length ≤ fuel := by
      have := count_lt (p := fun i => !listed.getD i false) (p' := fun i => !(listed.setIfInBounds j true).getD i false) (List.range ops.size) j (List.mem_range.2 hjlt) (by simp only [hLj]; rfl) (by simp only [hsetj]; rfl) (fun k hk => by
        by_cases hkj : k = j
        · subst hkj; simp only [hLj]; rfl
        · simp only [hset k hkj] at hk; exact hk)
      omega
    have hq1 : Sub (qL nx fun i => listed.getD i false) (qL nx fun i => (listed.setIfInBounds j true).getD i false) := by
      intro n hn
      simp only [qL, Bool.or_eq_true] at hn ⊢
      refine hn.imp id fun h => ?_
      by_cases hkj : (n - nx) / 16 = j
      · rw [hkj]; exact hsetj
      · rw [hset _ hkj]; exact h
    have hnext := ih (listed.setIfInBounds j true)
    rw [hmore] at hnext
    unfold wpOp
    simp only [ho]
    cases hfd with
    | skipped hw =>
      rw [if_neg (by rw [wantL_spec ((wantL_congr hfr).trans hw) ρ]; exact Bool.false_ne_true)]
      have := hnext ρ w hsz' hcount' hdown' hag (putL_ok (okL_mono hq1 _ hok) rfl) ?_
      · simp only [lay1] at this
        rw [← act_put] at this
        exact this
      · obtain ⟨pt, hs⟩ := hsat
        exact hs.sub hq1
    | @ran r acc hw ha hr hn =>
      rw [if_pos (wantL_spec ((wantL_congr hfr).trans hw) ρ)]
      refine .inl ?_
      have hev : opQ E (nx + 16 * j) (evL (lays (fun i => listed.getD i false) 0 ds s0).1) o = opQ E (nx + 16 * j) (evL (lays (fun m => decide (m < j)) 0 ds s0).1) o :=
        opQ_congr fun x hx => evL_congr fun t ht => by
          subst ht
          exact hfr t (by
            simp only [Oper.looksAt, List.mem_append, List.mem_filterMap]
            exact .inl ⟨.tmp t, by simpa using hx, rfl⟩)
      have hg : Gives (lays (fun i => listed.getD i false) 0 ds s0).2 (opQ E (nx + 16 * j) (evL (lays (fun i => listed.getD i false) 0 ds s0).1) o) r := by
        rw [hev]
        exact ⟨[], acc, Qy.run_congr hr hhp⟩
      obtain ⟨pt, hs⟩ := hsat
      refine op_ok hE hs hok ha hg hq1 (fun n h1 h2 => ?_) (fun n h1 h2 => ?_) ?_
      · have : (n - nx) / 16 = j := by omega
        simp only [qL, this, hsetj, Bool.or_true]
      · have : (n - nx) / 16 = j := by omega
        have h3 : ¬ n < nx := by omega
        simp only [qL, this, hLj, h3, decide_false, Bool.or_self]
      · intro ρ' w' hag' hv hsat'
        have hlt : Sub (lt nx) (qL nx fun i => listed.getD i false) := fun n hn => by
          have := lt_iff.1 hn
          simp [qL, this]
        have := hnext ρ' w' hsz' hcount' hdown' (hag.trans hag' hlt) (putL_ok (okL_mono hq1 _ hok) hv) hsat'
        simp only [lay1] at this
        rw [← act_put, act_agree hag' hok] at this
        exact this
end
end Go.Sx

/- The symbolic executor is sound: code. No condition. -/
set_option linter.unusedVariables false
set_option linter.unusedSimpArgs false
namespace Go.Sx

def Ex.toExit : Ex → Exit
  | .normal => .normal
  | .exit id => .exit id
  | .goto l => .goto l
  | .ret => .ret

section
variable {A : Type} {P : Program} {body : A → List (Option (LO A))} {amb : Amb} {E : Env A}

/-- A way of walking some code is sound. -/
def SxOk (P : Program) (body : A → List (Option (LO A))) (W : (Exit → Act → World → Prop) → Act → World → Prop) (s : St A → T (Ex × St A)) : Prop :=
  ∀ st e st', (s st).eval = some (e, st') → ∀ amb ρ w Q, Good body amb st ρ w →
    (∀ ρ' w', Agree (lt st.nx) ρ ρ' → st.nx ≤ st'.nx → Good body amb st' ρ' w' → Q e.toExit (actOf ρ' st'.fr) w') → W Q (actOf ρ st.fr) w

/-- The loops' summaries are sound. -/
def Covers (P : Program) (body : A → List (Option (LO A))) (E : Env A) : Code → Prop
  | .seq a b => Covers P body E a ∧ Covers P body E b
  | .cond _ a b => Covers P body E a ∧ Covers P body E b
  | .block id b => (match E.loops id with | some s => SxOk P body (fun Q => (Code.block id b).wp P Q) s | none => Covers P body E b)
  | .loop b => Covers P body E b
  | .scope b => Covers P body E b
  | _ => True

theorem covers_label {l : Nat} : ∀ {c rest : Code}, findLabel c l = some rest → Covers P body E c → Covers P body E rest
  | .seq a b, rest, h, hc => by
    simp only [findLabel] at h
    cases ha : findLabel a l with
    | some r =>
      rw [ha] at h
      cases h
      exact ⟨covers_label ha hc.1, hc.2⟩
    | none =>
      rw [ha] at h
      exact covers_label h hc.2
  | .label l', rest, h, hc => by
    simp only [findLabel] at h
    split at h
    · cases h; trivial
    · cases h
  | .skip, _, h, _ | .region .., _, h, _ | .cond .., _, h, _ | .block .., _, h, _ | .loop .., _, h, _ | .rangeFunc .., _, h, _ | .exit .., _, h, _ | .scope .., _, h, _ | .goto .., _, h, _ | .ret, _, h, _ | .refuse .., _, h, _ => by
    simp [findLabel] at h

/-- Code behind which stands a scope's end. -/
def wpIn (P : Program) (x : Item) (c : Code) (Q : Exit → Act → World → Prop) (a : Act) (w : World) : Prop :=
  ∀ (b : Frame) (k : List Item) (cs : List Frame), ∃ e a' w', Q e a' w' ∧ Arrives P (lone (b.at a (.code c :: x :: k)) cs w) b k cs e a' w'

theorem wp_of_scope {c : Code} {Q : Exit → Act → World → Prop} {a : Act} {w : World} (h : wpIn P (.inScope c) c Q a w) : (Code.scope c).wp P Q a w := by
  intro b k cs
  obtain ⟨e, a', w', hq, harr⟩ := h b k cs
  exact ⟨e, a', w', hq, .of_steps (.one step_scope) harr⟩
theorem wp_of_loop {c : Code} {Q : Exit → Act → World → Prop} {a : Act} {w : World} (h : wpIn P (.inLoop c) c Q a w) : (Code.loop c).wp P Q a w := by
  intro b k cs
  obtain ⟨e, a', w', hq, harr⟩ := h b k cs
  exact ⟨e, a', w', hq, .of_steps (.one step_loop) harr⟩

theorem wp_inScope {body' cur : Code} {Q : Exit → Act → World → Prop} {a : Act} {w : World}
    (h : cur.wp P (fun e a w => match e with | .goto l => (match findLabel body' l with | some rest => wpIn P (.inScope body') rest Q a w | none => Q (.goto l) a w) | e => Q e a w) a w) : wpIn P (.inScope body') cur Q a w := by
  intro b k cs
  obtain ⟨e, a₁, w₁, hq, harr⟩ := h b (.inScope body' :: k) cs
  cases e with
  | normal => exact ⟨.normal, a₁, w₁, hq, Steps.trans harr (.one step_inScope)⟩
  | exit id => exact ⟨.exit id, a₁, w₁, hq, fun k' hk => harr k' (by simp [exitTo, hk])⟩
  | goto l =>
    simp only at hq
    split at hq
    · rename_i rest hf
      obtain ⟨e, a', w', hq', harr'⟩ := hq b k cs
      exact ⟨e, a', w', hq', .of_steps (harr _ (by simp [gotoIn, hf])) harr'⟩
    · rename_i hf
      exact ⟨.goto l, a₁, w₁, hq, fun k' hk => harr k' (by simp [gotoIn, hf, hk])⟩
  | ret => exact ⟨_, a₁, w₁, hq, harr⟩
  | panic ch => exact ⟨_, a₁, w₁, hq, harr⟩
  | outgrown => exact ⟨_, a₁, w₁, hq, harr⟩

theorem wp_inLoop {c : Code} {Q : Exit → Act → World → Prop} {a : Act} {w : World} (h : c.wp P (Exit.then (wpIn P (.inLoop c) c Q) Q) a w) : wpIn P (.inLoop c) c Q a w := by
  intro b k cs
  obtain ⟨e, a₁, w₁, hq, harr⟩ := h b (.inLoop c :: k) cs
  cases e with
  | normal =>
    obtain ⟨e, a', w', hq', harr'⟩ := hq b k cs
    exact ⟨e, a', w', hq', .of_steps (Steps.trans harr (.one step_inLoop)) harr'⟩
  | exit id => exact ⟨_, a₁, w₁, hq, .pass (x := .inLoop c) rfl (fun _ _ => .inl (by simp)) harr⟩
  | goto l => exact ⟨_, a₁, w₁, hq, .pass (x := .inLoop c) rfl (fun _ _ => .inl (by simp)) harr⟩
  | ret => exact ⟨_, a₁, w₁, hq, .pass (x := .inLoop c) rfl (fun _ _ => .inl (by simp)) harr⟩
  | panic ch => exact ⟨_, a₁, w₁, hq, .pass (x := .inLoop c) rfl (fun _ _ => .inl (by simp)) harr⟩
  | outgrown => exact ⟨_, a₁, w₁, hq, .pass (x := .inLoop c) rfl (fun _ _ => .inl (by simp)) harr⟩

theorem region_ok (hE : EnvOk P body E) (hm : P.follows .mixedOrders = true) {id : Nat} {ops : Array Oper} {draw : Bool} {st st' : St A} (h : (regionL E ops draw st).eval = some st') {ρ : Nat → Bk} {w : World} (hg : Good body amb st ρ w)
    {Q : Exit → Act → World → Prop} (hQ : ∀ ρ' w', Agree (lt st.nx) ρ ρ' → st.nx ≤ st'.nx → Good body amb st' ρ' w' → Q .normal (actOf ρ' st'.fr) w') : (Code.region id ops draw).wp P Q (actOf ρ st.fr) w := by
  unfold regionL at h
  cases draw with
  | false =>
    simp only at h
    refine wp_region ?_
    have := seqOps_ok (P := P) (Q := Q) hE ops.toList 0 (by simp) st st' h ρ w hg hQ
    rw [List.range_eq_range', ← Array.length_toList]
    exact this
  | true =>
    simp only [T.eval_bind, Option.bind_eq_some_iff] at h
    obtain ⟨⟨st1, rs⟩, h1, h2⟩ := h
    simp only at h2
    split at h2
    · rename_i hc
      cases h2
      simp only [Bool.and_eq_true] at hc
      obtain ⟨ds, g1, g2, g3, g4, g5⟩ := drawOps_spec ops.toList 0 st st1 [] rs h1
      simp only [List.nil_append] at g2
      obtain ⟨_, hb⟩ := befores_spec ops.toList []
      have hd : Drawn E ops st.nx ds (st.fr, hget st.hp) (befores ops.toList []) := by
        refine ⟨by simpa using g1, ?_, ?_, ?_, ?_, ?_⟩
        · intro k o d ho hk
          have := g5 k o d (by simpa using ho) hk
          rwa [Nat.zero_add] at this
        · intro k o ho e he hbd
          have := backEdges_spec ops.toList 0 hc.2 k o (by simpa using ho) e he hbd
          omega
        · intro i j oi oj hij hi hj
          have := apartAll_spec ops.toList 0 hc.1.2 j oj (by simpa using hj) i oi hi (by omega)
          rwa [Nat.zero_add] at this
        · intro i j di dj hij hi hj
          have := indepAll_spec (bs := befores ops.toList []) (rs := rs) rs 0 hc.1.1 j (toRec dj) (by rw [g2, List.getElem?_map, hj]; rfl) i (toRec di) (by rw [g2, List.getElem?_map, hi]; rfl) (by omega)
          rwa [Nat.zero_add] at this
        · intro j o i ho hbf
          have := hb j o i (by simpa using ho) (by simpa using hbf)
          exact this
      refine wp_region_any hm ?_
      have hL : (fun i => (Array.replicate ops.size false).getD i false) = fun _ => false := by
        funext i
        rw [Array.getD_eq_getD_getElem?, Array.getElem?_replicate]
        split <;> rfl
      have hlays : ∀ (ds : List (Did A)) (i : Nat) (s : Sp A), lays (fun _ => false) i ds s = s := by
        intro ds
        induction ds with
        | nil => intro i s; rfl
        | cons x ds ih => intro i s; simp only [lays]; exact ih _ _
      have hq : qL st.nx (fun _ => false) = lt st.nx := by funext n; simp [qL, lt]
      have := draw_go (P := P) (amb := amb) hE hd (Q := Q) (ρ0 := ρ) ?_ ops.size (Array.replicate ops.size false) ρ { w with drawn := w.drawn + 1 } (by simp) ?_ ?_ (Agree.refl _ _) ?_ ?_
      · rw [hL, hlays] at this
        exact this
      · intro ρ' w' hag hok hsat
        rw [← g4] at hok hsat ⊢
        exact hQ ρ' w' hag (by show st.nx ≤ st.nx + 16 * ops.size; omega) ⟨hok, hsat⟩
      · have := List.length_filter_le (fun i => !(Array.replicate ops.size false).getD i false) (List.range ops.size)
        rw [List.length_range] at this
        exact this
      · rw [hL]; intro j o hj; cases hj
      · rw [hL, hlays, hq]; exact hg.fr
      · rw [hL, hlays, hq]
        obtain ⟨pt, hs⟩ := hg.sat
        exact ⟨pt, hs.drew⟩
    · cases h2

theorem sx_all (hE : EnvOk P body E) (hm : P.follows .mixedOrders = true) : ∀ f, (∀ c, Covers P body E c → SxOk P body (fun Q => c.wp P Q) (sx E f c)) ∧
    (∀ b, Covers P body E b → SxOk P body (wpIn P (.inLoop b) b) (sx E f (.loop b))) ∧ (∀ b cur, Covers P body E b → Covers P body E cur → SxOk P body (wpIn P (.inScope b) cur) (sx.sxScope E f b cur))
  | 0 => ⟨fun c _ st e st' h => by simp [sx, T.eval] at h, fun c _ st e st' h => by simp [sx, T.eval] at h, fun b cur _ _ st e st' h => by simp [sx.sxScope, T.eval] at h⟩
  | f + 1 => by
    obtain ⟨ih1, ih2, ih3⟩ := sx_all hE hm f
    have hloop : ∀ b, Covers P body E b → SxOk P body (wpIn P (.inLoop b) b) (sx E (f + 1) (.loop b)) := by
      intro b hb st e st' h amb ρ w Q hg hQ
      simp only [sx, T.eval_bind, Option.bind_eq_some_iff] at h
      obtain ⟨⟨e1, st1⟩, h1, h2⟩ := h
      refine wp_inLoop (ih1 b hb st e1 st1 h1 amb ρ w _ hg fun ρ' w' hag hle hg' => ?_)
      simp only at h2
      cases e1 with
      | normal => exact ih2 b hb st1 e st' h2 amb ρ' w' Q hg' fun ρ'' w'' hag' hle' hg'' => hQ ρ'' w'' (hag.trans hag' (Sub.lt hle)) (Nat.le_trans hle hle') hg''
      | exit id => cases h2; exact hQ ρ' w' hag hle hg'
      | goto l => cases h2; exact hQ ρ' w' hag hle hg'
      | ret => cases h2; exact hQ ρ' w' hag hle hg'
    refine ⟨?_, hloop, ?_⟩
    · intro c hc st e st' h amb ρ w Q hg hQ
      cases c with
      | skip => simp only [sx, T.eval, Option.some.injEq, Prod.mk.injEq] at h; obtain ⟨rfl, rfl⟩ := h; exact wp_skip (hQ ρ w (Agree.refl _ _) (Nat.le_refl _) hg)
      | label l => simp only [sx, T.eval, Option.some.injEq, Prod.mk.injEq] at h; obtain ⟨rfl, rfl⟩ := h; exact wp_label (hQ ρ w (Agree.refl _ _) (Nat.le_refl _) hg)
      | exit id => simp only [sx, T.eval, Option.some.injEq, Prod.mk.injEq] at h; obtain ⟨rfl, rfl⟩ := h; exact wp_exit (hQ ρ w (Agree.refl _ _) (Nat.le_refl _) hg)
      | goto l => simp only [sx, T.eval, Option.some.injEq, Prod.mk.injEq] at h; obtain ⟨rfl, rfl⟩ := h; exact wp_goto (hQ ρ w (Agree.refl _ _) (Nat.le_refl _) hg)
      | ret => simp only [sx, T.eval, Option.some.injEq, Prod.mk.injEq] at h; obtain ⟨rfl, rfl⟩ := h; exact wp_ret (hQ ρ w (Agree.refl _ _) (Nat.le_refl _) hg)
      | region id ops draw =>
        simp only [sx, T.eval_bind, Option.bind_eq_some_iff] at h
        obtain ⟨st1, h1, h2⟩ := h
        simp only [T.eval, Option.some.injEq, Prod.mk.injEq] at h2
        obtain ⟨rfl, rfl⟩ := h2
        exact region_ok hE hm h1 hg hQ
      | seq a b =>
        simp only [sx, T.eval_bind, Option.bind_eq_some_iff] at h
        obtain ⟨⟨e1, st1⟩, h1, h2⟩ := h
        refine wp_seq (ih1 a hc.1 st e1 st1 h1 amb ρ w _ hg fun ρ' w' hag hle hg' => ?_)
        simp only at h2
        cases e1 with
        | normal => exact ih1 b hc.2 st1 e st' h2 amb ρ' w' Q hg' fun ρ'' w'' hag' hle' hg'' => hQ ρ'' w'' (hag.trans hag' (Sub.lt hle)) (Nat.le_trans hle hle') hg''
        | exit id => cases h2; exact hQ ρ' w' hag hle hg'
        | goto l => cases h2; exact hQ ρ' w' hag hle hg'
        | ret => cases h2; exact hQ ρ' w' hag hle hg'
      | cond x a b =>
        cases x with
        | tmp t =>
          simp only [sx] at h
          split at h
          · rename_i c hcb
            have hst : ({ st with fr := st.fr.set t (.bool c) } : St A) = st := by rw [set_same hcb]
            have hev : (actOf ρ st.fr).eval (.tmp t) = .bool c := by
              rw [act_eval rfl]; simp [evL, hcb, den]
            cases c
            · simp only [T.eval, cond] at h
              rw [hst] at h
              exact wp_cond_false hev (ih1 b hc.2 st e st' h amb ρ w Q hg hQ)
            · simp only [T.eval, cond] at h
              rw [hst] at h
              exact wp_cond_true hev (ih1 a hc.1 st e st' h amb ρ w Q hg hQ)
          · cases h
        | const v => simp [sx, T.eval] at h
        | global g => simp [sx, T.eval] at h
        | func g => simp [sx, T.eval] at h
      | block id b =>
        simp only [sx] at h
        simp only [Covers] at hc
        split at h
        · rename_i s hs
          rw [hs] at hc
          exact hc st e st' h amb ρ w Q hg hQ
        · rename_i hs
          rw [hs] at hc
          simp only [T.eval_bind, Option.bind_eq_some_iff] at h
          obtain ⟨⟨e1, st1⟩, h1, h2⟩ := h
          refine wp_block (ih1 b hc st e1 st1 h1 amb ρ w _ hg fun ρ' w' hag hle hg' => ?_)
          simp only at h2
          split at h2
          · rename_i hx
            simp only [T.eval, Option.some.injEq, Prod.mk.injEq] at h2
            obtain ⟨rfl, rfl⟩ := h2
            cases e1 with
            | exit id' =>
              have : id' = id := Nat.eq_of_beq_eq_true hx
              subst this
              simp only [Ex.toExit, Exit.inBlock, if_true]
              exact hQ ρ' w' hag hle hg'
            | _ => simp [Ex.isExit] at hx
          · rename_i hx
            simp only [T.eval, Option.some.injEq, Prod.mk.injEq] at h2
            obtain ⟨rfl, rfl⟩ := h2
            cases e1 with
            | exit id' =>
              have : id' ≠ id := Nat.ne_of_beq_eq_false hx
              simp only [Ex.toExit, Exit.inBlock, if_neg this]
              exact hQ ρ' w' hag hle hg'
            | normal => exact hQ ρ' w' hag hle hg'
            | goto l => exact hQ ρ' w' hag hle hg'
            | ret => exact hQ ρ' w' hag hle hg'
      | loop b => exact wp_of_loop (hloop b hc st e st' h amb ρ w Q hg hQ)
      | scope b =>
        simp only [sx] at h
        exact wp_of_scope (ih3 b b hc hc st e st' h amb ρ w Q hg hQ)
      | rangeFunc a b c d => simp [sx, T.eval] at h
      | refuse s => simp [sx, T.eval] at h
    · intro b cur hb hcur st e st' h amb ρ w Q hg hQ
      simp only [sx.sxScope, T.eval_bind, Option.bind_eq_some_iff] at h
      obtain ⟨⟨e1, st1⟩, h1, h2⟩ := h
      refine wp_inScope (ih1 cur hcur st e1 st1 h1 amb ρ w _ hg fun ρ' w' hag hle hg' => ?_)
      simp only at h2
      cases e1 with
      | normal => cases h2; exact hQ ρ' w' hag hle hg'
      | exit id => cases h2; exact hQ ρ' w' hag hle hg'
      | ret => cases h2; exact hQ ρ' w' hag hle hg'
      | goto l =>
        simp only [Ex.toExit] at h2 ⊢
        split at h2
        · rename_i rest hf
          simp only [hf]
          exact ih3 b rest hb (covers_label hf hb) st1 e st' h2 amb ρ' w' Q hg' fun ρ'' w'' hag' hle' hg'' => hQ ρ'' w'' (hag.trans hag' (Sub.lt hle)) (Nat.le_trans hle hle') hg''
        · rename_i hf
          simp only [hf]
          cases h2
          exact hQ ρ' w' hag hle hg'
end
end Go.Sx
