/- Contracts: a scan. No condition. -/
import Derived.Test.YtmofbdcmeafbkaaX3
/- Contracts: a scan. No condition. -/
set_option linter.unusedVariables false
set_option linter.unusedSimpArgs false
namespace Go.Sx
open Go.Proofs
noncomputable def E93 : List (FuncId × Summ Kd) := []
def m93 (tw : Int) (ta : Int) (pw : Int) (ph : Int) (pl : Int) (pg : Int) (pc : Int) (work : Int) (n : Nat) (l : List Int) : Option ((Sc Kd)) :=
    (cond (n == l.length)
      (cond (decide (l.length = (0 : Nat)))
        (some (({ tw := tw, ta := ta, p := { work := pw, heads := ph, links := pl, gens := pg, carved := pc : Pl }, work := work, word := (0 : Int), l := none, seen := fun x => false, frees := none, left := none, ended := false : Sc Kd })))
        (cond (decide (l.length ≤ (1048576 : Nat)))
          (some (({ tw := tw, ta := ta, p := { work := pw, heads := ph, links := pl, gens := pg, carved := pc : Pl }, work := work, word := (0 : Int), l := some (l, l.length), seen := fun x => false, frees := none, left := none, ended := false : Sc Kd })))
          none))
      none)
def sh93 (tw : Int) (ta : Int) (pw : Int) (ph : Int) (pl : Int) (pg : Int) (pc : Int) (work : Int) (n : Nat) (l : List Int) (y : Sc Kd) : LV × List (Option (LO Kd)) := (.ptr 1 0, [some (.vec (.ints l) 3), some (.abs (.scan y) [])])
theorem tree93 (tw : Int) (ta : Int) (pw : Int) (ph : Int) (pl : Int) (pg : Int) (pc : Int) (work : Int) (n : Nat) (l : List Int) : ∀ r, (m93 tw ta pw ph pl pg pc work n l).map (sh93 tw ta pw ph pl pg pc work n l) = some r → (derS body (mkEnv E93 noLoops) Try.f93 [] (fun v => [(ptrOf v, rScan)]) [.agg [.int .i64 tw, .int .i64 ta], .agg [.int .i64 pw, .int .i64 ph, .int .i64 pl, .int .i64 pg, .int .i64 pc], .int .i64 work, .vec 0 n] [some (.vec (.ints l) 3)]).eval = some r := fun r h => Eq.trans (by kernel_rfl) ((le_cond (le_cond le_some (le_cond le_some le_none)) le_none) r h)
def S93 : Summ Kd := fun args cs => match args, cs with
  | [.agg [.int .i64 tw, .int .i64 ta], .agg [.int .i64 pw, .int .i64 ph, .int .i64 pl, .int .i64 pg, .int .i64 pc], .int .i64 work, .vec 0 n], [some (.vec (.ints l) 3)] => ans (m93 tw ta pw ph pl pg pc work n l) (sh93 tw ta pw ph pl pg pc work n l)
  | _, _ => .bad 0
theorem fact93 : Fact 93 S93 := fact_of (l := E93) trivial Try.func93 rfl Try.call93 (opens := []) (shuts := (fun v => [(ptrOf v, rScan)])) (fun v x h => by simp only [List.mem_singleton] at h; subst h; exact rScan_ok) (by
  intro args cs r h
  unfold S93 at h
  split at h
  · exact tree93 _ _ _ _ _ _ _ _ _ _ _ (eval_ans h)
  · cases h)
noncomputable def E157 : List (FuncId × Summ Kd) := [(30, S30), (158, S158), (117, S117)]
def m157 (x : Sc Kd) (a : Ar) : Option ((Bool × Sc Kd × Ar)) := match x with
  | ⟨tw, ta, sp, work, word, none, seen, none, none, ended⟩ =>
    (cond (ended)
      (some ((ended), ({ tw := tw, ta := ta, p := sp, work := work, word := word, l := none, seen := seen, frees := none, left := none, ended := ended : Sc Kd }), (a)))
      (cond (decide (word < w64 ((2 : Int) * if (0 : Int) > tw then (0 : Int) else tw)))
        (cond (a.wf)
          (cond (w64 (word + (1 : Int)) == w64 ((2 : Int) * if (0 : Int) > tw then (0 : Int) else tw))
            none
            (some ((ended), ({ tw := tw, ta := ta, p := sp, work := work, word := w64 (word + (1 : Int)), l := none, seen := upf seen (a.rawAt (w64 (ta + word))) true, frees := none, left := none, ended := ended : Sc Kd }), (a.touch (w64 (ta + word))))))
          none)
        (cond (w64 ((2 : Int) * if (0 : Int) > tw then (0 : Int) else tw) == (0 : Int))
          (cond (word == (0 : Int))
            none
            none)
          none)))
  | ⟨tw, ta, sp, work, word, none, seen, none, (some (L, Ln)), ended⟩ =>
    (cond (ended)
      (some ((ended), ({ tw := tw, ta := ta, p := sp, work := work, word := word, l := none, seen := seen, frees := none, left := some (L, Ln), ended := ended : Sc Kd }), (a)))
      (cond (decide (word < w64 ((2 : Int) * if (0 : Int) > tw then (0 : Int) else tw)))
        (cond (a.wf)
          (cond (w64 (word + (1 : Int)) == w64 ((2 : Int) * if (0 : Int) > tw then (0 : Int) else tw))
            none
            (some ((ended), ({ tw := tw, ta := ta, p := sp, work := work, word := w64 (word + (1 : Int)), l := none, seen := upf seen (a.rawAt (w64 (ta + word))) true, frees := none, left := some (L, Ln), ended := ended : Sc Kd }), (a.touch (w64 (ta + word))))))
          none)
        (cond (w64 ((2 : Int) * if (0 : Int) > tw then (0 : Int) else tw) == (0 : Int))
          (cond (word == (0 : Int))
            none
            none)
          none)))
  | ⟨tw, ta, sp, work, word, none, seen, (some ([], fn)), none, ended⟩ =>
    (cond (ended)
      (some ((ended), ({ tw := tw, ta := ta, p := sp, work := work, word := word, l := none, seen := seen, frees := some ([], fn), left := none, ended := ended : Sc Kd }), (a)))
      (cond (decide (word < w64 ((2 : Int) * if (0 : Int) > tw then (0 : Int) else tw)))
        (cond (a.wf)
          (cond (w64 (word + (1 : Int)) == w64 ((2 : Int) * if (0 : Int) > tw then (0 : Int) else tw))
            none
            (some ((ended), ({ tw := tw, ta := ta, p := sp, work := work, word := w64 (word + (1 : Int)), l := none, seen := upf seen (a.rawAt (w64 (ta + word))) true, frees := some ([], fn), left := none, ended := ended : Sc Kd }), (a.touch (w64 (ta + word))))))
          none)
        (cond (w64 ((2 : Int) * if (0 : Int) > tw then (0 : Int) else tw) == (0 : Int))
          (cond (word == (0 : Int))
            none
            (cond (decide ((0 : Int) ≤ (0 : Int) ∧ (0 : Int) < (↑fn : Int)))
              none
              none))
          (cond (decide ((0 : Int) ≤ (0 : Int) ∧ (0 : Int) < (↑fn : Int)))
            none
            none))))
  | ⟨tw, ta, sp, work, word, none, seen, (some ([], fn)), (some (L, Ln)), ended⟩ =>
    (cond (ended)
      (some ((ended), ({ tw := tw, ta := ta, p := sp, work := work, word := word, l := none, seen := seen, frees := some ([], fn), left := some (L, Ln), ended := ended : Sc Kd }), (a)))
      (cond (decide (word < w64 ((2 : Int) * if (0 : Int) > tw then (0 : Int) else tw)))
        (cond (a.wf)
          (cond (w64 (word + (1 : Int)) == w64 ((2 : Int) * if (0 : Int) > tw then (0 : Int) else tw))
            none
            (some ((ended), ({ tw := tw, ta := ta, p := sp, work := work, word := w64 (word + (1 : Int)), l := none, seen := upf seen (a.rawAt (w64 (ta + word))) true, frees := some ([], fn), left := some (L, Ln), ended := ended : Sc Kd }), (a.touch (w64 (ta + word))))))
          none)
        (cond (w64 ((2 : Int) * if (0 : Int) > tw then (0 : Int) else tw) == (0 : Int))
          (cond (word == (0 : Int))
            none
            (cond (decide ((0 : Int) ≤ (0 : Int) ∧ (0 : Int) < (↑fn : Int)))
              none
              none))
          (cond (decide ((0 : Int) ≤ (0 : Int) ∧ (0 : Int) < (↑fn : Int)))
            none
            none))))
  | ⟨tw, ta, sp, work, word, none, seen, (some ([.free f], fn)), none, ended⟩ =>
    (cond (ended)
      (some ((ended), ({ tw := tw, ta := ta, p := sp, work := work, word := word, l := none, seen := seen, frees := some ([Kd.free f], fn), left := none, ended := ended : Sc Kd }), (a)))
      (cond (decide (word < w64 ((2 : Int) * if (0 : Int) > tw then (0 : Int) else tw)))
        (cond (a.wf)
          (cond (w64 (word + (1 : Int)) == w64 ((2 : Int) * if (0 : Int) > tw then (0 : Int) else tw))
            none
            (some ((ended), ({ tw := tw, ta := ta, p := sp, work := work, word := w64 (word + (1 : Int)), l := none, seen := upf seen (a.rawAt (w64 (ta + word))) true, frees := some ([Kd.free f], fn), left := none, ended := ended : Sc Kd }), (a.touch (w64 (ta + word))))))
          none)
        (cond (w64 ((2 : Int) * if (0 : Int) > tw then (0 : Int) else tw) == (0 : Int))
          (cond (word == (0 : Int))
            none
            (cond (decide ((0 : Int) ≤ (0 : Int) ∧ (0 : Int) < (↑fn : Int)))
              (Option.bind (m117 f a) fun y1 =>
                (cond (y1.fst)
                  (cond (fn == (0 : Nat) + (1 : Nat))
                    (some (true, ({ tw := tw, ta := ta, p := sp, work := work, word := word, l := none, seen := seen, frees := some ([], (0 : Nat)), left := none, ended := (↑(0 : Nat) : Int) == (0 : Int) : Sc Kd }), (y1.snd.2)))
                    none)
                  (some ((ended), ({ tw := tw, ta := ta, p := sp, work := work, word := word, l := none, seen := seen, frees := some ([Kd.free y1.snd.fst], fn), left := none, ended := ended : Sc Kd }), (y1.snd.2)))))
              none))
          (cond (decide ((0 : Int) ≤ (0 : Int) ∧ (0 : Int) < (↑fn : Int)))
            (Option.bind (m117 f a) fun y1 =>
              (cond (y1.fst)
                (cond (fn == (0 : Nat) + (1 : Nat))
                  (some (true, ({ tw := tw, ta := ta, p := sp, work := work, word := word, l := none, seen := seen, frees := some ([], (0 : Nat)), left := none, ended := (↑(0 : Nat) : Int) == (0 : Int) : Sc Kd }), (y1.snd.2)))
                  none)
                (some ((ended), ({ tw := tw, ta := ta, p := sp, work := work, word := word, l := none, seen := seen, frees := some ([Kd.free y1.snd.fst], fn), left := none, ended := ended : Sc Kd }), (y1.snd.2)))))
            none))))
  | ⟨tw, ta, sp, work, word, none, seen, (some ([.free f], fn)), (some (L, Ln)), ended⟩ =>
    (cond (ended)
      (some ((ended), ({ tw := tw, ta := ta, p := sp, work := work, word := word, l := none, seen := seen, frees := some ([Kd.free f], fn), left := some (L, Ln), ended := ended : Sc Kd }), (a)))
      (cond (decide (word < w64 ((2 : Int) * if (0 : Int) > tw then (0 : Int) else tw)))
        (cond (a.wf)
          (cond (w64 (word + (1 : Int)) == w64 ((2 : Int) * if (0 : Int) > tw then (0 : Int) else tw))
            none
            (some ((ended), ({ tw := tw, ta := ta, p := sp, work := work, word := w64 (word + (1 : Int)), l := none, seen := upf seen (a.rawAt (w64 (ta + word))) true, frees := some ([Kd.free f], fn), left := some (L, Ln), ended := ended : Sc Kd }), (a.touch (w64 (ta + word))))))
          none)
        (cond (w64 ((2 : Int) * if (0 : Int) > tw then (0 : Int) else tw) == (0 : Int))
          (cond (word == (0 : Int))
            none
            (cond (decide ((0 : Int) ≤ (0 : Int) ∧ (0 : Int) < (↑fn : Int)))
              (Option.bind (m117 f a) fun y1 =>
                (cond (y1.fst)
                  (cond (fn == (0 : Nat) + (1 : Nat))
                    (some (true, ({ tw := tw, ta := ta, p := sp, work := work, word := word, l := none, seen := seen, frees := some ([], (0 : Nat)), left := some (L, Ln), ended := (↑(0 : Nat) : Int) == (0 : Int) : Sc Kd }), (y1.snd.2)))
                    none)
                  (some ((ended), ({ tw := tw, ta := ta, p := sp, work := work, word := word, l := none, seen := seen, frees := some ([Kd.free y1.snd.fst], fn), left := some (L, Ln), ended := ended : Sc Kd }), (y1.snd.2)))))
              none))
          (cond (decide ((0 : Int) ≤ (0 : Int) ∧ (0 : Int) < (↑fn : Int)))
            (Option.bind (m117 f a) fun y1 =>
              (cond (y1.fst)
                (cond (fn == (0 : Nat) + (1 : Nat))
                  (some (true, ({ tw := tw, ta := ta, p := sp, work := work, word := word, l := none, seen := seen, frees := some ([], (0 : Nat)), left := some (L, Ln), ended := (↑(0 : Nat) : Int) == (0 : Int) : Sc Kd }), (y1.snd.2)))
                  none)
                (some ((ended), ({ tw := tw, ta := ta, p := sp, work := work, word := word, l := none, seen := seen, frees := some ([Kd.free y1.snd.fst], fn), left := some (L, Ln), ended := ended : Sc Kd }), (y1.snd.2)))))
            none))))
  | ⟨tw, ta, sp, work, word, none, seen, (some (.free f :: g :: F, fn)), none, ended⟩ =>
    (cond (ended)
      (some ((ended), ({ tw := tw, ta := ta, p := sp, work := work, word := word, l := none, seen := seen, frees := some (Kd.free f :: g :: F, fn), left := none, ended := ended : Sc Kd }), (a)))
      (cond (decide (word < w64 ((2 : Int) * if (0 : Int) > tw then (0 : Int) else tw)))
        (cond (a.wf)
          (cond (w64 (word + (1 : Int)) == w64 ((2 : Int) * if (0 : Int) > tw then (0 : Int) else tw))
            none
            (some ((ended), ({ tw := tw, ta := ta, p := sp, work := work, word := w64 (word + (1 : Int)), l := none, seen := upf seen (a.rawAt (w64 (ta + word))) true, frees := some (Kd.free f :: g :: F, fn), left := none, ended := ended : Sc Kd }), (a.touch (w64 (ta + word))))))
          none)
        (cond (w64 ((2 : Int) * if (0 : Int) > tw then (0 : Int) else tw) == (0 : Int))
          (cond (word == (0 : Int))
            none
            (cond (decide ((0 : Int) ≤ (0 : Int) ∧ (0 : Int) < (↑fn : Int)))
              (Option.bind (m117 f a) fun y1 =>
                (cond (y1.fst)
                  (cond (fn == (g :: F).length + (1 : Nat))
                    (some (false, ({ tw := tw, ta := ta, p := sp, work := work, word := word, l := none, seen := seen, frees := some (g :: F, (g :: F).length), left := none, ended := (↑(g :: F).length : Int) == (0 : Int) : Sc Kd }), (y1.snd.2)))
                    none)
                  (some ((ended), ({ tw := tw, ta := ta, p := sp, work := work, word := word, l := none, seen := seen, frees := some (Kd.free y1.snd.fst :: g :: F, fn), left := none, ended := ended : Sc Kd }), (y1.snd.2)))))
              none))
          (cond (decide ((0 : Int) ≤ (0 : Int) ∧ (0 : Int) < (↑fn : Int)))
            (Option.bind (m117 f a) fun y1 =>
              (cond (y1.fst)
                (cond (fn == (g :: F).length + (1 : Nat))
                  (some (false, ({ tw := tw, ta := ta, p := sp, work := work, word := word, l := none, seen := seen, frees := some (g :: F, (g :: F).length), left := none, ended := (↑(g :: F).length : Int) == (0 : Int) : Sc Kd }), (y1.snd.2)))
                  none)
                (some ((ended), ({ tw := tw, ta := ta, p := sp, work := work, word := word, l := none, seen := seen, frees := some (Kd.free y1.snd.fst :: g :: F, fn), left := none, ended := ended : Sc Kd }), (y1.snd.2)))))
            none))))
  | ⟨tw, ta, sp, work, word, none, seen, (some (.free f :: g :: F, fn)), (some (L, Ln)), ended⟩ =>
    (cond (ended)
      (some ((ended), ({ tw := tw, ta := ta, p := sp, work := work, word := word, l := none, seen := seen, frees := some (Kd.free f :: g :: F, fn), left := some (L, Ln), ended := ended : Sc Kd }), (a)))
      (cond (decide (word < w64 ((2 : Int) * if (0 : Int) > tw then (0 : Int) else tw)))
        (cond (a.wf)
          (cond (w64 (word + (1 : Int)) == w64 ((2 : Int) * if (0 : Int) > tw then (0 : Int) else tw))
            none
            (some ((ended), ({ tw := tw, ta := ta, p := sp, work := work, word := w64 (word + (1 : Int)), l := none, seen := upf seen (a.rawAt (w64 (ta + word))) true, frees := some (Kd.free f :: g :: F, fn), left := some (L, Ln), ended := ended : Sc Kd }), (a.touch (w64 (ta + word))))))
          none)
        (cond (w64 ((2 : Int) * if (0 : Int) > tw then (0 : Int) else tw) == (0 : Int))
          (cond (word == (0 : Int))
            none
            (cond (decide ((0 : Int) ≤ (0 : Int) ∧ (0 : Int) < (↑fn : Int)))
              (Option.bind (m117 f a) fun y1 =>
                (cond (y1.fst)
                  (cond (fn == (g :: F).length + (1 : Nat))
                    (some (false, ({ tw := tw, ta := ta, p := sp, work := work, word := word, l := none, seen := seen, frees := some (g :: F, (g :: F).length), left := some (L, Ln), ended := (↑(g :: F).length : Int) == (0 : Int) : Sc Kd }), (y1.snd.2)))
                    none)
                  (some ((ended), ({ tw := tw, ta := ta, p := sp, work := work, word := word, l := none, seen := seen, frees := some (Kd.free y1.snd.fst :: g :: F, fn), left := some (L, Ln), ended := ended : Sc Kd }), (y1.snd.2)))))
              none))
          (cond (decide ((0 : Int) ≤ (0 : Int) ∧ (0 : Int) < (↑fn : Int)))
            (Option.bind (m117 f a) fun y1 =>
              (cond (y1.fst)
                (cond (fn == (g :: F).length + (1 : Nat))
                  (some (false, ({ tw := tw, ta := ta, p := sp, work := work, word := word, l := none, seen := seen, frees := some (g :: F, (g :: F).length), left := some (L, Ln), ended := (↑(g :: F).length : Int) == (0 : Int) : Sc Kd }), (y1.snd.2)))
                  none)
                (some ((ended), ({ tw := tw, ta := ta, p := sp, work := work, word := word, l := none, seen := seen, frees := some (Kd.free y1.snd.fst :: g :: F, fn), left := some (L, Ln), ended := ended : Sc Kd }), (y1.snd.2)))))
            none))))
  | ⟨tw, ta, sp, work, word, (some (l, ln)), seen, none, none, ended⟩ =>
    (cond (ended)
      (some ((ended), ({ tw := tw, ta := ta, p := sp, work := work, word := word, l := some (l, ln), seen := seen, frees := none, left := none, ended := ended : Sc Kd }), (a)))
      (cond (decide (word < w64 ((2 : Int) * if (0 : Int) > tw then (0 : Int) else tw)))
        (cond (a.wf)
          (cond (w64 (word + (1 : Int)) == w64 ((2 : Int) * if (0 : Int) > tw then (0 : Int) else tw))
            (cond (decide (ln = l.length ∧ ln = l.length ∧ (↑ln : Int) = (↑l.length : Int) ∧ (0 : Int) = (0 : Int) ∧ l.length ≤ (1000 : Nat)))
              (cond ((scF { tw := tw, ta := ta, p := sp, work := work, word := w64 (word + (1 : Int)), l := none, seen := upf seen (a.rawAt (w64 (ta + word))) true, frees := none, left := none, ended := ended : Sc Kd } (upf seen (a.rawAt (w64 (ta + word))) true) l).isEmpty)
                (cond ((scL (upf seen (a.rawAt (w64 (ta + word))) true) l).isEmpty)
                  (some (true, ({ tw := tw, ta := ta, p := sp, work := work, word := w64 (word + (1 : Int)), l := some (l, l.length), seen := fun x => false, frees := none, left := none, ended := (0 : Int) == (0 : Int) : Sc Kd }), (a.touch (w64 (ta + word)))))
                  (some (true, ({ tw := tw, ta := ta, p := sp, work := work, word := w64 (word + (1 : Int)), l := some (l, l.length), seen := fun x => false, frees := none, left := some (scL (upf seen (a.rawAt (w64 (ta + word))) true) l, (scL (upf seen (a.rawAt (w64 (ta + word))) true) l).length), ended := (0 : Int) == (0 : Int) : Sc Kd }), (a.touch (w64 (ta + word))))))
                (cond ((scL (upf seen (a.rawAt (w64 (ta + word))) true) l).isEmpty)
                  (some (((↑(scF { tw := tw, ta := ta, p := sp, work := work, word := w64 (word + (1 : Int)), l := none, seen := upf seen (a.rawAt (w64 (ta + word))) true, frees := none, left := none, ended := ended : Sc Kd } (upf seen (a.rawAt (w64 (ta + word))) true) l).length : Int) == (0 : Int)), ({ tw := tw, ta := ta, p := sp, work := work, word := w64 (word + (1 : Int)), l := some (l, l.length), seen := fun x => false, frees := some ((scF { tw := tw, ta := ta, p := sp, work := work, word := w64 (word + (1 : Int)), l := none, seen := upf seen (a.rawAt (w64 (ta + word))) true, frees := none, left := none, ended := ended : Sc Kd } (upf seen (a.rawAt (w64 (ta + word))) true) l).headD (Kd.sets { at_ := none, v := (0 : Int) : Se }) :: (scF { tw := tw, ta := ta, p := sp, work := work, word := w64 (word + (1 : Int)), l := none, seen := upf seen (a.rawAt (w64 (ta + word))) true, frees := none, left := none, ended := ended : Sc Kd } (upf seen (a.rawAt (w64 (ta + word))) true) l).tail, (scF { tw := tw, ta := ta, p := sp, work := work, word := w64 (word + (1 : Int)), l := none, seen := upf seen (a.rawAt (w64 (ta + word))) true, frees := none, left := none, ended := ended : Sc Kd } (upf seen (a.rawAt (w64 (ta + word))) true) l).length), left := none, ended := (↑(scF { tw := tw, ta := ta, p := sp, work := work, word := w64 (word + (1 : Int)), l := none, seen := upf seen (a.rawAt (w64 (ta + word))) true, frees := none, left := none, ended := ended : Sc Kd } (upf seen (a.rawAt (w64 (ta + word))) true) l).length : Int) == (0 : Int) : Sc Kd }), (a.touch (w64 (ta + word)))))
                  (some (((↑(scF { tw := tw, ta := ta, p := sp, work := work, word := w64 (word + (1 : Int)), l := none, seen := upf seen (a.rawAt (w64 (ta + word))) true, frees := none, left := none, ended := ended : Sc Kd } (upf seen (a.rawAt (w64 (ta + word))) true) l).length : Int) == (0 : Int)), ({ tw := tw, ta := ta, p := sp, work := work, word := w64 (word + (1 : Int)), l := some (l, l.length), seen := fun x => false, frees := some ((scF { tw := tw, ta := ta, p := sp, work := work, word := w64 (word + (1 : Int)), l := none, seen := upf seen (a.rawAt (w64 (ta + word))) true, frees := none, left := none, ended := ended : Sc Kd } (upf seen (a.rawAt (w64 (ta + word))) true) l).headD (Kd.sets { at_ := none, v := (0 : Int) : Se }) :: (scF { tw := tw, ta := ta, p := sp, work := work, word := w64 (word + (1 : Int)), l := none, seen := upf seen (a.rawAt (w64 (ta + word))) true, frees := none, left := none, ended := ended : Sc Kd } (upf seen (a.rawAt (w64 (ta + word))) true) l).tail, (scF { tw := tw, ta := ta, p := sp, work := work, word := w64 (word + (1 : Int)), l := none, seen := upf seen (a.rawAt (w64 (ta + word))) true, frees := none, left := none, ended := ended : Sc Kd } (upf seen (a.rawAt (w64 (ta + word))) true) l).length), left := some (scL (upf seen (a.rawAt (w64 (ta + word))) true) l, (scL (upf seen (a.rawAt (w64 (ta + word))) true) l).length), ended := (↑(scF { tw := tw, ta := ta, p := sp, work := work, word := w64 (word + (1 : Int)), l := none, seen := upf seen (a.rawAt (w64 (ta + word))) true, frees := none, left := none, ended := ended : Sc Kd } (upf seen (a.rawAt (w64 (ta + word))) true) l).length : Int) == (0 : Int) : Sc Kd }), (a.touch (w64 (ta + word)))))))
              none)
            (some ((ended), ({ tw := tw, ta := ta, p := sp, work := work, word := w64 (word + (1 : Int)), l := some (l, ln), seen := upf seen (a.rawAt (w64 (ta + word))) true, frees := none, left := none, ended := ended : Sc Kd }), (a.touch (w64 (ta + word))))))
          none)
        (cond (w64 ((2 : Int) * if (0 : Int) > tw then (0 : Int) else tw) == (0 : Int))
          (cond (word == (0 : Int))
            (cond (decide (ln = l.length ∧ ln = l.length ∧ (↑ln : Int) = (↑l.length : Int) ∧ (0 : Int) = (0 : Int) ∧ l.length ≤ (1000 : Nat)))
              (cond ((scF { tw := tw, ta := ta, p := sp, work := work, word := w64 (word + (1 : Int)), l := none, seen := seen, frees := none, left := none, ended := ended : Sc Kd } seen l).isEmpty)
                (cond ((scL seen l).isEmpty)
                  (some (true, ({ tw := tw, ta := ta, p := sp, work := work, word := w64 (word + (1 : Int)), l := some (l, l.length), seen := fun x => false, frees := none, left := none, ended := (0 : Int) == (0 : Int) : Sc Kd }), (a)))
                  (some (true, ({ tw := tw, ta := ta, p := sp, work := work, word := w64 (word + (1 : Int)), l := some (l, l.length), seen := fun x => false, frees := none, left := some (scL seen l, (scL seen l).length), ended := (0 : Int) == (0 : Int) : Sc Kd }), (a))))
                (cond ((scL seen l).isEmpty)
                  (cond (!(↑(scF { tw := tw, ta := ta, p := sp, work := work, word := w64 (word + (1 : Int)), l := none, seen := seen, frees := none, left := none, ended := ended : Sc Kd } seen l).length : Int) == (0 : Int))
                    none
                    (some (((↑(scF { tw := tw, ta := ta, p := sp, work := work, word := w64 (word + (1 : Int)), l := none, seen := seen, frees := none, left := none, ended := ended : Sc Kd } seen l).length : Int) == (0 : Int)), ({ tw := tw, ta := ta, p := sp, work := work, word := w64 (word + (1 : Int)), l := some (l, l.length), seen := fun x => false, frees := some ((scF { tw := tw, ta := ta, p := sp, work := work, word := w64 (word + (1 : Int)), l := none, seen := seen, frees := none, left := none, ended := ended : Sc Kd } seen l).headD (Kd.sets { at_ := none, v := (0 : Int) : Se }) :: (scF { tw := tw, ta := ta, p := sp, work := work, word := w64 (word + (1 : Int)), l := none, seen := seen, frees := none, left := none, ended := ended : Sc Kd } seen l).tail, (scF { tw := tw, ta := ta, p := sp, work := work, word := w64 (word + (1 : Int)), l := none, seen := seen, frees := none, left := none, ended := ended : Sc Kd } seen l).length), left := none, ended := (↑(scF { tw := tw, ta := ta, p := sp, work := work, word := w64 (word + (1 : Int)), l := none, seen := seen, frees := none, left := none, ended := ended : Sc Kd } seen l).length : Int) == (0 : Int) : Sc Kd }), (a))))
                  (cond (!(↑(scF { tw := tw, ta := ta, p := sp, work := work, word := w64 (word + (1 : Int)), l := none, seen := seen, frees := none, left := none, ended := ended : Sc Kd } seen l).length : Int) == (0 : Int))
                    none
                    (some (((↑(scF { tw := tw, ta := ta, p := sp, work := work, word := w64 (word + (1 : Int)), l := none, seen := seen, frees := none, left := none, ended := ended : Sc Kd } seen l).length : Int) == (0 : Int)), ({ tw := tw, ta := ta, p := sp, work := work, word := w64 (word + (1 : Int)), l := some (l, l.length), seen := fun x => false, frees := some ((scF { tw := tw, ta := ta, p := sp, work := work, word := w64 (word + (1 : Int)), l := none, seen := seen, frees := none, left := none, ended := ended : Sc Kd } seen l).headD (Kd.sets { at_ := none, v := (0 : Int) : Se }) :: (scF { tw := tw, ta := ta, p := sp, work := work, word := w64 (word + (1 : Int)), l := none, seen := seen, frees := none, left := none, ended := ended : Sc Kd } seen l).tail, (scF { tw := tw, ta := ta, p := sp, work := work, word := w64 (word + (1 : Int)), l := none, seen := seen, frees := none, left := none, ended := ended : Sc Kd } seen l).length), left := some (scL seen l, (scL seen l).length), ended := (↑(scF { tw := tw, ta := ta, p := sp, work := work, word := w64 (word + (1 : Int)), l := none, seen := seen, frees := none, left := none, ended := ended : Sc Kd } seen l).length : Int) == (0 : Int) : Sc Kd }), (a))))))
              none)
            none)
          none)))
  | ⟨tw, ta, sp, work, word, (some (l, ln)), seen, none, (some (L, Ln)), ended⟩ =>
    (cond (ended)
      (some ((ended), ({ tw := tw, ta := ta, p := sp, work := work, word := word, l := some (l, ln), seen := seen, frees := none, left := some (L, Ln), ended := ended : Sc Kd }), (a)))
      (cond (decide (word < w64 ((2 : Int) * if (0 : Int) > tw then (0 : Int) else tw)))
        (cond (a.wf)
          (cond (w64 (word + (1 : Int)) == w64 ((2 : Int) * if (0 : Int) > tw then (0 : Int) else tw))
            none
            (some ((ended), ({ tw := tw, ta := ta, p := sp, work := work, word := w64 (word + (1 : Int)), l := some (l, ln), seen := upf seen (a.rawAt (w64 (ta + word))) true, frees := none, left := some (L, Ln), ended := ended : Sc Kd }), (a.touch (w64 (ta + word))))))
          none)
        (cond (w64 ((2 : Int) * if (0 : Int) > tw then (0 : Int) else tw) == (0 : Int))
          (cond (word == (0 : Int))
            none
            none)
          none)))
  | ⟨tw, ta, sp, work, word, (some (l, ln)), seen, (some ([], fn)), none, ended⟩ =>
    (cond (ended)
      (some ((ended), ({ tw := tw, ta := ta, p := sp, work := work, word := word, l := some (l, ln), seen := seen, frees := some ([], fn), left := none, ended := ended : Sc Kd }), (a)))
      (cond (decide (word < w64 ((2 : Int) * if (0 : Int) > tw then (0 : Int) else tw)))
        (cond (a.wf)
          (cond (w64 (word + (1 : Int)) == w64 ((2 : Int) * if (0 : Int) > tw then (0 : Int) else tw))
            none
            (some ((ended), ({ tw := tw, ta := ta, p := sp, work := work, word := w64 (word + (1 : Int)), l := some (l, ln), seen := upf seen (a.rawAt (w64 (ta + word))) true, frees := some ([], fn), left := none, ended := ended : Sc Kd }), (a.touch (w64 (ta + word))))))
          none)
        (cond (w64 ((2 : Int) * if (0 : Int) > tw then (0 : Int) else tw) == (0 : Int))
          (cond (word == (0 : Int))
            none
            (cond (decide ((0 : Int) ≤ (0 : Int) ∧ (0 : Int) < (↑fn : Int)))
              none
              none))
          (cond (decide ((0 : Int) ≤ (0 : Int) ∧ (0 : Int) < (↑fn : Int)))
            none
            none))))
  | ⟨tw, ta, sp, work, word, (some (l, ln)), seen, (some ([], fn)), (some (L, Ln)), ended⟩ =>
    (cond (ended)
      (some ((ended), ({ tw := tw, ta := ta, p := sp, work := work, word := word, l := some (l, ln), seen := seen, frees := some ([], fn), left := some (L, Ln), ended := ended : Sc Kd }), (a)))
      (cond (decide (word < w64 ((2 : Int) * if (0 : Int) > tw then (0 : Int) else tw)))
        (cond (a.wf)
          (cond (w64 (word + (1 : Int)) == w64 ((2 : Int) * if (0 : Int) > tw then (0 : Int) else tw))
            none
            (some ((ended), ({ tw := tw, ta := ta, p := sp, work := work, word := w64 (word + (1 : Int)), l := some (l, ln), seen := upf seen (a.rawAt (w64 (ta + word))) true, frees := some ([], fn), left := some (L, Ln), ended := ended : Sc Kd }), (a.touch (w64 (ta + word))))))
          none)
        (cond (w64 ((2 : Int) * if (0 : Int) > tw then (0 : Int) else tw) == (0 : Int))
          (cond (word == (0 : Int))
            none
            (cond (decide ((0 : Int) ≤ (0 : Int) ∧ (0 : Int) < (↑fn : Int)))
              none
              none))
          (cond (decide ((0 : Int) ≤ (0 : Int) ∧ (0 : Int) < (↑fn : Int)))
            none
            none))))
  | ⟨tw, ta, sp, work, word, (some (l, ln)), seen, (some ([.free f], fn)), none, ended⟩ =>
    (cond (ended)
      (some ((ended), ({ tw := tw, ta := ta, p := sp, work := work, word := word, l := some (l, ln), seen := seen, frees := some ([Kd.free f], fn), left := none, ended := ended : Sc Kd }), (a)))
      (cond (decide (word < w64 ((2 : Int) * if (0 : Int) > tw then (0 : Int) else tw)))
        (cond (a.wf)
          (cond (w64 (word + (1 : Int)) == w64 ((2 : Int) * if (0 : Int) > tw then (0 : Int) else tw))
            none
            (some ((ended), ({ tw := tw, ta := ta, p := sp, work := work, word := w64 (word + (1 : Int)), l := some (l, ln), seen := upf seen (a.rawAt (w64 (ta + word))) true, frees := some ([Kd.free f], fn), left := none, ended := ended : Sc Kd }), (a.touch (w64 (ta + word))))))
          none)
        (cond (w64 ((2 : Int) * if (0 : Int) > tw then (0 : Int) else tw) == (0 : Int))
          (cond (word == (0 : Int))
            none
            (cond (decide ((0 : Int) ≤ (0 : Int) ∧ (0 : Int) < (↑fn : Int)))
              (Option.bind (m117 f a) fun y1 =>
                (cond (y1.fst)
                  (cond (fn == (0 : Nat) + (1 : Nat))
                    (some (true, ({ tw := tw, ta := ta, p := sp, work := work, word := word, l := some (l, ln), seen := seen, frees := some ([], (0 : Nat)), left := none, ended := (↑(0 : Nat) : Int) == (0 : Int) : Sc Kd }), (y1.snd.2)))
                    none)
                  (some ((ended), ({ tw := tw, ta := ta, p := sp, work := work, word := word, l := some (l, ln), seen := seen, frees := some ([Kd.free y1.snd.fst], fn), left := none, ended := ended : Sc Kd }), (y1.snd.2)))))
              none))
          (cond (decide ((0 : Int) ≤ (0 : Int) ∧ (0 : Int) < (↑fn : Int)))
            (Option.bind (m117 f a) fun y1 =>
              (cond (y1.fst)
                (cond (fn == (0 : Nat) + (1 : Nat))
                  (some (true, ({ tw := tw, ta := ta, p := sp, work := work, word := word, l := some (l, ln), seen := seen, frees := some ([], (0 : Nat)), left := none, ended := (↑(0 : Nat) : Int) == (0 : Int) : Sc Kd }), (y1.snd.2)))
                  none)
                (some ((ended), ({ tw := tw, ta := ta, p := sp, work := work, word := word, l := some (l, ln), seen := seen, frees := some ([Kd.free y1.snd.fst], fn), left := none, ended := ended : Sc Kd }), (y1.snd.2)))))
            none))))
  | ⟨tw, ta, sp, work, word, (some (l, ln)), seen, (some ([.free f], fn)), (some (L, Ln)), ended⟩ =>
    (cond (ended)
      (some ((ended), ({ tw := tw, ta := ta, p := sp, work := work, word := word, l := some (l, ln), seen := seen, frees := some ([Kd.free f], fn), left := some (L, Ln), ended := ended : Sc Kd }), (a)))
      (cond (decide (word < w64 ((2 : Int) * if (0 : Int) > tw then (0 : Int) else tw)))
        (cond (a.wf)
          (cond (w64 (word + (1 : Int)) == w64 ((2 : Int) * if (0 : Int) > tw then (0 : Int) else tw))
            none
            (some ((ended), ({ tw := tw, ta := ta, p := sp, work := work, word := w64 (word + (1 : Int)), l := some (l, ln), seen := upf seen (a.rawAt (w64 (ta + word))) true, frees := some ([Kd.free f], fn), left := some (L, Ln), ended := ended : Sc Kd }), (a.touch (w64 (ta + word))))))
          none)
        (cond (w64 ((2 : Int) * if (0 : Int) > tw then (0 : Int) else tw) == (0 : Int))
          (cond (word == (0 : Int))
            none
            (cond (decide ((0 : Int) ≤ (0 : Int) ∧ (0 : Int) < (↑fn : Int)))
              (Option.bind (m117 f a) fun y1 =>
                (cond (y1.fst)
                  (cond (fn == (0 : Nat) + (1 : Nat))
                    (some (true, ({ tw := tw, ta := ta, p := sp, work := work, word := word, l := some (l, ln), seen := seen, frees := some ([], (0 : Nat)), left := some (L, Ln), ended := (↑(0 : Nat) : Int) == (0 : Int) : Sc Kd }), (y1.snd.2)))
                    none)
                  (some ((ended), ({ tw := tw, ta := ta, p := sp, work := work, word := word, l := some (l, ln), seen := seen, frees := some ([Kd.free y1.snd.fst], fn), left := some (L, Ln), ended := ended : Sc Kd }), (y1.snd.2)))))
              none))
          (cond (decide ((0 : Int) ≤ (0 : Int) ∧ (0 : Int) < (↑fn : Int)))
            (Option.bind (m117 f a) fun y1 =>
              (cond (y1.fst)
                (cond (fn == (0 : Nat) + (1 : Nat))
                  (some (true, ({ tw := tw, ta := ta, p := sp, work := work, word := word, l := some (l, ln), seen := seen, frees := some ([], (0 : Nat)), left := some (L, Ln), ended := (↑(0 : Nat) : Int) == (0 : Int) : Sc Kd }), (y1.snd.2)))
                  none)
                (some ((ended), ({ tw := tw, ta := ta, p := sp, work := work, word := word, l := some (l, ln), seen := seen, frees := some ([Kd.free y1.snd.fst], fn), left := some (L, Ln), ended := ended : Sc Kd }), (y1.snd.2)))))
            none))))
  | ⟨tw, ta, sp, work, word, (some (l, ln)), seen, (some (.free f :: g :: F, fn)), none, ended⟩ =>
    (cond (ended)
      (some ((ended), ({ tw := tw, ta := ta, p := sp, work := work, word := word, l := some (l, ln), seen := seen, frees := some (Kd.free f :: g :: F, fn), left := none, ended := ended : Sc Kd }), (a)))
      (cond (decide (word < w64 ((2 : Int) * if (0 : Int) > tw then (0 : Int) else tw)))
        (cond (a.wf)
          (cond (w64 (word + (1 : Int)) == w64 ((2 : Int) * if (0 : Int) > tw then (0 : Int) else tw))
            none
            (some ((ended), ({ tw := tw, ta := ta, p := sp, work := work, word := w64 (word + (1 : Int)), l := some (l, ln), seen := upf seen (a.rawAt (w64 (ta + word))) true, frees := some (Kd.free f :: g :: F, fn), left := none, ended := ended : Sc Kd }), (a.touch (w64 (ta + word))))))
          none)
        (cond (w64 ((2 : Int) * if (0 : Int) > tw then (0 : Int) else tw) == (0 : Int))
          (cond (word == (0 : Int))
            none
            (cond (decide ((0 : Int) ≤ (0 : Int) ∧ (0 : Int) < (↑fn : Int)))
              (Option.bind (m117 f a) fun y1 =>
                (cond (y1.fst)
                  (cond (fn == (g :: F).length + (1 : Nat))
                    (some (false, ({ tw := tw, ta := ta, p := sp, work := work, word := word, l := some (l, ln), seen := seen, frees := some (g :: F, (g :: F).length), left := none, ended := (↑(g :: F).length : Int) == (0 : Int) : Sc Kd }), (y1.snd.2)))
                    none)
                  (some ((ended), ({ tw := tw, ta := ta, p := sp, work := work, word := word, l := some (l, ln), seen := seen, frees := some (Kd.free y1.snd.fst :: g :: F, fn), left := none, ended := ended : Sc Kd }), (y1.snd.2)))))
              none))
          (cond (decide ((0 : Int) ≤ (0 : Int) ∧ (0 : Int) < (↑fn : Int)))
            (Option.bind (m117 f a) fun y1 =>
              (cond (y1.fst)
                (cond (fn == (g :: F).length + (1 : Nat))
                  (some (false, ({ tw := tw, ta := ta, p := sp, work := work, word := word, l := some (l, ln), seen := seen, frees := some (g :: F, (g :: F).length), left := none, ended := (↑(g :: F).length : Int) == (0 : Int) : Sc Kd }), (y1.snd.2)))
                  none)
                (some ((ended), ({ tw := tw, ta := ta, p := sp, work := work, word := word, l := some (l, ln), seen := seen, frees := some (Kd.free y1.snd.fst :: g :: F, fn), left := none, ended := ended : Sc Kd }), (y1.snd.2)))))
            none))))
  | ⟨tw, ta, sp, work, word, (some (l, ln)), seen, (some (.free f :: g :: F, fn)), (some (L, Ln)), ended⟩ =>
    (cond (ended)
      (some ((ended), ({ tw := tw, ta := ta, p := sp, work := work, word := word, l := some (l, ln), seen := seen, frees := some (Kd.free f :: g :: F, fn), left := some (L, Ln), ended := ended : Sc Kd }), (a)))
      (cond (decide (word < w64 ((2 : Int) * if (0 : Int) > tw then (0 : Int) else tw)))
        (cond (a.wf)
          (cond (w64 (word + (1 : Int)) == w64 ((2 : Int) * if (0 : Int) > tw then (0 : Int) else tw))
            none
            (some ((ended), ({ tw := tw, ta := ta, p := sp, work := work, word := w64 (word + (1 : Int)), l := some (l, ln), seen := upf seen (a.rawAt (w64 (ta + word))) true, frees := some (Kd.free f :: g :: F, fn), left := some (L, Ln), ended := ended : Sc Kd }), (a.touch (w64 (ta + word))))))
          none)
        (cond (w64 ((2 : Int) * if (0 : Int) > tw then (0 : Int) else tw) == (0 : Int))
          (cond (word == (0 : Int))
            none
            (cond (decide ((0 : Int) ≤ (0 : Int) ∧ (0 : Int) < (↑fn : Int)))
              (Option.bind (m117 f a) fun y1 =>
                (cond (y1.fst)
                  (cond (fn == (g :: F).length + (1 : Nat))
                    (some (false, ({ tw := tw, ta := ta, p := sp, work := work, word := word, l := some (l, ln), seen := seen, frees := some (g :: F, (g :: F).length), left := some (L, Ln), ended := (↑(g :: F).length : Int) == (0 : Int) : Sc Kd }), (y1.snd.2)))
                    none)
                  (some ((ended), ({ tw := tw, ta := ta, p := sp, work := work, word := word, l := some (l, ln), seen := seen, frees := some (Kd.free y1.snd.fst :: g :: F, fn), left := some (L, Ln), ended := ended : Sc Kd }), (y1.snd.2)))))
              none))
          (cond (decide ((0 : Int) ≤ (0 : Int) ∧ (0 : Int) < (↑fn : Int)))
            (Option.bind (m117 f a) fun y1 =>
              (cond (y1.fst)
                (cond (fn == (g :: F).length + (1 : Nat))
                  (some (false, ({ tw := tw, ta := ta, p := sp, work := work, word := word, l := some (l, ln), seen := seen, frees := some (g :: F, (g :: F).length), left := some (L, Ln), ended := (↑(g :: F).length : Int) == (0 : Int) : Sc Kd }), (y1.snd.2)))
                  none)
                (some ((ended), ({ tw := tw, ta := ta, p := sp, work := work, word := word, l := some (l, ln), seen := seen, frees := some (Kd.free y1.snd.fst :: g :: F, fn), left := some (L, Ln), ended := ended : Sc Kd }), (y1.snd.2)))))
            none))))
  | _ => none
def sh157  (y : Bool × Sc Kd × Ar) : LV × List (Option (LO Kd)) := (.bool (y.1), [some (.abs (.scan (y.2.1)) []), some (.abs (.arena (y.2.2)) [])])
theorem tree157_1 (tw : Int) (ta : Int) (sp : Pl) (work : Int) (word : Int) (seen : Int → Bool) (ended : Bool) (a : Ar) : ∀ r, (m157 (⟨tw, ta, sp, work, word, none, seen, none, none, ended⟩) a).map sh157 = some r → (derS body (mkEnv E157 noLoops) Try.f157 [0] (fun _ => [(0, rScan)]) [.ptr 0 0, .ptr 1 0] [some (.abs (.scan (⟨tw, ta, sp, work, word, none, seen, none, none, ended⟩)) []), some (.abs (.arena a) [])]).eval = some r := fun r h => Eq.trans (by kernel_rfl) ((le_cond le_some (le_cond (le_cond (le_cond le_none le_some) le_none) (le_cond (le_cond le_none le_none) le_none))) r h)
theorem tree157_2 (tw : Int) (ta : Int) (sp : Pl) (work : Int) (word : Int) (seen : Int → Bool) (L : List Int) (Ln : Nat) (ended : Bool) (a : Ar) : ∀ r, (m157 (⟨tw, ta, sp, work, word, none, seen, none, (some (L, Ln)), ended⟩) a).map sh157 = some r → (derS body (mkEnv E157 noLoops) Try.f157 [0] (fun _ => [(0, rScan)]) [.ptr 0 0, .ptr 1 0] [some (.abs (.scan (⟨tw, ta, sp, work, word, none, seen, none, (some (L, Ln)), ended⟩)) []), some (.abs (.arena a) [])]).eval = some r := fun r h => Eq.trans (by kernel_rfl) ((le_cond le_some (le_cond (le_cond (le_cond le_none le_some) le_none) (le_cond (le_cond le_none le_none) le_none))) r h)
theorem tree157_3 (tw : Int) (ta : Int) (sp : Pl) (work : Int) (word : Int) (seen : Int → Bool) (fn : Nat) (ended : Bool) (a : Ar) : ∀ r, (m157 (⟨tw, ta, sp, work, word, none, seen, (some ([], fn)), none, ended⟩) a).map sh157 = some r → (derS body (mkEnv E157 noLoops) Try.f157 [0] (fun _ => [(0, rScan)]) [.ptr 0 0, .ptr 1 0] [some (.abs (.scan (⟨tw, ta, sp, work, word, none, seen, (some ([], fn)), none, ended⟩)) []), some (.abs (.arena a) [])]).eval = some r := fun r h => Eq.trans (by kernel_rfl) ((le_cond le_some (le_cond (le_cond (le_cond le_none le_some) le_none) (le_cond (le_cond le_none (le_cond le_none le_none)) (le_cond le_none le_none)))) r h)
theorem tree157_4 (tw : Int) (ta : Int) (sp : Pl) (work : Int) (word : Int) (seen : Int → Bool) (fn : Nat) (L : List Int) (Ln : Nat) (ended : Bool) (a : Ar) : ∀ r, (m157 (⟨tw, ta, sp, work, word, none, seen, (some ([], fn)), (some (L, Ln)), ended⟩) a).map sh157 = some r → (derS body (mkEnv E157 noLoops) Try.f157 [0] (fun _ => [(0, rScan)]) [.ptr 0 0, .ptr 1 0] [some (.abs (.scan (⟨tw, ta, sp, work, word, none, seen, (some ([], fn)), (some (L, Ln)), ended⟩)) []), some (.abs (.arena a) [])]).eval = some r := fun r h => Eq.trans (by kernel_rfl) ((le_cond le_some (le_cond (le_cond (le_cond le_none le_some) le_none) (le_cond (le_cond le_none (le_cond le_none le_none)) (le_cond le_none le_none)))) r h)
theorem tree157_5 (tw : Int) (ta : Int) (sp : Pl) (work : Int) (word : Int) (seen : Int → Bool) (f : Fr) (fn : Nat) (ended : Bool) (a : Ar) : ∀ r, (m157 (⟨tw, ta, sp, work, word, none, seen, (some ([.free f], fn)), none, ended⟩) a).map sh157 = some r → (derS body (mkEnv E157 noLoops) Try.f157 [0] (fun _ => [(0, rScan)]) [.ptr 0 0, .ptr 1 0] [some (.abs (.scan (⟨tw, ta, sp, work, word, none, seen, (some ([.free f], fn)), none, ended⟩)) []), some (.abs (.arena a) [])]).eval = some r := fun r h => Eq.trans (by kernel_rfl) ((le_cond le_some (le_cond (le_cond (le_cond le_none le_some) le_none) (le_cond (le_cond le_none (le_cond (le_bind fun y1 => (le_cond (le_cond le_some le_none) le_some)) le_none)) (le_cond (le_bind fun y1 => (le_cond (le_cond le_some le_none) le_some)) le_none)))) r h)
theorem tree157_6 (tw : Int) (ta : Int) (sp : Pl) (work : Int) (word : Int) (seen : Int → Bool) (f : Fr) (fn : Nat) (L : List Int) (Ln : Nat) (ended : Bool) (a : Ar) : ∀ r, (m157 (⟨tw, ta, sp, work, word, none, seen, (some ([.free f], fn)), (some (L, Ln)), ended⟩) a).map sh157 = some r → (derS body (mkEnv E157 noLoops) Try.f157 [0] (fun _ => [(0, rScan)]) [.ptr 0 0, .ptr 1 0] [some (.abs (.scan (⟨tw, ta, sp, work, word, none, seen, (some ([.free f], fn)), (some (L, Ln)), ended⟩)) []), some (.abs (.arena a) [])]).eval = some r := fun r h => Eq.trans (by kernel_rfl) ((le_cond le_some (le_cond (le_cond (le_cond le_none le_some) le_none) (le_cond (le_cond le_none (le_cond (le_bind fun y1 => (le_cond (le_cond le_some le_none) le_some)) le_none)) (le_cond (le_bind fun y1 => (le_cond (le_cond le_some le_none) le_some)) le_none)))) r h)
theorem tree157_7 (tw : Int) (ta : Int) (sp : Pl) (work : Int) (word : Int) (seen : Int → Bool) (f : Fr) (g : Kd) (F : List Kd) (fn : Nat) (ended : Bool) (a : Ar) : ∀ r, (m157 (⟨tw, ta, sp, work, word, none, seen, (some (.free f :: g :: F, fn)), none, ended⟩) a).map sh157 = some r → (derS body (mkEnv E157 noLoops) Try.f157 [0] (fun _ => [(0, rScan)]) [.ptr 0 0, .ptr 1 0] [some (.abs (.scan (⟨tw, ta, sp, work, word, none, seen, (some (.free f :: g :: F, fn)), none, ended⟩)) []), some (.abs (.arena a) [])]).eval = some r := fun r h => Eq.trans (by kernel_rfl) ((le_cond le_some (le_cond (le_cond (le_cond le_none le_some) le_none) (le_cond (le_cond le_none (le_cond (le_bind fun y1 => (le_cond (le_cond le_some le_none) le_some)) le_none)) (le_cond (le_bind fun y1 => (le_cond (le_cond le_some le_none) le_some)) le_none)))) r h)
theorem tree157_8 (tw : Int) (ta : Int) (sp : Pl) (work : Int) (word : Int) (seen : Int → Bool) (f : Fr) (g : Kd) (F : List Kd) (fn : Nat) (L : List Int) (Ln : Nat) (ended : Bool) (a : Ar) : ∀ r, (m157 (⟨tw, ta, sp, work, word, none, seen, (some (.free f :: g :: F, fn)), (some (L, Ln)), ended⟩) a).map sh157 = some r → (derS body (mkEnv E157 noLoops) Try.f157 [0] (fun _ => [(0, rScan)]) [.ptr 0 0, .ptr 1 0] [some (.abs (.scan (⟨tw, ta, sp, work, word, none, seen, (some (.free f :: g :: F, fn)), (some (L, Ln)), ended⟩)) []), some (.abs (.arena a) [])]).eval = some r := fun r h => Eq.trans (by kernel_rfl) ((le_cond le_some (le_cond (le_cond (le_cond le_none le_some) le_none) (le_cond (le_cond le_none (le_cond (le_bind fun y1 => (le_cond (le_cond le_some le_none) le_some)) le_none)) (le_cond (le_bind fun y1 => (le_cond (le_cond le_some le_none) le_some)) le_none)))) r h)
theorem tree157_9 (tw : Int) (ta : Int) (sp : Pl) (work : Int) (word : Int) (l : List Int) (ln : Nat) (seen : Int → Bool) (ended : Bool) (a : Ar) : ∀ r, (m157 (⟨tw, ta, sp, work, word, (some (l, ln)), seen, none, none, ended⟩) a).map sh157 = some r → (derS body (mkEnv E157 noLoops) Try.f157 [0] (fun _ => [(0, rScan)]) [.ptr 0 0, .ptr 1 0] [some (.abs (.scan (⟨tw, ta, sp, work, word, (some (l, ln)), seen, none, none, ended⟩)) []), some (.abs (.arena a) [])]).eval = some r := fun r h => Eq.trans (by kernel_rfl) ((le_cond le_some (le_cond (le_cond (le_cond (le_cond (le_cond (le_cond le_some le_some) (le_cond le_some le_some)) le_none) le_some) le_none) (le_cond (le_cond (le_cond (le_cond (le_cond le_some le_some) (le_cond (le_cond le_none le_some) (le_cond le_none le_some))) le_none) le_none) le_none))) r h)
theorem tree157_10 (tw : Int) (ta : Int) (sp : Pl) (work : Int) (word : Int) (l : List Int) (ln : Nat) (seen : Int → Bool) (L : List Int) (Ln : Nat) (ended : Bool) (a : Ar) : ∀ r, (m157 (⟨tw, ta, sp, work, word, (some (l, ln)), seen, none, (some (L, Ln)), ended⟩) a).map sh157 = some r → (derS body (mkEnv E157 noLoops) Try.f157 [0] (fun _ => [(0, rScan)]) [.ptr 0 0, .ptr 1 0] [some (.abs (.scan (⟨tw, ta, sp, work, word, (some (l, ln)), seen, none, (some (L, Ln)), ended⟩)) []), some (.abs (.arena a) [])]).eval = some r := fun r h => Eq.trans (by kernel_rfl) ((le_cond le_some (le_cond (le_cond (le_cond le_none le_some) le_none) (le_cond (le_cond le_none le_none) le_none))) r h)
theorem tree157_11 (tw : Int) (ta : Int) (sp : Pl) (work : Int) (word : Int) (l : List Int) (ln : Nat) (seen : Int → Bool) (fn : Nat) (ended : Bool) (a : Ar) : ∀ r, (m157 (⟨tw, ta, sp, work, word, (some (l, ln)), seen, (some ([], fn)), none, ended⟩) a).map sh157 = some r → (derS body (mkEnv E157 noLoops) Try.f157 [0] (fun _ => [(0, rScan)]) [.ptr 0 0, .ptr 1 0] [some (.abs (.scan (⟨tw, ta, sp, work, word, (some (l, ln)), seen, (some ([], fn)), none, ended⟩)) []), some (.abs (.arena a) [])]).eval = some r := fun r h => Eq.trans (by kernel_rfl) ((le_cond le_some (le_cond (le_cond (le_cond le_none le_some) le_none) (le_cond (le_cond le_none (le_cond le_none le_none)) (le_cond le_none le_none)))) r h)
theorem tree157_12 (tw : Int) (ta : Int) (sp : Pl) (work : Int) (word : Int) (l : List Int) (ln : Nat) (seen : Int → Bool) (fn : Nat) (L : List Int) (Ln : Nat) (ended : Bool) (a : Ar) : ∀ r, (m157 (⟨tw, ta, sp, work, word, (some (l, ln)), seen, (some ([], fn)), (some (L, Ln)), ended⟩) a).map sh157 = some r → (derS body (mkEnv E157 noLoops) Try.f157 [0] (fun _ => [(0, rScan)]) [.ptr 0 0, .ptr 1 0] [some (.abs (.scan (⟨tw, ta, sp, work, word, (some (l, ln)), seen, (some ([], fn)), (some (L, Ln)), ended⟩)) []), some (.abs (.arena a) [])]).eval = some r := fun r h => Eq.trans (by kernel_rfl) ((le_cond le_some (le_cond (le_cond (le_cond le_none le_some) le_none) (le_cond (le_cond le_none (le_cond le_none le_none)) (le_cond le_none le_none)))) r h)
theorem tree157_13 (tw : Int) (ta : Int) (sp : Pl) (work : Int) (word : Int) (l : List Int) (ln : Nat) (seen : Int → Bool) (f : Fr) (fn : Nat) (ended : Bool) (a : Ar) : ∀ r, (m157 (⟨tw, ta, sp, work, word, (some (l, ln)), seen, (some ([.free f], fn)), none, ended⟩) a).map sh157 = some r → (derS body (mkEnv E157 noLoops) Try.f157 [0] (fun _ => [(0, rScan)]) [.ptr 0 0, .ptr 1 0] [some (.abs (.scan (⟨tw, ta, sp, work, word, (some (l, ln)), seen, (some ([.free f], fn)), none, ended⟩)) []), some (.abs (.arena a) [])]).eval = some r := fun r h => Eq.trans (by kernel_rfl) ((le_cond le_some (le_cond (le_cond (le_cond le_none le_some) le_none) (le_cond (le_cond le_none (le_cond (le_bind fun y1 => (le_cond (le_cond le_some le_none) le_some)) le_none)) (le_cond (le_bind fun y1 => (le_cond (le_cond le_some le_none) le_some)) le_none)))) r h)
theorem tree157_14 (tw : Int) (ta : Int) (sp : Pl) (work : Int) (word : Int) (l : List Int) (ln : Nat) (seen : Int → Bool) (f : Fr) (fn : Nat) (L : List Int) (Ln : Nat) (ended : Bool) (a : Ar) : ∀ r, (m157 (⟨tw, ta, sp, work, word, (some (l, ln)), seen, (some ([.free f], fn)), (some (L, Ln)), ended⟩) a).map sh157 = some r → (derS body (mkEnv E157 noLoops) Try.f157 [0] (fun _ => [(0, rScan)]) [.ptr 0 0, .ptr 1 0] [some (.abs (.scan (⟨tw, ta, sp, work, word, (some (l, ln)), seen, (some ([.free f], fn)), (some (L, Ln)), ended⟩)) []), some (.abs (.arena a) [])]).eval = some r := fun r h => Eq.trans (by kernel_rfl) ((le_cond le_some (le_cond (le_cond (le_cond le_none le_some) le_none) (le_cond (le_cond le_none (le_cond (le_bind fun y1 => (le_cond (le_cond le_some le_none) le_some)) le_none)) (le_cond (le_bind fun y1 => (le_cond (le_cond le_some le_none) le_some)) le_none)))) r h)
theorem tree157_15 (tw : Int) (ta : Int) (sp : Pl) (work : Int) (word : Int) (l : List Int) (ln : Nat) (seen : Int → Bool) (f : Fr) (g : Kd) (F : List Kd) (fn : Nat) (ended : Bool) (a : Ar) : ∀ r, (m157 (⟨tw, ta, sp, work, word, (some (l, ln)), seen, (some (.free f :: g :: F, fn)), none, ended⟩) a).map sh157 = some r → (derS body (mkEnv E157 noLoops) Try.f157 [0] (fun _ => [(0, rScan)]) [.ptr 0 0, .ptr 1 0] [some (.abs (.scan (⟨tw, ta, sp, work, word, (some (l, ln)), seen, (some (.free f :: g :: F, fn)), none, ended⟩)) []), some (.abs (.arena a) [])]).eval = some r := fun r h => Eq.trans (by kernel_rfl) ((le_cond le_some (le_cond (le_cond (le_cond le_none le_some) le_none) (le_cond (le_cond le_none (le_cond (le_bind fun y1 => (le_cond (le_cond le_some le_none) le_some)) le_none)) (le_cond (le_bind fun y1 => (le_cond (le_cond le_some le_none) le_some)) le_none)))) r h)
theorem tree157_16 (tw : Int) (ta : Int) (sp : Pl) (work : Int) (word : Int) (l : List Int) (ln : Nat) (seen : Int → Bool) (f : Fr) (g : Kd) (F : List Kd) (fn : Nat) (L : List Int) (Ln : Nat) (ended : Bool) (a : Ar) : ∀ r, (m157 (⟨tw, ta, sp, work, word, (some (l, ln)), seen, (some (.free f :: g :: F, fn)), (some (L, Ln)), ended⟩) a).map sh157 = some r → (derS body (mkEnv E157 noLoops) Try.f157 [0] (fun _ => [(0, rScan)]) [.ptr 0 0, .ptr 1 0] [some (.abs (.scan (⟨tw, ta, sp, work, word, (some (l, ln)), seen, (some (.free f :: g :: F, fn)), (some (L, Ln)), ended⟩)) []), some (.abs (.arena a) [])]).eval = some r := fun r h => Eq.trans (by kernel_rfl) ((le_cond le_some (le_cond (le_cond (le_cond le_none le_some) le_none) (le_cond (le_cond le_none (le_cond (le_bind fun y1 => (le_cond (le_cond le_some le_none) le_some)) le_none)) (le_cond (le_bind fun y1 => (le_cond (le_cond le_some le_none) le_some)) le_none)))) r h)
def S157 : Summ Kd := fun args cs => match args, cs with
  | [.ptr 0 0, .ptr 1 0], [some (.abs (.scan x) []), some (.abs (.arena a) [])] => ans (m157 x a) sh157
  | _, _ => .bad 0
theorem fact157 : Fact 157 S157 := fact_of (l := E157) ⟨fact30, fact158, fact117, trivial⟩ Try.func157 rfl Try.call157 (opens := [0]) (shuts := (fun _ => [(0, rScan)])) (fun v x h => by simp only [List.mem_singleton] at h; subst h; exact rScan_ok) (by
  intro args cs r h
  unfold S157 at h
  split at h
  · have h := eval_ans h
    unfold m157 at h
    split at h
    · exact tree157_1 _ _ _ _ _ _ _ _ _ h
    · exact tree157_2 _ _ _ _ _ _ _ _ _ _ _ h
    · exact tree157_3 _ _ _ _ _ _ _ _ _ _ h
    · exact tree157_4 _ _ _ _ _ _ _ _ _ _ _ _ h
    · exact tree157_5 _ _ _ _ _ _ _ _ _ _ _ h
    · exact tree157_6 _ _ _ _ _ _ _ _ _ _ _ _ _ h
    · exact tree157_7 _ _ _ _ _ _ _ _ _ _ _ _ _ h
    · exact tree157_8 _ _ _ _ _ _ _ _ _ _ _ _ _ _ _ h
    · exact tree157_9 _ _ _ _ _ _ _ _ _ _ _ h
    · exact tree157_10 _ _ _ _ _ _ _ _ _ _ _ _ _ h
    · exact tree157_11 _ _ _ _ _ _ _ _ _ _ _ _ h
    · exact tree157_12 _ _ _ _ _ _ _ _ _ _ _ _ _ _ h
    · exact tree157_13 _ _ _ _ _ _ _ _ _ _ _ _ _ h
    · exact tree157_14 _ _ _ _ _ _ _ _ _ _ _ _ _ _ _ h
    · exact tree157_15 _ _ _ _ _ _ _ _ _ _ _ _ _ _ _ h
    · exact tree157_16 _ _ _ _ _ _ _ _ _ _ _ _ _ _ _ _ _ h
    · cases h
  · cases h)
noncomputable def E142 : List (FuncId × Summ Kd) := []
def m142 (x : Sc Kd) : Option ((Unit) ⊕ (Nat × List Int)) := match x with
  | ⟨tw, ta, sp, work, word, none, seen, none, none, ended⟩ =>
    (cond (!ended)
      (some (Sum.inl (default)))
      (some (Sum.inl (default))))
  | ⟨tw, ta, sp, work, word, none, seen, (some ([], fn)), none, ended⟩ =>
    (cond (!ended)
      (some (Sum.inl (default)))
      (some (Sum.inl (default))))
  | ⟨tw, ta, sp, work, word, none, seen, (some (g :: F, fn)), none, ended⟩ =>
    (cond (!ended)
      (some (Sum.inl (default)))
      (some (Sum.inl (default))))
  | ⟨tw, ta, sp, work, word, (some (l, ln)), seen, none, none, ended⟩ =>
    (cond (!ended)
      (some (Sum.inl (default)))
      (some (Sum.inl (default))))
  | ⟨tw, ta, sp, work, word, (some (l, ln)), seen, (some ([], fn)), none, ended⟩ =>
    (cond (!ended)
      (some (Sum.inl (default)))
      (some (Sum.inl (default))))
  | ⟨tw, ta, sp, work, word, (some (l, ln)), seen, (some (g :: F, fn)), none, ended⟩ =>
    (cond (!ended)
      (some (Sum.inl (default)))
      (some (Sum.inl (default))))
  | ⟨tw, ta, sp, work, word, none, seen, none, (some (L, Ln)), ended⟩ =>
    (cond (!ended)
      (some (Sum.inl (default)))
      (cond (Ln == L.length)
        (cond (decide (L.length = (0 : Nat)))
          (some (Sum.inl (default)))
          (cond (decide (L.length ≤ (1048576 : Nat)))
            (some (Sum.inr ((L.length), (L))))
            none))
        none))
  | ⟨tw, ta, sp, work, word, none, seen, (some ([], fn)), (some (L, Ln)), ended⟩ =>
    (cond (!ended)
      (some (Sum.inl (default)))
      (cond (Ln == L.length)
        (cond (decide (L.length = (0 : Nat)))
          (some (Sum.inl (default)))
          (cond (decide (L.length ≤ (1048576 : Nat)))
            (some (Sum.inr ((L.length), (L))))
            none))
        none))
  | ⟨tw, ta, sp, work, word, none, seen, (some (g :: F, fn)), (some (L, Ln)), ended⟩ =>
    (cond (!ended)
      (some (Sum.inl (default)))
      (cond (Ln == L.length)
        (cond (decide (L.length = (0 : Nat)))
          (some (Sum.inl (default)))
          (cond (decide (L.length ≤ (1048576 : Nat)))
            (some (Sum.inr ((L.length), (L))))
            none))
        none))
  | ⟨tw, ta, sp, work, word, (some (l, ln)), seen, none, (some (L, Ln)), ended⟩ =>
    (cond (!ended)
      (some (Sum.inl (default)))
      (cond (Ln == L.length)
        (cond (decide (L.length = (0 : Nat)))
          (some (Sum.inl (default)))
          (cond (decide (L.length ≤ (1048576 : Nat)))
            (some (Sum.inr ((L.length), (L))))
            none))
        none))
  | ⟨tw, ta, sp, work, word, (some (l, ln)), seen, (some ([], fn)), (some (L, Ln)), ended⟩ =>
    (cond (!ended)
      (some (Sum.inl (default)))
      (cond (Ln == L.length)
        (cond (decide (L.length = (0 : Nat)))
          (some (Sum.inl (default)))
          (cond (decide (L.length ≤ (1048576 : Nat)))
            (some (Sum.inr ((L.length), (L))))
            none))
        none))
  | ⟨tw, ta, sp, work, word, (some (l, ln)), seen, (some (g :: F, fn)), (some (L, Ln)), ended⟩ =>
    (cond (!ended)
      (some (Sum.inl (default)))
      (cond (Ln == L.length)
        (cond (decide (L.length = (0 : Nat)))
          (some (Sum.inl (default)))
          (cond (decide (L.length ≤ (1048576 : Nat)))
            (some (Sum.inr ((L.length), (L))))
            none))
        none))
def sh142a (x : Sc Kd) (y : Unit) : LV × List (Option (LO Kd)) := (.nils, [some (.abs (.scan x) [])])
def sh142b (x : Sc Kd) (y : Nat × List Int) : LV × List (Option (LO Kd)) := (.vec 1 (y.1), [some (.abs (.scan x) []), some (.vec (.ints (y.2)) 3)])
theorem tree142_1 (tw : Int) (ta : Int) (sp : Pl) (work : Int) (word : Int) (seen : Int → Bool) (ended : Bool) : ∀ r, (m142 (⟨tw, ta, sp, work, word, none, seen, none, none, ended⟩)).map (Sum.elim (sh142a (⟨tw, ta, sp, work, word, none, seen, none, none, ended⟩)) (sh142b (⟨tw, ta, sp, work, word, none, seen, none, none, ended⟩))) = some r → (derS body (mkEnv E142 noLoops) Try.f142 [0] (fun _ => [(0, rScan)]) [.ptr 0 0] [some (.abs (.scan (⟨tw, ta, sp, work, word, none, seen, none, none, ended⟩)) [])]).eval = some r := fun r h => Eq.trans (by kernel_rfl) ((le_cond le_some le_some) r h)
theorem tree142_2 (tw : Int) (ta : Int) (sp : Pl) (work : Int) (word : Int) (seen : Int → Bool) (fn : Nat) (ended : Bool) : ∀ r, (m142 (⟨tw, ta, sp, work, word, none, seen, (some ([], fn)), none, ended⟩)).map (Sum.elim (sh142a (⟨tw, ta, sp, work, word, none, seen, (some ([], fn)), none, ended⟩)) (sh142b (⟨tw, ta, sp, work, word, none, seen, (some ([], fn)), none, ended⟩))) = some r → (derS body (mkEnv E142 noLoops) Try.f142 [0] (fun _ => [(0, rScan)]) [.ptr 0 0] [some (.abs (.scan (⟨tw, ta, sp, work, word, none, seen, (some ([], fn)), none, ended⟩)) [])]).eval = some r := fun r h => Eq.trans (by kernel_rfl) ((le_cond le_some le_some) r h)
theorem tree142_3 (tw : Int) (ta : Int) (sp : Pl) (work : Int) (word : Int) (seen : Int → Bool) (g : Kd) (F : List Kd) (fn : Nat) (ended : Bool) : ∀ r, (m142 (⟨tw, ta, sp, work, word, none, seen, (some (g :: F, fn)), none, ended⟩)).map (Sum.elim (sh142a (⟨tw, ta, sp, work, word, none, seen, (some (g :: F, fn)), none, ended⟩)) (sh142b (⟨tw, ta, sp, work, word, none, seen, (some (g :: F, fn)), none, ended⟩))) = some r → (derS body (mkEnv E142 noLoops) Try.f142 [0] (fun _ => [(0, rScan)]) [.ptr 0 0] [some (.abs (.scan (⟨tw, ta, sp, work, word, none, seen, (some (g :: F, fn)), none, ended⟩)) [])]).eval = some r := fun r h => Eq.trans (by kernel_rfl) ((le_cond le_some le_some) r h)
theorem tree142_4 (tw : Int) (ta : Int) (sp : Pl) (work : Int) (word : Int) (l : List Int) (ln : Nat) (seen : Int → Bool) (ended : Bool) : ∀ r, (m142 (⟨tw, ta, sp, work, word, (some (l, ln)), seen, none, none, ended⟩)).map (Sum.elim (sh142a (⟨tw, ta, sp, work, word, (some (l, ln)), seen, none, none, ended⟩)) (sh142b (⟨tw, ta, sp, work, word, (some (l, ln)), seen, none, none, ended⟩))) = some r → (derS body (mkEnv E142 noLoops) Try.f142 [0] (fun _ => [(0, rScan)]) [.ptr 0 0] [some (.abs (.scan (⟨tw, ta, sp, work, word, (some (l, ln)), seen, none, none, ended⟩)) [])]).eval = some r := fun r h => Eq.trans (by kernel_rfl) ((le_cond le_some le_some) r h)
theorem tree142_5 (tw : Int) (ta : Int) (sp : Pl) (work : Int) (word : Int) (l : List Int) (ln : Nat) (seen : Int → Bool) (fn : Nat) (ended : Bool) : ∀ r, (m142 (⟨tw, ta, sp, work, word, (some (l, ln)), seen, (some ([], fn)), none, ended⟩)).map (Sum.elim (sh142a (⟨tw, ta, sp, work, word, (some (l, ln)), seen, (some ([], fn)), none, ended⟩)) (sh142b (⟨tw, ta, sp, work, word, (some (l, ln)), seen, (some ([], fn)), none, ended⟩))) = some r → (derS body (mkEnv E142 noLoops) Try.f142 [0] (fun _ => [(0, rScan)]) [.ptr 0 0] [some (.abs (.scan (⟨tw, ta, sp, work, word, (some (l, ln)), seen, (some ([], fn)), none, ended⟩)) [])]).eval = some r := fun r h => Eq.trans (by kernel_rfl) ((le_cond le_some le_some) r h)
theorem tree142_6 (tw : Int) (ta : Int) (sp : Pl) (work : Int) (word : Int) (l : List Int) (ln : Nat) (seen : Int → Bool) (g : Kd) (F : List Kd) (fn : Nat) (ended : Bool) : ∀ r, (m142 (⟨tw, ta, sp, work, word, (some (l, ln)), seen, (some (g :: F, fn)), none, ended⟩)).map (Sum.elim (sh142a (⟨tw, ta, sp, work, word, (some (l, ln)), seen, (some (g :: F, fn)), none, ended⟩)) (sh142b (⟨tw, ta, sp, work, word, (some (l, ln)), seen, (some (g :: F, fn)), none, ended⟩))) = some r → (derS body (mkEnv E142 noLoops) Try.f142 [0] (fun _ => [(0, rScan)]) [.ptr 0 0] [some (.abs (.scan (⟨tw, ta, sp, work, word, (some (l, ln)), seen, (some (g :: F, fn)), none, ended⟩)) [])]).eval = some r := fun r h => Eq.trans (by kernel_rfl) ((le_cond le_some le_some) r h)
theorem tree142_7 (tw : Int) (ta : Int) (sp : Pl) (work : Int) (word : Int) (seen : Int → Bool) (L : List Int) (Ln : Nat) (ended : Bool) : ∀ r, (m142 (⟨tw, ta, sp, work, word, none, seen, none, (some (L, Ln)), ended⟩)).map (Sum.elim (sh142a (⟨tw, ta, sp, work, word, none, seen, none, (some (L, Ln)), ended⟩)) (sh142b (⟨tw, ta, sp, work, word, none, seen, none, (some (L, Ln)), ended⟩))) = some r → (derS body (mkEnv E142 noLoops) Try.f142 [0] (fun _ => [(0, rScan)]) [.ptr 0 0] [some (.abs (.scan (⟨tw, ta, sp, work, word, none, seen, none, (some (L, Ln)), ended⟩)) [])]).eval = some r := fun r h => Eq.trans (by kernel_rfl) ((le_cond le_some (le_cond (le_cond le_some (le_cond le_some le_none)) le_none)) r h)
theorem tree142_8 (tw : Int) (ta : Int) (sp : Pl) (work : Int) (word : Int) (seen : Int → Bool) (fn : Nat) (L : List Int) (Ln : Nat) (ended : Bool) : ∀ r, (m142 (⟨tw, ta, sp, work, word, none, seen, (some ([], fn)), (some (L, Ln)), ended⟩)).map (Sum.elim (sh142a (⟨tw, ta, sp, work, word, none, seen, (some ([], fn)), (some (L, Ln)), ended⟩)) (sh142b (⟨tw, ta, sp, work, word, none, seen, (some ([], fn)), (some (L, Ln)), ended⟩))) = some r → (derS body (mkEnv E142 noLoops) Try.f142 [0] (fun _ => [(0, rScan)]) [.ptr 0 0] [some (.abs (.scan (⟨tw, ta, sp, work, word, none, seen, (some ([], fn)), (some (L, Ln)), ended⟩)) [])]).eval = some r := fun r h => Eq.trans (by kernel_rfl) ((le_cond le_some (le_cond (le_cond le_some (le_cond le_some le_none)) le_none)) r h)
theorem tree142_9 (tw : Int) (ta : Int) (sp : Pl) (work : Int) (word : Int) (seen : Int → Bool) (g : Kd) (F : List Kd) (fn : Nat) (L : List Int) (Ln : Nat) (ended : Bool) : ∀ r, (m142 (⟨tw, ta, sp, work, word, none, seen, (some (g :: F, fn)), (some (L, Ln)), ended⟩)).map (Sum.elim (sh142a (⟨tw, ta, sp, work, word, none, seen, (some (g :: F, fn)), (some (L, Ln)), ended⟩)) (sh142b (⟨tw, ta, sp, work, word, none, seen, (some (g :: F, fn)), (some (L, Ln)), ended⟩))) = some r → (derS body (mkEnv E142 noLoops) Try.f142 [0] (fun _ => [(0, rScan)]) [.ptr 0 0] [some (.abs (.scan (⟨tw, ta, sp, work, word, none, seen, (some (g :: F, fn)), (some (L, Ln)), ended⟩)) [])]).eval = some r := fun r h => Eq.trans (by kernel_rfl) ((le_cond le_some (le_cond (le_cond le_some (le_cond le_some le_none)) le_none)) r h)
theorem tree142_10 (tw : Int) (ta : Int) (sp : Pl) (work : Int) (word : Int) (l : List Int) (ln : Nat) (seen : Int → Bool) (L : List Int) (Ln : Nat) (ended : Bool) : ∀ r, (m142 (⟨tw, ta, sp, work, word, (some (l, ln)), seen, none, (some (L, Ln)), ended⟩)).map (Sum.elim (sh142a (⟨tw, ta, sp, work, word, (some (l, ln)), seen, none, (some (L, Ln)), ended⟩)) (sh142b (⟨tw, ta, sp, work, word, (some (l, ln)), seen, none, (some (L, Ln)), ended⟩))) = some r → (derS body (mkEnv E142 noLoops) Try.f142 [0] (fun _ => [(0, rScan)]) [.ptr 0 0] [some (.abs (.scan (⟨tw, ta, sp, work, word, (some (l, ln)), seen, none, (some (L, Ln)), ended⟩)) [])]).eval = some r := fun r h => Eq.trans (by kernel_rfl) ((le_cond le_some (le_cond (le_cond le_some (le_cond le_some le_none)) le_none)) r h)
theorem tree142_11 (tw : Int) (ta : Int) (sp : Pl) (work : Int) (word : Int) (l : List Int) (ln : Nat) (seen : Int → Bool) (fn : Nat) (L : List Int) (Ln : Nat) (ended : Bool) : ∀ r, (m142 (⟨tw, ta, sp, work, word, (some (l, ln)), seen, (some ([], fn)), (some (L, Ln)), ended⟩)).map (Sum.elim (sh142a (⟨tw, ta, sp, work, word, (some (l, ln)), seen, (some ([], fn)), (some (L, Ln)), ended⟩)) (sh142b (⟨tw, ta, sp, work, word, (some (l, ln)), seen, (some ([], fn)), (some (L, Ln)), ended⟩))) = some r → (derS body (mkEnv E142 noLoops) Try.f142 [0] (fun _ => [(0, rScan)]) [.ptr 0 0] [some (.abs (.scan (⟨tw, ta, sp, work, word, (some (l, ln)), seen, (some ([], fn)), (some (L, Ln)), ended⟩)) [])]).eval = some r := fun r h => Eq.trans (by kernel_rfl) ((le_cond le_some (le_cond (le_cond le_some (le_cond le_some le_none)) le_none)) r h)
theorem tree142_12 (tw : Int) (ta : Int) (sp : Pl) (work : Int) (word : Int) (l : List Int) (ln : Nat) (seen : Int → Bool) (g : Kd) (F : List Kd) (fn : Nat) (L : List Int) (Ln : Nat) (ended : Bool) : ∀ r, (m142 (⟨tw, ta, sp, work, word, (some (l, ln)), seen, (some (g :: F, fn)), (some (L, Ln)), ended⟩)).map (Sum.elim (sh142a (⟨tw, ta, sp, work, word, (some (l, ln)), seen, (some (g :: F, fn)), (some (L, Ln)), ended⟩)) (sh142b (⟨tw, ta, sp, work, word, (some (l, ln)), seen, (some (g :: F, fn)), (some (L, Ln)), ended⟩))) = some r → (derS body (mkEnv E142 noLoops) Try.f142 [0] (fun _ => [(0, rScan)]) [.ptr 0 0] [some (.abs (.scan (⟨tw, ta, sp, work, word, (some (l, ln)), seen, (some (g :: F, fn)), (some (L, Ln)), ended⟩)) [])]).eval = some r := fun r h => Eq.trans (by kernel_rfl) ((le_cond le_some (le_cond (le_cond le_some (le_cond le_some le_none)) le_none)) r h)
def S142 : Summ Kd := fun args cs => match args, cs with
  | [.ptr 0 0], [some (.abs (.scan x) [])] => ans2 (m142 x) (sh142a x) (sh142b x)
  | _, _ => .bad 0
theorem fact142 : Fact 142 S142 := fact_of (l := E142) trivial Try.func142 rfl Try.call142 (opens := [0]) (shuts := (fun _ => [(0, rScan)])) (fun v x h => by simp only [List.mem_singleton] at h; subst h; exact rScan_ok) (by
  intro args cs r h
  unfold S142 at h
  split at h
  · have h := eval_ans2 h
    unfold m142 at h
    split at h
    · exact tree142_1 _ _ _ _ _ _ _ _ h
    · exact tree142_2 _ _ _ _ _ _ _ _ _ h
    · exact tree142_3 _ _ _ _ _ _ _ _ _ _ _ h
    · exact tree142_4 _ _ _ _ _ _ _ _ _ _ h
    · exact tree142_5 _ _ _ _ _ _ _ _ _ _ _ h
    · exact tree142_6 _ _ _ _ _ _ _ _ _ _ _ _ _ h
    · exact tree142_7 _ _ _ _ _ _ _ _ _ _ h
    · exact tree142_8 _ _ _ _ _ _ _ _ _ _ _ h
    · exact tree142_9 _ _ _ _ _ _ _ _ _ _ _ _ _ h
    · exact tree142_10 _ _ _ _ _ _ _ _ _ _ _ _ h
    · exact tree142_11 _ _ _ _ _ _ _ _ _ _ _ _ _ h
    · exact tree142_12 _ _ _ _ _ _ _ _ _ _ _ _ _ _ _ h
  · cases h)
end Go.Sx

/- Contracts: a turn: which go. No condition. -/
set_option linter.unusedVariables false
set_option linter.unusedSimpArgs false
namespace Go.Sx
open Go.Proofs
noncomputable def E113 : List (FuncId × Summ Kd) := [(114, S114)]
noncomputable def B113 (k0 : Nat) : LSumm Kd := derBk body (mkEnv E113 (lpOf [])) (theLoop 0 Try.f113) [0, 7, 8, 9] 66 (fun _ => []) k0
def tnCells (x : Tn Kd) (fx n : Nat) (fr lf : LV) : LO Kd := .cells [i64 x.tw, i64 x.ta, i64 x.p.work, i64 x.p.heads, i64 x.p.links, i64 x.p.gens, i64 x.p.carved, i64 x.work, i64 x.e, i64 x.word, .vec 1 n, fr, lf, .fn fx [.ptr 0 0] []] 196
theorem treeB113a (x : Tn Kd) (fx : Nat) (l : List (Int × Int)) (n : Nat) (n' i : Int) : (B113 2 [.ptr 0 0, .vec 1 n, .int .i64 n', .int .i64 i] [some (tnCells x fx n .nils .nils), some (.vec (.pairs l) 105)]).eval =
    (cond (decide (i < n'))
      (cond (decide ((0 : Int) ≤ i ∧ i < (↑n : Int)))
        (cond (decide (i.toNat < l.length))
          (cond (decide (w64 ((l.getD i.toNat ((0 : Int), (0 : Int))).snd + (2 : Int)) ≤ x.e))
            (some (.normal, ([.ptr 0 0, .vec 1 (n), .int .i64 (n'), .int .i64 (w64 (i + (1 : Int)))], [(some (.cells [.int .i64 (x.tw), .int .i64 (x.ta), .int .i64 (x.p.work), .int .i64 (x.p.heads), .int .i64 (x.p.links), .int .i64 (x.p.gens), .int .i64 (x.p.carved), .int .i64 (x.work), .int .i64 (x.e), .int .i64 (x.word), .vec 1 (n), .vec 2 1, .nils, .fn (fx) [.ptr 0 0] []] 196)), (some (.vec (.pairs (l)) 105)), (some (.avec ([Kd.free ((m114 x.p.work x.p.heads x.p.links x.p.gens x.p.carved x.work (l.getD i.toNat ((0 : Int), (0 : Int))).fst).getD default)]) 202 none))])))
            (some (.normal, ([.ptr 0 0, .vec 1 (n), .int .i64 (n'), .int .i64 (w64 (i + (1 : Int)))], [(some (.cells [.int .i64 (x.tw), .int .i64 (x.ta), .int .i64 (x.p.work), .int .i64 (x.p.heads), .int .i64 (x.p.links), .int .i64 (x.p.gens), .int .i64 (x.p.carved), .int .i64 (x.work), .int .i64 (x.e), .int .i64 (x.word), .vec 1 (n), .nils, .vec 2 1, .fn (fx) [.ptr 0 0] []] 196)), (some (.vec (.pairs (l)) 105)), (some (.vec (.pairs ([l.getD i.toNat ((0 : Int), (0 : Int))])) 105))]))))
          none /- 13 -/)
        none /- 51 -/)
      (some (.exit 0, ([.ptr 0 0, .vec 1 (n), .int .i64 (n'), .int .i64 (i)], [(some (.cells [.int .i64 (x.tw), .int .i64 (x.ta), .int .i64 (x.p.work), .int .i64 (x.p.heads), .int .i64 (x.p.links), .int .i64 (x.p.gens), .int .i64 (x.p.carved), .int .i64 (x.work), .int .i64 (x.e), .int .i64 (x.word), .vec 1 (n), .nils, .nils, .fn (fx) [.ptr 0 0] []] 196)), (some (.vec (.pairs (l)) 105))])))) := by kernel_rfl
theorem treeB113b (x : Tn Kd) (fx : Nat) (l : List (Int × Int)) (n m : Nat) (f : Kd) (F : List Kd) (n' i : Int) : (B113 2 [.ptr 0 0, .vec 1 n, .int .i64 n', .int .i64 i] [some (tnCells x fx n (.vec 2 m) .nils), some (.vec (.pairs l) 105), some (.avec (f :: F) 202 none)]).eval =
    (cond (decide (i < n'))
      (cond (decide ((0 : Int) ≤ i ∧ i < (↑n : Int)))
        (cond (decide (i.toNat < l.length))
          (cond (decide (w64 ((l.getD i.toNat ((0 : Int), (0 : Int))).snd + (2 : Int)) ≤ x.e))
            (cond (m == (f :: F).length && decide ((f :: F).length ≤ (1048576 : Nat)))
              (some (.normal, ([.ptr 0 0, .vec 1 (n), .int .i64 (n'), .int .i64 (w64 (i + (1 : Int)))], [(some (.cells [.int .i64 (x.tw), .int .i64 (x.ta), .int .i64 (x.p.work), .int .i64 (x.p.heads), .int .i64 (x.p.links), .int .i64 (x.p.gens), .int .i64 (x.p.carved), .int .i64 (x.work), .int .i64 (x.e), .int .i64 (x.word), .vec 1 (n), .vec 2 (m + (1 : Nat)), .nils, .fn (fx) [.ptr 0 0] []] 196)), (some (.vec (.pairs (l)) 105)), (some (.avec (f :: F ++ [Kd.free ((m114 x.p.work x.p.heads x.p.links x.p.gens x.p.carved x.work (l.getD i.toNat ((0 : Int), (0 : Int))).fst).getD default)]) 202 none))])))
              none /- 82 -/)
            (some (.normal, ([.ptr 0 0, .vec 1 (n), .int .i64 (n'), .int .i64 (w64 (i + (1 : Int)))], [(some (.cells [.int .i64 (x.tw), .int .i64 (x.ta), .int .i64 (x.p.work), .int .i64 (x.p.heads), .int .i64 (x.p.links), .int .i64 (x.p.gens), .int .i64 (x.p.carved), .int .i64 (x.work), .int .i64 (x.e), .int .i64 (x.word), .vec 1 (n), .vec 2 (m), .vec 3 1, .fn (fx) [.ptr 0 0] []] 196)), (some (.vec (.pairs (l)) 105)), (some (.avec (f :: F) 202 none)), (some (.vec (.pairs ([l.getD i.toNat ((0 : Int), (0 : Int))])) 105))]))))
          none /- 13 -/)
        none /- 51 -/)
      (some (.exit 0, ([.ptr 0 0, .vec 1 (n), .int .i64 (n'), .int .i64 (i)], [(some (.cells [.int .i64 (x.tw), .int .i64 (x.ta), .int .i64 (x.p.work), .int .i64 (x.p.heads), .int .i64 (x.p.links), .int .i64 (x.p.gens), .int .i64 (x.p.carved), .int .i64 (x.work), .int .i64 (x.e), .int .i64 (x.word), .vec 1 (n), .vec 2 (m), .nils, .fn (fx) [.ptr 0 0] []] 196)), (some (.vec (.pairs (l)) 105)), (some (.avec (f :: F) 202 none))])))) := by kernel_rfl
theorem treeB113c (x : Tn Kd) (fx : Nat) (l : List (Int × Int)) (n m : Nat) (L : List (Int × Int)) (n' i : Int) : (B113 2 [.ptr 0 0, .vec 1 n, .int .i64 n', .int .i64 i] [some (tnCells x fx n .nils (.vec 2 m)), some (.vec (.pairs l) 105), some (.vec (.pairs L) 105)]).eval =
    (cond (decide (i < n'))
      (cond (decide ((0 : Int) ≤ i ∧ i < (↑n : Int)))
        (cond (decide (i.toNat < l.length))
          (cond (decide (w64 ((l.getD i.toNat ((0 : Int), (0 : Int))).snd + (2 : Int)) ≤ x.e))
            (some (.normal, ([.ptr 0 0, .vec 1 (n), .int .i64 (n'), .int .i64 (w64 (i + (1 : Int)))], [(some (.cells [.int .i64 (x.tw), .int .i64 (x.ta), .int .i64 (x.p.work), .int .i64 (x.p.heads), .int .i64 (x.p.links), .int .i64 (x.p.gens), .int .i64 (x.p.carved), .int .i64 (x.work), .int .i64 (x.e), .int .i64 (x.word), .vec 1 (n), .vec 2 1, .vec 3 (m), .fn (fx) [.ptr 0 0] []] 196)), (some (.vec (.pairs (l)) 105)), (some (.avec ([Kd.free ((m114 x.p.work x.p.heads x.p.links x.p.gens x.p.carved x.work (l.getD i.toNat ((0 : Int), (0 : Int))).fst).getD default)]) 202 none)), (some (.vec (.pairs (L)) 105))])))
            (cond (m == L.length && decide (L.length + (1 : Nat) ≤ (1048576 : Nat)))
              (some (.normal, ([.ptr 0 0, .vec 1 (n), .int .i64 (n'), .int .i64 (w64 (i + (1 : Int)))], [(some (.cells [.int .i64 (x.tw), .int .i64 (x.ta), .int .i64 (x.p.work), .int .i64 (x.p.heads), .int .i64 (x.p.links), .int .i64 (x.p.gens), .int .i64 (x.p.carved), .int .i64 (x.work), .int .i64 (x.e), .int .i64 (x.word), .vec 1 (n), .nils, .vec 2 (m + (1 : Nat)), .fn (fx) [.ptr 0 0] []] 196)), (some (.vec (.pairs (l)) 105)), (some (.vec (.pairs (L ++ [l.getD i.toNat ((0 : Int), (0 : Int))])) 105))])))
              none /- 82 -/))
          none /- 13 -/)
        none /- 51 -/)
      (some (.exit 0, ([.ptr 0 0, .vec 1 (n), .int .i64 (n'), .int .i64 (i)], [(some (.cells [.int .i64 (x.tw), .int .i64 (x.ta), .int .i64 (x.p.work), .int .i64 (x.p.heads), .int .i64 (x.p.links), .int .i64 (x.p.gens), .int .i64 (x.p.carved), .int .i64 (x.work), .int .i64 (x.e), .int .i64 (x.word), .vec 1 (n), .nils, .vec 2 (m), .fn (fx) [.ptr 0 0] []] 196)), (some (.vec (.pairs (l)) 105)), (some (.vec (.pairs (L)) 105))])))) := by kernel_rfl
theorem treeB113d (x : Tn Kd) (fx : Nat) (l : List (Int × Int)) (n m m' : Nat) (f : Kd) (F : List Kd) (L : List (Int × Int)) (n' i : Int) : (B113 2 [.ptr 0 0, .vec 1 n, .int .i64 n', .int .i64 i] [some (tnCells x fx n (.vec 2 m) (.vec 3 m')), some (.vec (.pairs l) 105), some (.avec (f :: F) 202 none), some (.vec (.pairs L) 105)]).eval =
    (cond (decide (i < n'))
      (cond (decide ((0 : Int) ≤ i ∧ i < (↑n : Int)))
        (cond (decide (i.toNat < l.length))
          (cond (decide (w64 ((l.getD i.toNat ((0 : Int), (0 : Int))).snd + (2 : Int)) ≤ x.e))
            (cond (m == (f :: F).length && decide ((f :: F).length ≤ (1048576 : Nat)))
              (some (.normal, ([.ptr 0 0, .vec 1 (n), .int .i64 (n'), .int .i64 (w64 (i + (1 : Int)))], [(some (.cells [.int .i64 (x.tw), .int .i64 (x.ta), .int .i64 (x.p.work), .int .i64 (x.p.heads), .int .i64 (x.p.links), .int .i64 (x.p.gens), .int .i64 (x.p.carved), .int .i64 (x.work), .int .i64 (x.e), .int .i64 (x.word), .vec 1 (n), .vec 2 (m + (1 : Nat)), .vec 3 (m'), .fn (fx) [.ptr 0 0] []] 196)), (some (.vec (.pairs (l)) 105)), (some (.avec (f :: F ++ [Kd.free ((m114 x.p.work x.p.heads x.p.links x.p.gens x.p.carved x.work (l.getD i.toNat ((0 : Int), (0 : Int))).fst).getD default)]) 202 none)), (some (.vec (.pairs (L)) 105))])))
              none /- 82 -/)
            (cond (m' == L.length && decide (L.length + (1 : Nat) ≤ (1048576 : Nat)))
              (some (.normal, ([.ptr 0 0, .vec 1 (n), .int .i64 (n'), .int .i64 (w64 (i + (1 : Int)))], [(some (.cells [.int .i64 (x.tw), .int .i64 (x.ta), .int .i64 (x.p.work), .int .i64 (x.p.heads), .int .i64 (x.p.links), .int .i64 (x.p.gens), .int .i64 (x.p.carved), .int .i64 (x.work), .int .i64 (x.e), .int .i64 (x.word), .vec 1 (n), .vec 2 (m), .vec 3 (m' + (1 : Nat)), .fn (fx) [.ptr 0 0] []] 196)), (some (.vec (.pairs (l)) 105)), (some (.avec (f :: F) 202 none)), (some (.vec (.pairs (L ++ [l.getD i.toNat ((0 : Int), (0 : Int))])) 105))])))
              none /- 82 -/))
          none /- 13 -/)
        none /- 51 -/)
      (some (.exit 0, ([.ptr 0 0, .vec 1 (n), .int .i64 (n'), .int .i64 (i)], [(some (.cells [.int .i64 (x.tw), .int .i64 (x.ta), .int .i64 (x.p.work), .int .i64 (x.p.heads), .int .i64 (x.p.links), .int .i64 (x.p.gens), .int .i64 (x.p.carved), .int .i64 (x.work), .int .i64 (x.e), .int .i64 (x.word), .vec 1 (n), .vec 2 (m), .vec 3 (m'), .fn (fx) [.ptr 0 0] []] 196)), (some (.vec (.pairs (l)) 105)), (some (.avec (f :: F) 202 none)), (some (.vec (.pairs (L)) 105))])))) := by kernel_rfl

def tnCells0 (x : Tn Kd) (fx : Nat) : LO Kd := .cells [i64 x.tw, i64 x.ta, i64 x.p.work, i64 x.p.heads, i64 x.p.links, i64 x.p.gens, i64 x.p.carved, i64 x.work, i64 x.e, i64 x.word, .nils, .nils, .nils, .fn fx [.ptr 0 0] []] 196
theorem treeB113e (x : Tn Kd) (fx : Nat) (n' i : Int) : (B113 1 [.ptr 0 0, .nils, .int .i64 n', .int .i64 i] [some (tnCells0 x fx)]).eval =
    (cond (decide (i < n'))
      none /- 53 -/
      (some (.exit 0, ([.ptr 0 0, .nils, .int .i64 (n'), .int .i64 (i)], [(some (.cells [.int .i64 (x.tw), .int .i64 (x.ta), .int .i64 (x.p.work), .int .i64 (x.p.heads), .int .i64 (x.p.links), .int .i64 (x.p.gens), .int .i64 (x.p.carved), .int .i64 (x.work), .int .i64 (x.e), .int .i64 (x.word), .nils, .nils, .nils, .fn (fx) [.ptr 0 0] []] 196))])))) := by kernel_rfl
def goes (e : Int) (y : Int × Int) : Bool := decide (w64 (y.2 + 2) ≤ e)
def turnCs (x : Tn Kd) (fx : Nat) (l : List (Int × Int)) (F : List Kd) (L : List (Int × Int)) : List (Option (LO Kd)) :=
  match F, L with
  | [], [] => [some (tnCells x fx l.length .nils .nils), some (.vec (.pairs l) 105)]
  | f :: F, [] => [some (tnCells x fx l.length (.vec 2 (f :: F).length) .nils), some (.vec (.pairs l) 105), some (.avec (f :: F) 202 none)]
  | [], v :: L => [some (tnCells x fx l.length .nils (.vec 2 (v :: L).length)), some (.vec (.pairs l) 105), some (.vec (.pairs (v :: L)) 105)]
  | f :: F, v :: L => [some (tnCells x fx l.length (.vec 2 (f :: F).length) (.vec 3 (v :: L).length)), some (.vec (.pairs l) 105), some (.avec (f :: F) 202 none), some (.vec (.pairs (v :: L)) 105)]
def turnF (x : Tn Kd) : List (Int × Int) → List Kd → List Kd
  | [], F => F
  | y :: l, F => turnF x l (if goes x.e y then F ++ [.free (mkFree x.p x.work y.1)] else F)
def turnL (e : Int) : List (Int × Int) → List (Int × Int) → List (Int × Int)
  | [], L => L
  | y :: l, L => turnL e l (if goes e y then L else L ++ [y])
theorem turn_round (x : Tn Kd) (fx : Nat) (l : List (Int × Int)) (F : List Kd) (L : List (Int × Int)) (i : Nat) (hi : i < l.length) (hl : l.length ≤ 1000000) (hF : F.length ≤ 1000000) (hL : L.length ≤ 1000000) :
    (B113 2 [.ptr 0 0, .vec 1 l.length, .int .i64 l.length, .int .i64 i] (turnCs x fx l F L)).eval =
      some (.normal, [.ptr 0 0, .vec 1 l.length, .int .i64 l.length, .int .i64 (i + 1 : Nat)], turnCs x fx l (if goes x.e l[i] then F ++ [.free (mkFree x.p x.work l[i].1)] else F) (if goes x.e l[i] then L else L ++ [l[i]])) := by
  have c1 : decide ((i : Int) < l.length) = true := decide_eq_true (by omega)
  have c2 : decide ((0 : Int) ≤ i ∧ (i : Int) < (l.length : Nat)) = true := decide_eq_true (by omega)
  have c3 : decide (i < l.length) = true := decide_eq_true hi
  have w : w64 ((i : Int) + 1) = (i + 1 : Nat) := w64_id (by omega) (by omega)
  have g : l.getD i ((0 : Int), (0 : Int)) = l[i] := getD_lt hi
  have gg : decide (w64 (l[i].2 + 2) ≤ x.e) = goes x.e l[i] := rfl
  have cF : ∀ m : Nat, m ≤ 1000000 → (m == m && decide (m ≤ (1048576 : Nat))) = true := fun m h => by
    simp only [beq_self_eq_true, Bool.true_and, decide_eq_true_eq]; omega
  have cL : ∀ m : Nat, m ≤ 1000000 → (m == m && decide (m + (1 : Nat) ≤ (1048576 : Nat))) = true := fun m h => by
    simp only [beq_self_eq_true, Bool.true_and, decide_eq_true_eq, List.length_singleton]; omega
  match F, L, hF, hL with
  | [], [], _, _ =>
    unfold turnCs
    rw [treeB113a, Int.toNat_natCast, c1, c2, c3, w, g, gg]
    cases hs : goes x.e l[i] with
    | true => rfl
    | false => rfl
  | f :: F, [], hF, _ =>
    unfold turnCs
    rw [treeB113b, Int.toNat_natCast, c1, c2, c3, w, g, gg]
    cases hs : goes x.e l[i] with
    | false => rfl
    | true =>
      rw [cF _ hF]
      simp only [cond_true, cond_false, Bool.false_eq_true, if_true, List.cons_append, List.length_append, List.length_cons, List.length_nil, m114_eq, Nat.zero_add, Nat.add_assoc]
      rfl
  | [], v :: L, _, hL =>
    unfold turnCs
    rw [treeB113c, Int.toNat_natCast, c1, c2, c3, w, g, gg]
    cases hs : goes x.e l[i] with
    | false =>
      rw [cL _ hL]
      simp only [cond_true, cond_false, Bool.false_eq_true, if_false, List.cons_append, List.length_append, List.length_cons, List.length_nil, Nat.zero_add, Rows.len, Nat.add_assoc]
      rfl
    | true => rfl
  | f :: F, v :: L, hF, hL =>
    unfold turnCs
    rw [treeB113d, Int.toNat_natCast, c1, c2, c3, w, g, gg]
    cases hs : goes x.e l[i] with
    | false =>
      rw [cL _ hL]
      simp only [cond_true, cond_false, Bool.false_eq_true, if_false, List.cons_append, List.length_append, List.length_cons, List.length_nil, Nat.zero_add, Rows.len, Nat.add_assoc]
      rfl
    | true =>
      rw [cF _ hF]
      simp only [cond_true, cond_false, Bool.false_eq_true, if_true, List.cons_append, List.length_append, List.length_cons, List.length_nil, m114_eq, Nat.zero_add, Nat.add_assoc]
      rfl
theorem turn_end (x : Tn Kd) (fx : Nat) (l : List (Int × Int)) (F : List Kd) (L : List (Int × Int)) :
    (B113 2 [.ptr 0 0, .vec 1 l.length, .int .i64 l.length, .int .i64 l.length] (turnCs x fx l F L)).eval =
      some (.exit 0, [.ptr 0 0, .vec 1 l.length, .int .i64 l.length, .int .i64 l.length], turnCs x fx l F L) := by
  have c1 : decide ((l.length : Int) < l.length) = false := decide_eq_false (by omega)
  match F, L with
  | [], [] => unfold turnCs; rw [treeB113a, c1]; rfl
  | f :: F, [] => unfold turnCs; rw [treeB113b, c1]; rfl
  | [], v :: L => unfold turnCs; rw [treeB113c, c1]; rfl
  | f :: F, v :: L => unfold turnCs; rw [treeB113d, c1]; rfl
theorem iter113 (x : Tn Kd) (fx : Nat) (l : List (Int × Int)) (hl : l.length ≤ 1000) : ∀ (k i : Nat) (F : List Kd) (L : List (Int × Int)), l.length - i = k → i ≤ l.length → F.length ≤ i → L.length ≤ i →
    Iter (B113 2) [.ptr 0 0, .vec 1 l.length, .int .i64 l.length, .int .i64 i] (turnCs x fx l F L) (.exit 0) [.ptr 0 0, .vec 1 l.length, .int .i64 l.length, .int .i64 l.length] (turnCs x fx l (turnF x (l.drop i) F) (turnL x.e (l.drop i) L))
  | 0, i, F, L, hk, h2, h3, h4 => by
    obtain rfl : i = l.length := by omega
    rw [List.drop_length]
    exact .stop (turn_end x fx l F L) (by intro h; cases h)
  | k + 1, i, F, L, hk, h2, h3, h4 => by
    have hi : i < l.length := by omega
    have hr := turn_round x fx l F L i hi (by omega) (by omega) (by omega)
    have ih := iter113 x fx l hl k (i + 1) (if goes x.e l[i] then F ++ [.free (mkFree x.p x.work l[i].1)] else F) (if goes x.e l[i] then L else L ++ [l[i]]) (by omega) (by omega) (by split <;> (try rw [List.length_append, List.length_singleton]) <;> omega) (by split <;> (try rw [List.length_append, List.length_singleton]) <;> omega)
    rw [List.drop_eq_getElem_cons hi]
    exact .more hr rfl ih
def rdTurn (cs : List (Option (LO Kd))) : Option (Tn Kd × Nat × List (Int × Int) × Nat) := match cs with
  | [some (.cells [.int .i64 tw, .int .i64 ta, .int .i64 a, .int .i64 b, .int .i64 c, .int .i64 d, .int .i64 e, .int .i64 work, .int .i64 ep, .int .i64 word, .vec 1 n, .nils, .nils, .fn fx [.ptr 0 0] []] t), some (.vec (.pairs l) t1)] =>
    match Nat.beq t 196 && Nat.beq t1 105 with
    | true => some (⟨tw, ta, ⟨a, b, c, d, e⟩, work, ep, word, none, none, none, .nil⟩, fx, l, n)
    | false => none
  | _ => none
theorem rdTurn_ok {cs : List (Option (LO Kd))} {x : Tn Kd} {fx : Nat} {l : List (Int × Int)} {n : Nat} (h : rdTurn cs = some (x, fx, l, n)) : cs = [some (tnCells x fx n .nils .nils), some (.vec (.pairs l) 105)] := by
  unfold rdTurn at h
  split at h
  · split at h
    · rename_i e
      simp only [Bool.and_eq_true] at e
      have e1 := Nat.eq_of_beq_eq_true e.1
      have e2 := Nat.eq_of_beq_eq_true e.2
      subst e1 e2
      cases h
      rfl
    · cases h
  · cases h
def rdTurn0 (cs : List (Option (LO Kd))) : Option (Tn Kd × Nat) := match cs with
  | [some (.cells [.int .i64 tw, .int .i64 ta, .int .i64 a, .int .i64 b, .int .i64 c, .int .i64 d, .int .i64 e, .int .i64 work, .int .i64 ep, .int .i64 word, .nils, .nils, .nils, .fn fx [.ptr 0 0] []] t)] =>
    match Nat.beq t 196 with
    | true => some (⟨tw, ta, ⟨a, b, c, d, e⟩, work, ep, word, none, none, none, .nil⟩, fx)
    | false => none
  | _ => none
theorem rdTurn0_ok {cs : List (Option (LO Kd))} {x : Tn Kd} {fx : Nat} (h : rdTurn0 cs = some (x, fx)) : cs = [some (tnCells0 x fx)] := by
  unfold rdTurn0 at h
  split at h
  · split at h
    · rename_i e
      have e1 := Nat.eq_of_beq_eq_true e
      subst e1
      cases h
      rfl
    · cases h
  · cases h
def tnF (x : Tn Kd) (l : List (Int × Int)) : List Kd := turnF x l []
def tnL (e : Int) (l : List (Int × Int)) : List (Int × Int) := turnL e l []
def endTurn (x : Tn Kd) (fx : Nat) (l : List (Int × Int)) (F : List Kd) (L : List (Int × Int)) : T (Ex × List LV × List (Option (LO Kd))) :=
  .br F.isEmpty
    (.br L.isEmpty (.ret (.normal, [.ptr 0 0, .vec 1 l.length, .int .i64 l.length, .int .i64 l.length], [some (tnCells x fx l.length .nils .nils), some (.vec (.pairs l) 105)]))
      (.ret (.normal, [.ptr 0 0, .vec 1 l.length, .int .i64 l.length, .int .i64 l.length], [some (tnCells x fx l.length .nils (.vec 2 L.length)), some (.vec (.pairs l) 105), some (.vec (.pairs L) 105)])))
    (.br L.isEmpty (.ret (.normal, [.ptr 0 0, .vec 1 l.length, .int .i64 l.length, .int .i64 l.length], [some (tnCells x fx l.length (.vec 2 F.length) .nils), some (.vec (.pairs l) 105), some (.avec (F.headD (.sets ⟨none, 0⟩) :: F.tail) 202 none)]))
      (.ret (.normal, [.ptr 0 0, .vec 1 l.length, .int .i64 l.length, .int .i64 l.length], [some (tnCells x fx l.length (.vec 2 F.length) (.vec 3 L.length)), some (.vec (.pairs l) 105), some (.avec (F.headD (.sets ⟨none, 0⟩) :: F.tail) 202 none), some (.vec (.pairs L) 105)])))
theorem endTurn_eq (x : Tn Kd) (fx : Nat) (l : List (Int × Int)) (F : List Kd) (L : List (Int × Int)) : (endTurn x fx l F L).eval = some (.normal, [.ptr 0 0, .vec 1 l.length, .int .i64 l.length, .int .i64 l.length], turnCs x fx l F L) := by
  match F, L with
  | [], [] => rfl
  | f :: F, [] => rfl
  | [], v :: L => rfl
  | f :: F, v :: L => rfl
def L113 : LSumm Kd := fun args cs => match args, rdTurn cs with
  | [.ptr 0 0, .vec 1 n, .int .i64 n', .int .i64 i], some (x, fx, l, n1) => .br (decide (n = l.length ∧ n1 = l.length ∧ n' = l.length ∧ i = 0 ∧ l.length ≤ 1000)) (endTurn x fx l (tnF x l) (tnL x.e l)) (.bad 1)
  | [.ptr 0 0, .nils, .int .i64 n', .int .i64 i], none => match rdTurn0 cs with
    | some (x, fx) => .br (decide (i < n')) (.bad 1) (.ret (.normal, [.ptr 0 0, .nils, .int .i64 n', .int .i64 i], [some (tnCells0 x fx)]))
    | none => .bad 2
  | _, _ => .bad 0
theorem ok113 : ∃ c, Try.f113.body = some c ∧ occ 0 c = [.loop (theLoop 0 Try.f113)] ∧ SxOk Try.prog body (fun Q => (Code.block 0 (.loop (theLoop 0 Try.f113))).wp Try.prog Q) (loopL [0, 7, 8, 9] 66 L113) :=
  lp_okK (l := E113) (lps := []) ⟨fact114, trivial⟩ rfl (by kernel_rfl) no_lps (by decide) (fun v x h => absurd h (List.not_mem_nil)) (by
    intro args cs e vs post h
    unfold L113 at h
    split at h
    · rename_i hx
      rename_i n n' i x fx l n1
      obtain rfl := rdTurn_ok hx
      simp only [T.eval] at h
      cases hc : decide (n = l.length ∧ n1 = l.length ∧ n' = l.length ∧ i = 0 ∧ l.length ≤ 1000) with
      | false => rw [hc] at h; cases h
      | true =>
        rw [hc] at h
        simp only [decide_eq_true_eq] at hc
        obtain ⟨rfl, rfl, rfl, rfl, h1⟩ := hc
        simp only [cond_true] at h
        rw [endTurn_eq] at h
        cases h
        exact ⟨.exit 0, iter113 x fx l h1 _ 0 [] [] rfl (Nat.zero_le _) (Nat.le_refl _) (Nat.le_refl _), rfl⟩
    · split at h
      · rename_i hx
        rename_i n' i hz _ x fx
        obtain rfl := rdTurn0_ok hx
        simp only [T.eval] at h
        cases hc : decide (i < n') with
        | true => rw [hc] at h; cases h
        | false =>
          rw [hc] at h
          cases h
          refine ⟨.exit 0, .stop ?_ (by intro h; cases h), rfl⟩
          show (B113 1 _ _).eval = _
          rw [treeB113e, hc]; rfl
      · cases h
    · cases h)
noncomputable def lps113 : Lps := [(0, loopL [0, 7, 8, 9] 66 L113)]
theorem lps113_ok : LpsOk Try.f113 lps113 := ⟨ok113, trivial⟩
/-- Run inside its callers. -/
noncomputable def S113 : Summ Kd := derS body (mkEnv E113 (lpOf lps113)) Try.f113 [] (fun _ => [])
theorem fact113 : Fact 113 S113 := fact_loops (l := E113) ⟨fact114, trivial⟩ lps113_ok Try.func113 rfl Try.call113 (fun v x h => by cases h) (opens := []) (shuts := fun _ => []) (fun _ _ _ h => h)
end Go.Sx

/- Contracts: pins, turns, sets. No condition. -/
set_option linter.unusedVariables false
set_option linter.unusedSimpArgs false
namespace Go.Sx
open Go.Proofs
noncomputable def E107 : List (FuncId × Summ Kd) := []
noncomputable def S107 : Summ Kd := inl E107 Try.f107
theorem fact107 : Fact 107 S107 := fact_inl (l := E107) trivial Try.func107 rfl Try.call107
noncomputable def E66 : List (FuncId × Summ Kd) := []
noncomputable def S66 : Summ Kd := inl E66 Try.f66
theorem fact66 : Fact 66 S66 := fact_inl (l := E66) trivial Try.func66 rfl Try.call66
noncomputable def E65 : List (FuncId × Summ Kd) := []
noncomputable def S65 : Summ Kd := inl E65 Try.f65
theorem fact65 : Fact 65 S65 := fact_inl (l := E65) trivial Try.func65 rfl Try.call65
noncomputable def E95 : List (FuncId × Summ Kd) := [(107, S107), (30, S30)]
noncomputable def S95 : Summ Kd := inl E95 Try.f95
theorem fact95 : Fact 95 S95 := fact_inl (l := E95) ⟨fact107, fact30, trivial⟩ Try.func95 rfl Try.call95
noncomputable def E108 : List (FuncId × Summ Kd) := [(66, S66), (96, S96)]
noncomputable def S108 : Summ Kd := inl E108 Try.f108
theorem fact108 : Fact 108 S108 := fact_inl (l := E108) ⟨fact66, fact96, trivial⟩ Try.func108 rfl Try.call108
noncomputable def E112 : List (FuncId × Summ Kd) := [(107, S107), (30, S30)]
noncomputable def S112 : Summ Kd := inl E112 Try.f112
theorem fact112 : Fact 112 S112 := fact_inl (l := E112) ⟨fact107, fact30, trivial⟩ Try.func112 rfl Try.call112
noncomputable def E106 : List (FuncId × Summ Kd) := [(107, S107), (30, S30)]
noncomputable def S106 : Summ Kd := inl E106 Try.f106
theorem fact106 : Fact 106 S106 := fact_inl (l := E106) ⟨fact107, fact30, trivial⟩ Try.func106 rfl Try.call106
noncomputable def E110 : List (FuncId × Summ Kd) := [(66, S66), (30, S30), (113, S113)]
noncomputable def S110 : Summ Kd := inl E110 Try.f110
theorem fact110 : Fact 110 S110 := fact_inl (l := E110) ⟨fact66, fact30, fact113, trivial⟩ Try.func110 rfl Try.call110
noncomputable def E111 : List (FuncId × Summ Kd) := [(107, S107), (88, S88), (113, S113)]
noncomputable def S111 : Summ Kd := inl E111 Try.f111
theorem fact111 : Fact 111 S111 := fact_inl (l := E111) ⟨fact107, fact88, fact113, trivial⟩ Try.func111 rfl Try.call111
noncomputable def E115 : List (FuncId × Summ Kd) := [(117, S117)]
noncomputable def S115 : Summ Kd := inl E115 Try.f115
theorem fact115 : Fact 115 S115 := fact_inl (l := E115) ⟨fact117, trivial⟩ Try.func115 rfl Try.call115
noncomputable def E64 : List (FuncId × Summ Kd) := []
def m64 (tw : Int) (ta : Int) (work : Int) : Option ((Pn)) :=
    (some (({ tw := tw, ta := ta, work := work, e := (0 : Int), next := Px.global : Pn })))
def sh64  (y : Pn) : LV × List (Option (LO Kd)) := (.ptr 0 0, [some (.abs (.pin y) [])])
theorem tree64 (tw : Int) (ta : Int) (work : Int) : ∀ r, (m64 tw ta work).map sh64 = some r → (derS body (mkEnv E64 noLoops) Try.f64 [] (fun v => [(ptrOf v, rPin)]) [.agg [.int .i64 tw, .int .i64 ta], .int .i64 work] []).eval = some r := fun r h => Eq.trans (by kernel_rfl) (le_some r h)
def S64 : Summ Kd := fun args cs => match args, cs with
  | [.agg [.int .i64 tw, .int .i64 ta], .int .i64 work], [] => ans (m64 tw ta work) sh64
  | _, _ => .bad 0
theorem fact64 : Fact 64 S64 := fact_of (l := E64) trivial Try.func64 rfl Try.call64 (opens := []) (shuts := (fun v => [(ptrOf v, rPin)])) (fun v x h => by simp only [List.mem_singleton] at h; subst h; exact rPin_ok) (by
  intro args cs r h
  unfold S64 at h
  split at h
  · exact tree64 _ _ _ _ (eval_ans h)
  · cases h)
noncomputable def E143 : List (FuncId × Summ Kd) := [(95, S95), (108, S108), (112, S112)]
def m143 (x : Pn) (a : Ar) : Option ((Bool × Pn × Ar)) := match x with
  | ⟨tw, ta, work, e, .global⟩ =>
    (cond (a.wf)
      (some (false, ({ tw := tw, ta := ta, work := work, e := a.rawAt ta, next := Px.own : Pn }), (a.touch ta)))
      none)
  | ⟨tw, ta, work, e, .own⟩ =>
    (cond (a.wf)
      (some (false, ({ tw := tw, ta := ta, work := work, e := e, next := Px.again : Pn }), (a.putRaw (w64 (w64 (ta + (1 : Int)) + work)) (w64 (e + (1 : Int))))))
      none)
  | ⟨tw, ta, work, e, .again⟩ =>
    (cond (a.wf)
      (cond (a.rawAt ta == e)
        (some (true, ({ tw := tw, ta := ta, work := work, e := a.rawAt ta, next := Px.nil : Pn }), (a.touch ta)))
        (some (false, ({ tw := tw, ta := ta, work := work, e := a.rawAt ta, next := Px.own : Pn }), (a.touch ta))))
      none)
  | ⟨tw, ta, work, e, .nil⟩ =>
    (some (true, ({ tw := tw, ta := ta, work := work, e := e, next := Px.nil : Pn }), (a)))
def sh143  (y : Bool × Pn × Ar) : LV × List (Option (LO Kd)) := (.bool (y.1), [some (.abs (.pin (y.2.1)) []), some (.abs (.arena (y.2.2)) [])])
theorem tree143_1 (tw : Int) (ta : Int) (work : Int) (e : Int) (a : Ar) : ∀ r, (m143 (⟨tw, ta, work, e, .global⟩) a).map sh143 = some r → (derS body (mkEnv E143 noLoops) Try.f143 [0] (fun _ => [(0, rPin)]) [.ptr 0 0, .ptr 1 0] [some (.abs (.pin (⟨tw, ta, work, e, .global⟩)) []), some (.abs (.arena a) [])]).eval = some r := fun r h => Eq.trans (by kernel_rfl) ((le_cond le_some le_none) r h)
theorem tree143_2 (tw : Int) (ta : Int) (work : Int) (e : Int) (a : Ar) : ∀ r, (m143 (⟨tw, ta, work, e, .own⟩) a).map sh143 = some r → (derS body (mkEnv E143 noLoops) Try.f143 [0] (fun _ => [(0, rPin)]) [.ptr 0 0, .ptr 1 0] [some (.abs (.pin (⟨tw, ta, work, e, .own⟩)) []), some (.abs (.arena a) [])]).eval = some r := fun r h => Eq.trans (by kernel_rfl) ((le_cond le_some le_none) r h)
theorem tree143_3 (tw : Int) (ta : Int) (work : Int) (e : Int) (a : Ar) : ∀ r, (m143 (⟨tw, ta, work, e, .again⟩) a).map sh143 = some r → (derS body (mkEnv E143 noLoops) Try.f143 [0] (fun _ => [(0, rPin)]) [.ptr 0 0, .ptr 1 0] [some (.abs (.pin (⟨tw, ta, work, e, .again⟩)) []), some (.abs (.arena a) [])]).eval = some r := fun r h => Eq.trans (by kernel_rfl) ((le_cond (le_cond le_some le_some) le_none) r h)
theorem tree143_4 (tw : Int) (ta : Int) (work : Int) (e : Int) (a : Ar) : ∀ r, (m143 (⟨tw, ta, work, e, .nil⟩) a).map sh143 = some r → (derS body (mkEnv E143 noLoops) Try.f143 [0] (fun _ => [(0, rPin)]) [.ptr 0 0, .ptr 1 0] [some (.abs (.pin (⟨tw, ta, work, e, .nil⟩)) []), some (.abs (.arena a) [])]).eval = some r := fun r h => Eq.trans (by kernel_rfl) (le_some r h)
def S143 : Summ Kd := fun args cs => match args, cs with
  | [.ptr 0 0, .ptr 1 0], [some (.abs (.pin x) []), some (.abs (.arena a) [])] => ans (m143 x a) sh143
  | _, _ => .bad 0
theorem fact143 : Fact 143 S143 := fact_of (l := E143) ⟨fact95, fact108, fact112, trivial⟩ Try.func143 rfl Try.call143 (opens := [0]) (shuts := (fun _ => [(0, rPin)])) (fun v x h => by simp only [List.mem_singleton] at h; subst h; exact rPin_ok) (by
  intro args cs r h
  unfold S143 at h
  split at h
  · have h := eval_ans h
    unfold m143 at h
    split at h
    · exact tree143_1 _ _ _ _ _ _ h
    · exact tree143_2 _ _ _ _ _ _ h
    · exact tree143_3 _ _ _ _ _ _ h
    · exact tree143_4 _ _ _ _ _ _ h
  · cases h)
noncomputable def E144 : List (FuncId × Summ Kd) := [(96, S96)]
def m144 (x : Se) (a : Ar) : Option ((Bool × Se × Ar)) := match x with
  | ⟨none, sv⟩ =>
    (some (true, ({ at_ := none, v := sv : Se }), (a)))
  | ⟨some (s0 :: sl, n), sv⟩ =>
    (cond (decide ((↑n : Int) > (0 : Int)))
      (cond (decide ((0 : Int) ≤ (0 : Int) ∧ (0 : Int) < (↑n : Int)))
        (cond (a.wf)
          (cond (n == (s0 :: sl).length && (decide ((0 : Int) ≤ none.getD (↑n : Int) ∧ none.getD (↑n : Int) ≤ (↑n : Int)) && decide ((0 : Int) ≤ (some (1 : Int)).getD (0 : Int) ∧ (some (1 : Int)).getD (0 : Int) ≤ none.getD (↑n : Int))))
            (some (((↑((none.getD (↑n : Int)).toNat - ((some (1 : Int)).getD (0 : Int)).toNat) : Int) == (0 : Int)), ({ at_ := some (List.drop ((some (1 : Int)).getD (0 : Int)).toNat (List.take (none.getD (↑n : Int)).toNat (s0 :: sl)), (none.getD (↑n : Int)).toNat - ((some (1 : Int)).getD (0 : Int)).toNat), v := sv : Se }), (a.putRaw ((s0 :: sl).getD (Int.toNat (0 : Int)) (0 : Int)) sv)))
            none)
          none)
        none)
      (some (((↑n : Int) == (0 : Int)), ({ at_ := some (s0 :: sl, n), v := sv : Se }), (a))))
  | ⟨some ([], n), sv⟩ =>
    (cond (decide ((↑n : Int) > (0 : Int)))
      (cond (decide ((0 : Int) ≤ (0 : Int) ∧ (0 : Int) < (↑n : Int)))
        none
        none)
      (some (((↑n : Int) == (0 : Int)), ({ at_ := some ([], n), v := sv : Se }), (a))))
def sh144  (y : Bool × Se × Ar) : LV × List (Option (LO Kd)) := (.bool (y.1), [some (.abs (.sets (y.2.1)) []), some (.abs (.arena (y.2.2)) [])])
theorem tree144_1 (sv : Int) (a : Ar) : ∀ r, (m144 (⟨none, sv⟩) a).map sh144 = some r → (derS body (mkEnv E144 noLoops) Try.f144 [0] (fun _ => [(0, rSets)]) [.ptr 0 0, .ptr 1 0] [some (.abs (.sets (⟨none, sv⟩)) []), some (.abs (.arena a) [])]).eval = some r := fun r h => Eq.trans (by kernel_rfl) (le_some r h)
theorem tree144_2 (s0 : Int) (sl : List Int) (n : Nat) (sv : Int) (a : Ar) : ∀ r, (m144 (⟨some (s0 :: sl, n), sv⟩) a).map sh144 = some r → (derS body (mkEnv E144 noLoops) Try.f144 [0] (fun _ => [(0, rSets)]) [.ptr 0 0, .ptr 1 0] [some (.abs (.sets (⟨some (s0 :: sl, n), sv⟩)) []), some (.abs (.arena a) [])]).eval = some r := fun r h => Eq.trans (by kernel_rfl) ((le_cond (le_cond (le_cond (le_cond le_some le_none) le_none) le_none) le_some) r h)
theorem tree144_3 (n : Nat) (sv : Int) (a : Ar) : ∀ r, (m144 (⟨some ([], n), sv⟩) a).map sh144 = some r → (derS body (mkEnv E144 noLoops) Try.f144 [0] (fun _ => [(0, rSets)]) [.ptr 0 0, .ptr 1 0] [some (.abs (.sets (⟨some ([], n), sv⟩)) []), some (.abs (.arena a) [])]).eval = some r := fun r h => Eq.trans (by kernel_rfl) ((le_cond (le_cond le_none le_none) le_some) r h)
def S144 : Summ Kd := fun args cs => match args, cs with
  | [.ptr 0 0, .ptr 1 0], [some (.abs (.sets x) []), some (.abs (.arena a) [])] => ans (m144 x a) sh144
  | _, _ => .bad 0
theorem fact144 : Fact 144 S144 := fact_of (l := E144) ⟨fact96, trivial⟩ Try.func144 rfl Try.call144 (opens := [0]) (shuts := (fun _ => [(0, rSets)])) (fun v x h => by simp only [List.mem_singleton] at h; subst h; exact rSets_ok) (by
  intro args cs r h
  unfold S144 at h
  split at h
  · have h := eval_ans h
    unfold m144 at h
    split at h
    · exact tree144_1 _ _ _ h
    · exact tree144_2 _ _ _ _ _ _ h
    · exact tree144_3 _ _ _ _ h
  · cases h)
noncomputable def E92v : List (FuncId × Summ Kd) := []
def m92v (tw : Int) (ta : Int) (pw : Int) (ph : Int) (pl : Int) (pg : Int) (pc : Int) (work : Int) (n : Nat) (l : List (Int × Int)) : Option ((Tn Kd)) :=
    (cond (n == l.length)
      (cond (decide (l.length = (0 : Nat)))
        (some (({ tw := tw, ta := ta, p := { work := pw, heads := ph, links := pl, gens := pg, carved := pc : Pl }, work := work, e := (0 : Int), word := (0 : Int), l := none, frees := none, left := none, next := Nx.global : Tn Kd })))
        (cond (decide (l.length ≤ (1048576 : Nat)))
          (some (({ tw := tw, ta := ta, p := { work := pw, heads := ph, links := pl, gens := pg, carved := pc : Pl }, work := work, e := (0 : Int), word := (0 : Int), l := some (l, l.length), frees := none, left := none, next := Nx.global : Tn Kd })))
          none))
      none)
def sh92v (tw : Int) (ta : Int) (pw : Int) (ph : Int) (pl : Int) (pg : Int) (pc : Int) (work : Int) (n : Nat) (l : List (Int × Int)) (y : Tn Kd) : LV × List (Option (LO Kd)) := (.ptr 1 0, [some (.vec (.pairs l) 105), some (.abs (.turn y) [])])
theorem tree92v (tw : Int) (ta : Int) (pw : Int) (ph : Int) (pl : Int) (pg : Int) (pc : Int) (work : Int) (n : Nat) (l : List (Int × Int)) : ∀ r, (m92v tw ta pw ph pl pg pc work n l).map (sh92v tw ta pw ph pl pg pc work n l) = some r → (derS body (mkEnv E92v noLoops) Try.f92 [] (fun v => [(ptrOf v, rTurn)]) [.agg [.int .i64 tw, .int .i64 ta], .agg [.int .i64 pw, .int .i64 ph, .int .i64 pl, .int .i64 pg, .int .i64 pc], .int .i64 work, .vec 0 n] [some (.vec (.pairs l) 105)]).eval = some r := fun r h => Eq.trans (by kernel_rfl) ((le_cond (le_cond le_some (le_cond le_some le_none)) le_none) r h)
def S92v : Summ Kd := fun args cs => match args, cs with
  | [.agg [.int .i64 tw, .int .i64 ta], .agg [.int .i64 pw, .int .i64 ph, .int .i64 pl, .int .i64 pg, .int .i64 pc], .int .i64 work, .vec 0 n], [some (.vec (.pairs l) 105)] => ans (m92v tw ta pw ph pl pg pc work n l) (sh92v tw ta pw ph pl pg pc work n l)
  | _, _ => .bad 0
theorem fact92v : Fact 92 S92v := fact_of (l := E92v) trivial Try.func92 rfl Try.call92 (opens := []) (shuts := (fun v => [(ptrOf v, rTurn)])) (fun v x h => by simp only [List.mem_singleton] at h; subst h; exact rTurn_ok) (by
  intro args cs r h
  unfold S92v at h
  split at h
  · exact tree92v _ _ _ _ _ _ _ _ _ _ _ (eval_ans h)
  · cases h)
noncomputable def E92n : List (FuncId × Summ Kd) := []
def m92n (tw : Int) (ta : Int) (pw : Int) (ph : Int) (pl : Int) (pg : Int) (pc : Int) (work : Int) : Option ((Tn Kd)) :=
    (some (({ tw := tw, ta := ta, p := { work := pw, heads := ph, links := pl, gens := pg, carved := pc : Pl }, work := work, e := (0 : Int), word := (0 : Int), l := none, frees := none, left := none, next := Nx.global : Tn Kd })))
def sh92n  (y : Tn Kd) : LV × List (Option (LO Kd)) := (.ptr 0 0, [some (.abs (.turn y) [])])
theorem tree92n (tw : Int) (ta : Int) (pw : Int) (ph : Int) (pl : Int) (pg : Int) (pc : Int) (work : Int) : ∀ r, (m92n tw ta pw ph pl pg pc work).map sh92n = some r → (derS body (mkEnv E92n noLoops) Try.f92 [] (fun v => [(ptrOf v, rTurn)]) [.agg [.int .i64 tw, .int .i64 ta], .agg [.int .i64 pw, .int .i64 ph, .int .i64 pl, .int .i64 pg, .int .i64 pc], .int .i64 work, .nils] []).eval = some r := fun r h => Eq.trans (by kernel_rfl) (le_some r h)
def S92n : Summ Kd := fun args cs => match args, cs with
  | [.agg [.int .i64 tw, .int .i64 ta], .agg [.int .i64 pw, .int .i64 ph, .int .i64 pl, .int .i64 pg, .int .i64 pc], .int .i64 work, .nils], [] => ans (m92n tw ta pw ph pl pg pc work) sh92n
  | _, _ => .bad 0
theorem fact92n : Fact 92 S92n := fact_of (l := E92n) trivial Try.func92 rfl Try.call92 (opens := []) (shuts := (fun v => [(ptrOf v, rTurn)])) (fun v x h => by simp only [List.mem_singleton] at h; subst h; exact rTurn_ok) (by
  intro args cs r h
  unfold S92n at h
  split at h
  · exact tree92n _ _ _ _ _ _ _ _ _ (eval_ans h)
  · cases h)
noncomputable def S92 : Summ Kd := alt S92v (S92n)
theorem fact92 : Fact 92 S92 := fact_alt fact92v (fact92n)
noncomputable def E156 : List (FuncId × Summ Kd) := [(106, S106), (110, S110), (111, S111), (115, S115)]
def m156 (x : Tn Kd) (a : Ar) : Option ((Bool × Tn Kd × Ar)) := match x with
  | ⟨tw, ta, sp, work, e, word, none, none, none, .global⟩ =>
    (cond (a.wf)
      (cond (decide (tw < (1 : Int)))
        (some (false, ({ tw := tw, ta := ta, p := sp, work := work, e := a.rawAt ta, word := word, l := none, frees := none, left := none, next := Nx.swap : Tn Kd }), (a.touch ta)))
        (some (false, ({ tw := tw, ta := ta, p := sp, work := work, e := a.rawAt ta, word := word, l := none, frees := none, left := none, next := Nx.look : Tn Kd }), (a.touch ta))))
      none)
  | ⟨tw, ta, sp, work, e, word, (some (l, ln)), none, none, .global⟩ =>
    (cond (a.wf)
      (cond (decide (tw < (1 : Int)))
        (some (false, ({ tw := tw, ta := ta, p := sp, work := work, e := a.rawAt ta, word := word, l := some (l, ln), frees := none, left := none, next := Nx.swap : Tn Kd }), (a.touch ta)))
        (some (false, ({ tw := tw, ta := ta, p := sp, work := work, e := a.rawAt ta, word := word, l := some (l, ln), frees := none, left := none, next := Nx.look : Tn Kd }), (a.touch ta))))
      none)
  | ⟨tw, ta, sp, work, e, word, none, none, none, .look⟩ =>
    (cond (a.wf)
      (cond (a.rawAt (w64 (w64 (ta + (1 : Int)) + word)) != (0 : Int))
        (cond (a.rawAt (w64 (w64 (ta + (1 : Int)) + word)) != w64 (e + (1 : Int)))
          (some (true, ({ tw := tw, ta := ta, p := sp, work := work, e := e, word := w64 (word + (1 : Int)), l := none, frees := none, left := none, next := Nx.nil : Tn Kd }), (a.touch (w64 (w64 (ta + (1 : Int)) + word)))))
          (cond (w64 (word + (1 : Int)) == tw)
            (some (false, ({ tw := tw, ta := ta, p := sp, work := work, e := e, word := w64 (word + (1 : Int)), l := none, frees := none, left := none, next := Nx.swap : Tn Kd }), (a.touch (w64 (w64 (ta + (1 : Int)) + word)))))
            (some (false, ({ tw := tw, ta := ta, p := sp, work := work, e := e, word := w64 (word + (1 : Int)), l := none, frees := none, left := none, next := Nx.look : Tn Kd }), (a.touch (w64 (w64 (ta + (1 : Int)) + word)))))))
        (cond (w64 (word + (1 : Int)) == tw)
          (some (false, ({ tw := tw, ta := ta, p := sp, work := work, e := e, word := w64 (word + (1 : Int)), l := none, frees := none, left := none, next := Nx.swap : Tn Kd }), (a.touch (w64 (w64 (ta + (1 : Int)) + word)))))
          (some (false, ({ tw := tw, ta := ta, p := sp, work := work, e := e, word := w64 (word + (1 : Int)), l := none, frees := none, left := none, next := Nx.look : Tn Kd }), (a.touch (w64 (w64 (ta + (1 : Int)) + word)))))))
      none)
  | ⟨tw, ta, sp, work, e, word, (some (l, ln)), none, none, .look⟩ =>
    (cond (a.wf)
      (cond (a.rawAt (w64 (w64 (ta + (1 : Int)) + word)) != (0 : Int))
        (cond (a.rawAt (w64 (w64 (ta + (1 : Int)) + word)) != w64 (e + (1 : Int)))
          (cond (decide (ln = l.length ∧ ln = l.length ∧ (↑ln : Int) = (↑l.length : Int) ∧ (0 : Int) = (0 : Int) ∧ l.length ≤ (1000 : Nat)))
            (cond ((tnF { tw := tw, ta := ta, p := sp, work := work, e := e, word := w64 (word + (1 : Int)), l := none, frees := none, left := none, next := Nx.nil : Tn Kd } l).isEmpty)
              (cond ((tnL e l).isEmpty)
                (some (true, ({ tw := tw, ta := ta, p := sp, work := work, e := e, word := w64 (word + (1 : Int)), l := some (l, l.length), frees := none, left := none, next := Nx.nil : Tn Kd }), (a.touch (w64 (w64 (ta + (1 : Int)) + word)))))
                (some (true, ({ tw := tw, ta := ta, p := sp, work := work, e := e, word := w64 (word + (1 : Int)), l := some (l, l.length), frees := none, left := some (tnL e l, (tnL e l).length), next := Nx.nil : Tn Kd }), (a.touch (w64 (w64 (ta + (1 : Int)) + word))))))
              (cond ((tnL e l).isEmpty)
                (cond ((↑(tnF { tw := tw, ta := ta, p := sp, work := work, e := e, word := w64 (word + (1 : Int)), l := none, frees := none, left := none, next := Nx.nil : Tn Kd } l).length : Int) == (0 : Int))
                  (some (true, ({ tw := tw, ta := ta, p := sp, work := work, e := e, word := w64 (word + (1 : Int)), l := some (l, l.length), frees := some ((tnF { tw := tw, ta := ta, p := sp, work := work, e := e, word := w64 (word + (1 : Int)), l := none, frees := none, left := none, next := Nx.nil : Tn Kd } l).headD (Kd.sets { at_ := none, v := (0 : Int) : Se }) :: (tnF { tw := tw, ta := ta, p := sp, work := work, e := e, word := w64 (word + (1 : Int)), l := none, frees := none, left := none, next := Nx.nil : Tn Kd } l).tail, (tnF { tw := tw, ta := ta, p := sp, work := work, e := e, word := w64 (word + (1 : Int)), l := none, frees := none, left := none, next := Nx.nil : Tn Kd } l).length), left := none, next := Nx.nil : Tn Kd }), (a.touch (w64 (w64 (ta + (1 : Int)) + word)))))
                  (some (false, ({ tw := tw, ta := ta, p := sp, work := work, e := e, word := w64 (word + (1 : Int)), l := some (l, l.length), frees := some ((tnF { tw := tw, ta := ta, p := sp, work := work, e := e, word := w64 (word + (1 : Int)), l := none, frees := none, left := none, next := Nx.nil : Tn Kd } l).headD (Kd.sets { at_ := none, v := (0 : Int) : Se }) :: (tnF { tw := tw, ta := ta, p := sp, work := work, e := e, word := w64 (word + (1 : Int)), l := none, frees := none, left := none, next := Nx.nil : Tn Kd } l).tail, (tnF { tw := tw, ta := ta, p := sp, work := work, e := e, word := w64 (word + (1 : Int)), l := none, frees := none, left := none, next := Nx.nil : Tn Kd } l).length), left := none, next := Nx.free : Tn Kd }), (a.touch (w64 (w64 (ta + (1 : Int)) + word))))))
                (cond ((↑(tnF { tw := tw, ta := ta, p := sp, work := work, e := e, word := w64 (word + (1 : Int)), l := none, frees := none, left := none, next := Nx.nil : Tn Kd } l).length : Int) == (0 : Int))
                  (some (true, ({ tw := tw, ta := ta, p := sp, work := work, e := e, word := w64 (word + (1 : Int)), l := some (l, l.length), frees := some ((tnF { tw := tw, ta := ta, p := sp, work := work, e := e, word := w64 (word + (1 : Int)), l := none, frees := none, left := none, next := Nx.nil : Tn Kd } l).headD (Kd.sets { at_ := none, v := (0 : Int) : Se }) :: (tnF { tw := tw, ta := ta, p := sp, work := work, e := e, word := w64 (word + (1 : Int)), l := none, frees := none, left := none, next := Nx.nil : Tn Kd } l).tail, (tnF { tw := tw, ta := ta, p := sp, work := work, e := e, word := w64 (word + (1 : Int)), l := none, frees := none, left := none, next := Nx.nil : Tn Kd } l).length), left := some (tnL e l, (tnL e l).length), next := Nx.nil : Tn Kd }), (a.touch (w64 (w64 (ta + (1 : Int)) + word)))))
                  (some (false, ({ tw := tw, ta := ta, p := sp, work := work, e := e, word := w64 (word + (1 : Int)), l := some (l, l.length), frees := some ((tnF { tw := tw, ta := ta, p := sp, work := work, e := e, word := w64 (word + (1 : Int)), l := none, frees := none, left := none, next := Nx.nil : Tn Kd } l).headD (Kd.sets { at_ := none, v := (0 : Int) : Se }) :: (tnF { tw := tw, ta := ta, p := sp, work := work, e := e, word := w64 (word + (1 : Int)), l := none, frees := none, left := none, next := Nx.nil : Tn Kd } l).tail, (tnF { tw := tw, ta := ta, p := sp, work := work, e := e, word := w64 (word + (1 : Int)), l := none, frees := none, left := none, next := Nx.nil : Tn Kd } l).length), left := some (tnL e l, (tnL e l).length), next := Nx.free : Tn Kd }), (a.touch (w64 (w64 (ta + (1 : Int)) + word))))))))
            none)
          (cond (w64 (word + (1 : Int)) == tw)
            (some (false, ({ tw := tw, ta := ta, p := sp, work := work, e := e, word := w64 (word + (1 : Int)), l := some (l, ln), frees := none, left := none, next := Nx.swap : Tn Kd }), (a.touch (w64 (w64 (ta + (1 : Int)) + word)))))
            (some (false, ({ tw := tw, ta := ta, p := sp, work := work, e := e, word := w64 (word + (1 : Int)), l := some (l, ln), frees := none, left := none, next := Nx.look : Tn Kd }), (a.touch (w64 (w64 (ta + (1 : Int)) + word)))))))
        (cond (w64 (word + (1 : Int)) == tw)
          (some (false, ({ tw := tw, ta := ta, p := sp, work := work, e := e, word := w64 (word + (1 : Int)), l := some (l, ln), frees := none, left := none, next := Nx.swap : Tn Kd }), (a.touch (w64 (w64 (ta + (1 : Int)) + word)))))
          (some (false, ({ tw := tw, ta := ta, p := sp, work := work, e := e, word := w64 (word + (1 : Int)), l := some (l, ln), frees := none, left := none, next := Nx.look : Tn Kd }), (a.touch (w64 (w64 (ta + (1 : Int)) + word)))))))
      none)
  | ⟨tw, ta, sp, work, e, word, none, none, none, .swap⟩ =>
    (cond (a.wf)
      (cond (a.swapOk ta e)
        (some (true, ({ tw := tw, ta := ta, p := sp, work := work, e := w64 (e + (1 : Int)), word := word, l := none, frees := none, left := none, next := Nx.nil : Tn Kd }), (a.swapTo ta e (w64 (e + (1 : Int))))))
        (some (true, ({ tw := tw, ta := ta, p := sp, work := work, e := e, word := word, l := none, frees := none, left := none, next := Nx.nil : Tn Kd }), (a.swapTo ta e (w64 (e + (1 : Int)))))))
      none)
  | ⟨tw, ta, sp, work, e, word, (some (l, ln)), none, none, .swap⟩ =>
    (cond (a.wf)
      (cond (a.swapOk ta e)
        (cond (decide (ln = l.length ∧ ln = l.length ∧ (↑ln : Int) = (↑l.length : Int) ∧ (0 : Int) = (0 : Int) ∧ l.length ≤ (1000 : Nat)))
          (cond ((tnF { tw := tw, ta := ta, p := sp, work := work, e := w64 (e + (1 : Int)), word := word, l := none, frees := none, left := none, next := Nx.nil : Tn Kd } l).isEmpty)
            (cond ((tnL (w64 (e + (1 : Int))) l).isEmpty)
              (some (true, ({ tw := tw, ta := ta, p := sp, work := work, e := w64 (e + (1 : Int)), word := word, l := some (l, l.length), frees := none, left := none, next := Nx.nil : Tn Kd }), (a.swapTo ta e (w64 (e + (1 : Int))))))
              (some (true, ({ tw := tw, ta := ta, p := sp, work := work, e := w64 (e + (1 : Int)), word := word, l := some (l, l.length), frees := none, left := some (tnL (w64 (e + (1 : Int))) l, (tnL (w64 (e + (1 : Int))) l).length), next := Nx.nil : Tn Kd }), (a.swapTo ta e (w64 (e + (1 : Int)))))))
            (cond ((tnL (w64 (e + (1 : Int))) l).isEmpty)
              (cond ((↑(tnF { tw := tw, ta := ta, p := sp, work := work, e := w64 (e + (1 : Int)), word := word, l := none, frees := none, left := none, next := Nx.nil : Tn Kd } l).length : Int) == (0 : Int))
                (some (true, ({ tw := tw, ta := ta, p := sp, work := work, e := w64 (e + (1 : Int)), word := word, l := some (l, l.length), frees := some ((tnF { tw := tw, ta := ta, p := sp, work := work, e := w64 (e + (1 : Int)), word := word, l := none, frees := none, left := none, next := Nx.nil : Tn Kd } l).headD (Kd.sets { at_ := none, v := (0 : Int) : Se }) :: (tnF { tw := tw, ta := ta, p := sp, work := work, e := w64 (e + (1 : Int)), word := word, l := none, frees := none, left := none, next := Nx.nil : Tn Kd } l).tail, (tnF { tw := tw, ta := ta, p := sp, work := work, e := w64 (e + (1 : Int)), word := word, l := none, frees := none, left := none, next := Nx.nil : Tn Kd } l).length), left := none, next := Nx.nil : Tn Kd }), (a.swapTo ta e (w64 (e + (1 : Int))))))
                (some (false, ({ tw := tw, ta := ta, p := sp, work := work, e := w64 (e + (1 : Int)), word := word, l := some (l, l.length), frees := some ((tnF { tw := tw, ta := ta, p := sp, work := work, e := w64 (e + (1 : Int)), word := word, l := none, frees := none, left := none, next := Nx.nil : Tn Kd } l).headD (Kd.sets { at_ := none, v := (0 : Int) : Se }) :: (tnF { tw := tw, ta := ta, p := sp, work := work, e := w64 (e + (1 : Int)), word := word, l := none, frees := none, left := none, next := Nx.nil : Tn Kd } l).tail, (tnF { tw := tw, ta := ta, p := sp, work := work, e := w64 (e + (1 : Int)), word := word, l := none, frees := none, left := none, next := Nx.nil : Tn Kd } l).length), left := none, next := Nx.free : Tn Kd }), (a.swapTo ta e (w64 (e + (1 : Int)))))))
              (cond ((↑(tnF { tw := tw, ta := ta, p := sp, work := work, e := w64 (e + (1 : Int)), word := word, l := none, frees := none, left := none, next := Nx.nil : Tn Kd } l).length : Int) == (0 : Int))
                (some (true, ({ tw := tw, ta := ta, p := sp, work := work, e := w64 (e + (1 : Int)), word := word, l := some (l, l.length), frees := some ((tnF { tw := tw, ta := ta, p := sp, work := work, e := w64 (e + (1 : Int)), word := word, l := none, frees := none, left := none, next := Nx.nil : Tn Kd } l).headD (Kd.sets { at_ := none, v := (0 : Int) : Se }) :: (tnF { tw := tw, ta := ta, p := sp, work := work, e := w64 (e + (1 : Int)), word := word, l := none, frees := none, left := none, next := Nx.nil : Tn Kd } l).tail, (tnF { tw := tw, ta := ta, p := sp, work := work, e := w64 (e + (1 : Int)), word := word, l := none, frees := none, left := none, next := Nx.nil : Tn Kd } l).length), left := some (tnL (w64 (e + (1 : Int))) l, (tnL (w64 (e + (1 : Int))) l).length), next := Nx.nil : Tn Kd }), (a.swapTo ta e (w64 (e + (1 : Int))))))
                (some (false, ({ tw := tw, ta := ta, p := sp, work := work, e := w64 (e + (1 : Int)), word := word, l := some (l, l.length), frees := some ((tnF { tw := tw, ta := ta, p := sp, work := work, e := w64 (e + (1 : Int)), word := word, l := none, frees := none, left := none, next := Nx.nil : Tn Kd } l).headD (Kd.sets { at_ := none, v := (0 : Int) : Se }) :: (tnF { tw := tw, ta := ta, p := sp, work := work, e := w64 (e + (1 : Int)), word := word, l := none, frees := none, left := none, next := Nx.nil : Tn Kd } l).tail, (tnF { tw := tw, ta := ta, p := sp, work := work, e := w64 (e + (1 : Int)), word := word, l := none, frees := none, left := none, next := Nx.nil : Tn Kd } l).length), left := some (tnL (w64 (e + (1 : Int))) l, (tnL (w64 (e + (1 : Int))) l).length), next := Nx.free : Tn Kd }), (a.swapTo ta e (w64 (e + (1 : Int)))))))))
          none)
        (cond (decide (ln = l.length ∧ ln = l.length ∧ (↑ln : Int) = (↑l.length : Int) ∧ (0 : Int) = (0 : Int) ∧ l.length ≤ (1000 : Nat)))
          (cond ((tnF { tw := tw, ta := ta, p := sp, work := work, e := e, word := word, l := none, frees := none, left := none, next := Nx.nil : Tn Kd } l).isEmpty)
            (cond ((tnL e l).isEmpty)
              (some (true, ({ tw := tw, ta := ta, p := sp, work := work, e := e, word := word, l := some (l, l.length), frees := none, left := none, next := Nx.nil : Tn Kd }), (a.swapTo ta e (w64 (e + (1 : Int))))))
              (some (true, ({ tw := tw, ta := ta, p := sp, work := work, e := e, word := word, l := some (l, l.length), frees := none, left := some (tnL e l, (tnL e l).length), next := Nx.nil : Tn Kd }), (a.swapTo ta e (w64 (e + (1 : Int)))))))
            (cond ((tnL e l).isEmpty)
              (cond ((↑(tnF { tw := tw, ta := ta, p := sp, work := work, e := e, word := word, l := none, frees := none, left := none, next := Nx.nil : Tn Kd } l).length : Int) == (0 : Int))
                (some (true, ({ tw := tw, ta := ta, p := sp, work := work, e := e, word := word, l := some (l, l.length), frees := some ((tnF { tw := tw, ta := ta, p := sp, work := work, e := e, word := word, l := none, frees := none, left := none, next := Nx.nil : Tn Kd } l).headD (Kd.sets { at_ := none, v := (0 : Int) : Se }) :: (tnF { tw := tw, ta := ta, p := sp, work := work, e := e, word := word, l := none, frees := none, left := none, next := Nx.nil : Tn Kd } l).tail, (tnF { tw := tw, ta := ta, p := sp, work := work, e := e, word := word, l := none, frees := none, left := none, next := Nx.nil : Tn Kd } l).length), left := none, next := Nx.nil : Tn Kd }), (a.swapTo ta e (w64 (e + (1 : Int))))))
                (some (false, ({ tw := tw, ta := ta, p := sp, work := work, e := e, word := word, l := some (l, l.length), frees := some ((tnF { tw := tw, ta := ta, p := sp, work := work, e := e, word := word, l := none, frees := none, left := none, next := Nx.nil : Tn Kd } l).headD (Kd.sets { at_ := none, v := (0 : Int) : Se }) :: (tnF { tw := tw, ta := ta, p := sp, work := work, e := e, word := word, l := none, frees := none, left := none, next := Nx.nil : Tn Kd } l).tail, (tnF { tw := tw, ta := ta, p := sp, work := work, e := e, word := word, l := none, frees := none, left := none, next := Nx.nil : Tn Kd } l).length), left := none, next := Nx.free : Tn Kd }), (a.swapTo ta e (w64 (e + (1 : Int)))))))
              (cond ((↑(tnF { tw := tw, ta := ta, p := sp, work := work, e := e, word := word, l := none, frees := none, left := none, next := Nx.nil : Tn Kd } l).length : Int) == (0 : Int))
                (some (true, ({ tw := tw, ta := ta, p := sp, work := work, e := e, word := word, l := some (l, l.length), frees := some ((tnF { tw := tw, ta := ta, p := sp, work := work, e := e, word := word, l := none, frees := none, left := none, next := Nx.nil : Tn Kd } l).headD (Kd.sets { at_ := none, v := (0 : Int) : Se }) :: (tnF { tw := tw, ta := ta, p := sp, work := work, e := e, word := word, l := none, frees := none, left := none, next := Nx.nil : Tn Kd } l).tail, (tnF { tw := tw, ta := ta, p := sp, work := work, e := e, word := word, l := none, frees := none, left := none, next := Nx.nil : Tn Kd } l).length), left := some (tnL e l, (tnL e l).length), next := Nx.nil : Tn Kd }), (a.swapTo ta e (w64 (e + (1 : Int))))))
                (some (false, ({ tw := tw, ta := ta, p := sp, work := work, e := e, word := word, l := some (l, l.length), frees := some ((tnF { tw := tw, ta := ta, p := sp, work := work, e := e, word := word, l := none, frees := none, left := none, next := Nx.nil : Tn Kd } l).headD (Kd.sets { at_ := none, v := (0 : Int) : Se }) :: (tnF { tw := tw, ta := ta, p := sp, work := work, e := e, word := word, l := none, frees := none, left := none, next := Nx.nil : Tn Kd } l).tail, (tnF { tw := tw, ta := ta, p := sp, work := work, e := e, word := word, l := none, frees := none, left := none, next := Nx.nil : Tn Kd } l).length), left := some (tnL e l, (tnL e l).length), next := Nx.free : Tn Kd }), (a.swapTo ta e (w64 (e + (1 : Int)))))))))
          none))
      none)
  | ⟨tw, ta, sp, work, e, word, none, (some ([.free f], fn)), none, .free⟩ =>
    (cond (decide ((0 : Int) ≤ (0 : Int) ∧ (0 : Int) < (↑fn : Int)))
      (Option.bind (m117 f a) fun y1 =>
        (cond (y1.fst)
          (cond (fn == (0 : Nat) + (1 : Nat))
            (some (true, ({ tw := tw, ta := ta, p := sp, work := work, e := e, word := word, l := none, frees := some ([], (0 : Nat)), left := none, next := Nx.nil : Tn Kd }), (y1.snd.2)))
            none)
          (cond ((↑fn : Int) == (0 : Int))
            (some (true, ({ tw := tw, ta := ta, p := sp, work := work, e := e, word := word, l := none, frees := some ([Kd.free y1.snd.fst], fn), left := none, next := Nx.nil : Tn Kd }), (y1.snd.2)))
            (some (false, ({ tw := tw, ta := ta, p := sp, work := work, e := e, word := word, l := none, frees := some ([Kd.free y1.snd.fst], fn), left := none, next := Nx.free : Tn Kd }), (y1.snd.2))))))
      none)
  | ⟨tw, ta, sp, work, e, word, none, (some ([.free f], fn)), (some (L, Ln)), .free⟩ =>
    (cond (decide ((0 : Int) ≤ (0 : Int) ∧ (0 : Int) < (↑fn : Int)))
      (Option.bind (m117 f a) fun y1 =>
        (cond (y1.fst)
          (cond (fn == (0 : Nat) + (1 : Nat))
            (some (true, ({ tw := tw, ta := ta, p := sp, work := work, e := e, word := word, l := none, frees := some ([], (0 : Nat)), left := some (L, Ln), next := Nx.nil : Tn Kd }), (y1.snd.2)))
            none)
          (cond ((↑fn : Int) == (0 : Int))
            (some (true, ({ tw := tw, ta := ta, p := sp, work := work, e := e, word := word, l := none, frees := some ([Kd.free y1.snd.fst], fn), left := some (L, Ln), next := Nx.nil : Tn Kd }), (y1.snd.2)))
            (some (false, ({ tw := tw, ta := ta, p := sp, work := work, e := e, word := word, l := none, frees := some ([Kd.free y1.snd.fst], fn), left := some (L, Ln), next := Nx.free : Tn Kd }), (y1.snd.2))))))
      none)
  | ⟨tw, ta, sp, work, e, word, none, (some (.free f :: g :: F, fn)), none, .free⟩ =>
    (cond (decide ((0 : Int) ≤ (0 : Int) ∧ (0 : Int) < (↑fn : Int)))
      (Option.bind (m117 f a) fun y1 =>
        (cond (y1.fst)
          (cond (fn == (g :: F).length + (1 : Nat))
            (some (false, ({ tw := tw, ta := ta, p := sp, work := work, e := e, word := word, l := none, frees := some (g :: F, (g :: F).length), left := none, next := Nx.free : Tn Kd }), (y1.snd.2)))
            none)
          (cond ((↑fn : Int) == (0 : Int))
            (some (true, ({ tw := tw, ta := ta, p := sp, work := work, e := e, word := word, l := none, frees := some (Kd.free y1.snd.fst :: g :: F, fn), left := none, next := Nx.nil : Tn Kd }), (y1.snd.2)))
            (some (false, ({ tw := tw, ta := ta, p := sp, work := work, e := e, word := word, l := none, frees := some (Kd.free y1.snd.fst :: g :: F, fn), left := none, next := Nx.free : Tn Kd }), (y1.snd.2))))))
      none)
  | ⟨tw, ta, sp, work, e, word, none, (some (.free f :: g :: F, fn)), (some (L, Ln)), .free⟩ =>
    (cond (decide ((0 : Int) ≤ (0 : Int) ∧ (0 : Int) < (↑fn : Int)))
      (Option.bind (m117 f a) fun y1 =>
        (cond (y1.fst)
          (cond (fn == (g :: F).length + (1 : Nat))
            (some (false, ({ tw := tw, ta := ta, p := sp, work := work, e := e, word := word, l := none, frees := some (g :: F, (g :: F).length), left := some (L, Ln), next := Nx.free : Tn Kd }), (y1.snd.2)))
            none)
          (cond ((↑fn : Int) == (0 : Int))
            (some (true, ({ tw := tw, ta := ta, p := sp, work := work, e := e, word := word, l := none, frees := some (Kd.free y1.snd.fst :: g :: F, fn), left := some (L, Ln), next := Nx.nil : Tn Kd }), (y1.snd.2)))
            (some (false, ({ tw := tw, ta := ta, p := sp, work := work, e := e, word := word, l := none, frees := some (Kd.free y1.snd.fst :: g :: F, fn), left := some (L, Ln), next := Nx.free : Tn Kd }), (y1.snd.2))))))
      none)
  | ⟨tw, ta, sp, work, e, word, (some (l, ln)), (some ([.free f], fn)), none, .free⟩ =>
    (cond (decide ((0 : Int) ≤ (0 : Int) ∧ (0 : Int) < (↑fn : Int)))
      (Option.bind (m117 f a) fun y1 =>
        (cond (y1.fst)
          (cond (fn == (0 : Nat) + (1 : Nat))
            (some (true, ({ tw := tw, ta := ta, p := sp, work := work, e := e, word := word, l := some (l, ln), frees := some ([], (0 : Nat)), left := none, next := Nx.nil : Tn Kd }), (y1.snd.2)))
            none)
          (cond ((↑fn : Int) == (0 : Int))
            (some (true, ({ tw := tw, ta := ta, p := sp, work := work, e := e, word := word, l := some (l, ln), frees := some ([Kd.free y1.snd.fst], fn), left := none, next := Nx.nil : Tn Kd }), (y1.snd.2)))
            (some (false, ({ tw := tw, ta := ta, p := sp, work := work, e := e, word := word, l := some (l, ln), frees := some ([Kd.free y1.snd.fst], fn), left := none, next := Nx.free : Tn Kd }), (y1.snd.2))))))
      none)
  | ⟨tw, ta, sp, work, e, word, (some (l, ln)), (some ([.free f], fn)), (some (L, Ln)), .free⟩ =>
    (cond (decide ((0 : Int) ≤ (0 : Int) ∧ (0 : Int) < (↑fn : Int)))
      (Option.bind (m117 f a) fun y1 =>
        (cond (y1.fst)
          (cond (fn == (0 : Nat) + (1 : Nat))
            (some (true, ({ tw := tw, ta := ta, p := sp, work := work, e := e, word := word, l := some (l, ln), frees := some ([], (0 : Nat)), left := some (L, Ln), next := Nx.nil : Tn Kd }), (y1.snd.2)))
            none)
          (cond ((↑fn : Int) == (0 : Int))
            (some (true, ({ tw := tw, ta := ta, p := sp, work := work, e := e, word := word, l := some (l, ln), frees := some ([Kd.free y1.snd.fst], fn), left := some (L, Ln), next := Nx.nil : Tn Kd }), (y1.snd.2)))
            (some (false, ({ tw := tw, ta := ta, p := sp, work := work, e := e, word := word, l := some (l, ln), frees := some ([Kd.free y1.snd.fst], fn), left := some (L, Ln), next := Nx.free : Tn Kd }), (y1.snd.2))))))
      none)
  | ⟨tw, ta, sp, work, e, word, (some (l, ln)), (some (.free f :: g :: F, fn)), none, .free⟩ =>
    (cond (decide ((0 : Int) ≤ (0 : Int) ∧ (0 : Int) < (↑fn : Int)))
      (Option.bind (m117 f a) fun y1 =>
        (cond (y1.fst)
          (cond (fn == (g :: F).length + (1 : Nat))
            (some (false, ({ tw := tw, ta := ta, p := sp, work := work, e := e, word := word, l := some (l, ln), frees := some (g :: F, (g :: F).length), left := none, next := Nx.free : Tn Kd }), (y1.snd.2)))
            none)
          (cond ((↑fn : Int) == (0 : Int))
            (some (true, ({ tw := tw, ta := ta, p := sp, work := work, e := e, word := word, l := some (l, ln), frees := some (Kd.free y1.snd.fst :: g :: F, fn), left := none, next := Nx.nil : Tn Kd }), (y1.snd.2)))
            (some (false, ({ tw := tw, ta := ta, p := sp, work := work, e := e, word := word, l := some (l, ln), frees := some (Kd.free y1.snd.fst :: g :: F, fn), left := none, next := Nx.free : Tn Kd }), (y1.snd.2))))))
      none)
  | ⟨tw, ta, sp, work, e, word, (some (l, ln)), (some (.free f :: g :: F, fn)), (some (L, Ln)), .free⟩ =>
    (cond (decide ((0 : Int) ≤ (0 : Int) ∧ (0 : Int) < (↑fn : Int)))
      (Option.bind (m117 f a) fun y1 =>
        (cond (y1.fst)
          (cond (fn == (g :: F).length + (1 : Nat))
            (some (false, ({ tw := tw, ta := ta, p := sp, work := work, e := e, word := word, l := some (l, ln), frees := some (g :: F, (g :: F).length), left := some (L, Ln), next := Nx.free : Tn Kd }), (y1.snd.2)))
            none)
          (cond ((↑fn : Int) == (0 : Int))
            (some (true, ({ tw := tw, ta := ta, p := sp, work := work, e := e, word := word, l := some (l, ln), frees := some (Kd.free y1.snd.fst :: g :: F, fn), left := some (L, Ln), next := Nx.nil : Tn Kd }), (y1.snd.2)))
            (some (false, ({ tw := tw, ta := ta, p := sp, work := work, e := e, word := word, l := some (l, ln), frees := some (Kd.free y1.snd.fst :: g :: F, fn), left := some (L, Ln), next := Nx.free : Tn Kd }), (y1.snd.2))))))
      none)
  | _ => none
def sh156  (y : Bool × Tn Kd × Ar) : LV × List (Option (LO Kd)) := (.bool (y.1), [some (.abs (.turn (y.2.1)) []), some (.abs (.arena (y.2.2)) [])])
theorem tree156_1 (tw : Int) (ta : Int) (sp : Pl) (work : Int) (e : Int) (word : Int) (a : Ar) : ∀ r, (m156 (⟨tw, ta, sp, work, e, word, none, none, none, .global⟩) a).map sh156 = some r → (derS body (mkEnv E156 noLoops) Try.f156 [0] (fun _ => [(0, rTurn)]) [.ptr 0 0, .ptr 1 0] [some (.abs (.turn (⟨tw, ta, sp, work, e, word, none, none, none, .global⟩)) []), some (.abs (.arena a) [])]).eval = some r := fun r h => Eq.trans (by kernel_rfl) ((le_cond (le_cond le_some le_some) le_none) r h)
theorem tree156_2 (tw : Int) (ta : Int) (sp : Pl) (work : Int) (e : Int) (word : Int) (l : List (Int × Int)) (ln : Nat) (a : Ar) : ∀ r, (m156 (⟨tw, ta, sp, work, e, word, (some (l, ln)), none, none, .global⟩) a).map sh156 = some r → (derS body (mkEnv E156 noLoops) Try.f156 [0] (fun _ => [(0, rTurn)]) [.ptr 0 0, .ptr 1 0] [some (.abs (.turn (⟨tw, ta, sp, work, e, word, (some (l, ln)), none, none, .global⟩)) []), some (.abs (.arena a) [])]).eval = some r := fun r h => Eq.trans (by kernel_rfl) ((le_cond (le_cond le_some le_some) le_none) r h)
theorem tree156_3 (tw : Int) (ta : Int) (sp : Pl) (work : Int) (e : Int) (word : Int) (a : Ar) : ∀ r, (m156 (⟨tw, ta, sp, work, e, word, none, none, none, .look⟩) a).map sh156 = some r → (derS body (mkEnv E156 noLoops) Try.f156 [0] (fun _ => [(0, rTurn)]) [.ptr 0 0, .ptr 1 0] [some (.abs (.turn (⟨tw, ta, sp, work, e, word, none, none, none, .look⟩)) []), some (.abs (.arena a) [])]).eval = some r := fun r h => Eq.trans (by kernel_rfl) ((le_cond (le_cond (le_cond le_some (le_cond le_some le_some)) (le_cond le_some le_some)) le_none) r h)
theorem tree156_4 (tw : Int) (ta : Int) (sp : Pl) (work : Int) (e : Int) (word : Int) (l : List (Int × Int)) (ln : Nat) (a : Ar) : ∀ r, (m156 (⟨tw, ta, sp, work, e, word, (some (l, ln)), none, none, .look⟩) a).map sh156 = some r → (derS body (mkEnv E156 noLoops) Try.f156 [0] (fun _ => [(0, rTurn)]) [.ptr 0 0, .ptr 1 0] [some (.abs (.turn (⟨tw, ta, sp, work, e, word, (some (l, ln)), none, none, .look⟩)) []), some (.abs (.arena a) [])]).eval = some r := fun r h => Eq.trans (by kernel_rfl) ((le_cond (le_cond (le_cond (le_cond (le_cond (le_cond le_some le_some) (le_cond (le_cond le_some le_some) (le_cond le_some le_some))) le_none) (le_cond le_some le_some)) (le_cond le_some le_some)) le_none) r h)
theorem tree156_5 (tw : Int) (ta : Int) (sp : Pl) (work : Int) (e : Int) (word : Int) (a : Ar) : ∀ r, (m156 (⟨tw, ta, sp, work, e, word, none, none, none, .swap⟩) a).map sh156 = some r → (derS body (mkEnv E156 noLoops) Try.f156 [0] (fun _ => [(0, rTurn)]) [.ptr 0 0, .ptr 1 0] [some (.abs (.turn (⟨tw, ta, sp, work, e, word, none, none, none, .swap⟩)) []), some (.abs (.arena a) [])]).eval = some r := fun r h => Eq.trans (by kernel_rfl) ((le_cond (le_cond le_some le_some) le_none) r h)
theorem tree156_6 (tw : Int) (ta : Int) (sp : Pl) (work : Int) (e : Int) (word : Int) (l : List (Int × Int)) (ln : Nat) (a : Ar) : ∀ r, (m156 (⟨tw, ta, sp, work, e, word, (some (l, ln)), none, none, .swap⟩) a).map sh156 = some r → (derS body (mkEnv E156 noLoops) Try.f156 [0] (fun _ => [(0, rTurn)]) [.ptr 0 0, .ptr 1 0] [some (.abs (.turn (⟨tw, ta, sp, work, e, word, (some (l, ln)), none, none, .swap⟩)) []), some (.abs (.arena a) [])]).eval = some r := fun r h => Eq.trans (by kernel_rfl) ((le_cond (le_cond (le_cond (le_cond (le_cond le_some le_some) (le_cond (le_cond le_some le_some) (le_cond le_some le_some))) le_none) (le_cond (le_cond (le_cond le_some le_some) (le_cond (le_cond le_some le_some) (le_cond le_some le_some))) le_none)) le_none) r h)
theorem tree156_7 (tw : Int) (ta : Int) (sp : Pl) (work : Int) (e : Int) (word : Int) (f : Fr) (fn : Nat) (a : Ar) : ∀ r, (m156 (⟨tw, ta, sp, work, e, word, none, (some ([.free f], fn)), none, .free⟩) a).map sh156 = some r → (derS body (mkEnv E156 noLoops) Try.f156 [0] (fun _ => [(0, rTurn)]) [.ptr 0 0, .ptr 1 0] [some (.abs (.turn (⟨tw, ta, sp, work, e, word, none, (some ([.free f], fn)), none, .free⟩)) []), some (.abs (.arena a) [])]).eval = some r := fun r h => Eq.trans (by kernel_rfl) ((le_cond (le_bind fun y1 => (le_cond (le_cond le_some le_none) (le_cond le_some le_some))) le_none) r h)
theorem tree156_8 (tw : Int) (ta : Int) (sp : Pl) (work : Int) (e : Int) (word : Int) (f : Fr) (fn : Nat) (L : List (Int × Int)) (Ln : Nat) (a : Ar) : ∀ r, (m156 (⟨tw, ta, sp, work, e, word, none, (some ([.free f], fn)), (some (L, Ln)), .free⟩) a).map sh156 = some r → (derS body (mkEnv E156 noLoops) Try.f156 [0] (fun _ => [(0, rTurn)]) [.ptr 0 0, .ptr 1 0] [some (.abs (.turn (⟨tw, ta, sp, work, e, word, none, (some ([.free f], fn)), (some (L, Ln)), .free⟩)) []), some (.abs (.arena a) [])]).eval = some r := fun r h => Eq.trans (by kernel_rfl) ((le_cond (le_bind fun y1 => (le_cond (le_cond le_some le_none) (le_cond le_some le_some))) le_none) r h)
theorem tree156_9 (tw : Int) (ta : Int) (sp : Pl) (work : Int) (e : Int) (word : Int) (f : Fr) (g : Kd) (F : List Kd) (fn : Nat) (a : Ar) : ∀ r, (m156 (⟨tw, ta, sp, work, e, word, none, (some (.free f :: g :: F, fn)), none, .free⟩) a).map sh156 = some r → (derS body (mkEnv E156 noLoops) Try.f156 [0] (fun _ => [(0, rTurn)]) [.ptr 0 0, .ptr 1 0] [some (.abs (.turn (⟨tw, ta, sp, work, e, word, none, (some (.free f :: g :: F, fn)), none, .free⟩)) []), some (.abs (.arena a) [])]).eval = some r := fun r h => Eq.trans (by kernel_rfl) ((le_cond (le_bind fun y1 => (le_cond (le_cond le_some le_none) (le_cond le_some le_some))) le_none) r h)
theorem tree156_10 (tw : Int) (ta : Int) (sp : Pl) (work : Int) (e : Int) (word : Int) (f : Fr) (g : Kd) (F : List Kd) (fn : Nat) (L : List (Int × Int)) (Ln : Nat) (a : Ar) : ∀ r, (m156 (⟨tw, ta, sp, work, e, word, none, (some (.free f :: g :: F, fn)), (some (L, Ln)), .free⟩) a).map sh156 = some r → (derS body (mkEnv E156 noLoops) Try.f156 [0] (fun _ => [(0, rTurn)]) [.ptr 0 0, .ptr 1 0] [some (.abs (.turn (⟨tw, ta, sp, work, e, word, none, (some (.free f :: g :: F, fn)), (some (L, Ln)), .free⟩)) []), some (.abs (.arena a) [])]).eval = some r := fun r h => Eq.trans (by kernel_rfl) ((le_cond (le_bind fun y1 => (le_cond (le_cond le_some le_none) (le_cond le_some le_some))) le_none) r h)
theorem tree156_11 (tw : Int) (ta : Int) (sp : Pl) (work : Int) (e : Int) (word : Int) (l : List (Int × Int)) (ln : Nat) (f : Fr) (fn : Nat) (a : Ar) : ∀ r, (m156 (⟨tw, ta, sp, work, e, word, (some (l, ln)), (some ([.free f], fn)), none, .free⟩) a).map sh156 = some r → (derS body (mkEnv E156 noLoops) Try.f156 [0] (fun _ => [(0, rTurn)]) [.ptr 0 0, .ptr 1 0] [some (.abs (.turn (⟨tw, ta, sp, work, e, word, (some (l, ln)), (some ([.free f], fn)), none, .free⟩)) []), some (.abs (.arena a) [])]).eval = some r := fun r h => Eq.trans (by kernel_rfl) ((le_cond (le_bind fun y1 => (le_cond (le_cond le_some le_none) (le_cond le_some le_some))) le_none) r h)
theorem tree156_12 (tw : Int) (ta : Int) (sp : Pl) (work : Int) (e : Int) (word : Int) (l : List (Int × Int)) (ln : Nat) (f : Fr) (fn : Nat) (L : List (Int × Int)) (Ln : Nat) (a : Ar) : ∀ r, (m156 (⟨tw, ta, sp, work, e, word, (some (l, ln)), (some ([.free f], fn)), (some (L, Ln)), .free⟩) a).map sh156 = some r → (derS body (mkEnv E156 noLoops) Try.f156 [0] (fun _ => [(0, rTurn)]) [.ptr 0 0, .ptr 1 0] [some (.abs (.turn (⟨tw, ta, sp, work, e, word, (some (l, ln)), (some ([.free f], fn)), (some (L, Ln)), .free⟩)) []), some (.abs (.arena a) [])]).eval = some r := fun r h => Eq.trans (by kernel_rfl) ((le_cond (le_bind fun y1 => (le_cond (le_cond le_some le_none) (le_cond le_some le_some))) le_none) r h)
theorem tree156_13 (tw : Int) (ta : Int) (sp : Pl) (work : Int) (e : Int) (word : Int) (l : List (Int × Int)) (ln : Nat) (f : Fr) (g : Kd) (F : List Kd) (fn : Nat) (a : Ar) : ∀ r, (m156 (⟨tw, ta, sp, work, e, word, (some (l, ln)), (some (.free f :: g :: F, fn)), none, .free⟩) a).map sh156 = some r → (derS body (mkEnv E156 noLoops) Try.f156 [0] (fun _ => [(0, rTurn)]) [.ptr 0 0, .ptr 1 0] [some (.abs (.turn (⟨tw, ta, sp, work, e, word, (some (l, ln)), (some (.free f :: g :: F, fn)), none, .free⟩)) []), some (.abs (.arena a) [])]).eval = some r := fun r h => Eq.trans (by kernel_rfl) ((le_cond (le_bind fun y1 => (le_cond (le_cond le_some le_none) (le_cond le_some le_some))) le_none) r h)
theorem tree156_14 (tw : Int) (ta : Int) (sp : Pl) (work : Int) (e : Int) (word : Int) (l : List (Int × Int)) (ln : Nat) (f : Fr) (g : Kd) (F : List Kd) (fn : Nat) (L : List (Int × Int)) (Ln : Nat) (a : Ar) : ∀ r, (m156 (⟨tw, ta, sp, work, e, word, (some (l, ln)), (some (.free f :: g :: F, fn)), (some (L, Ln)), .free⟩) a).map sh156 = some r → (derS body (mkEnv E156 noLoops) Try.f156 [0] (fun _ => [(0, rTurn)]) [.ptr 0 0, .ptr 1 0] [some (.abs (.turn (⟨tw, ta, sp, work, e, word, (some (l, ln)), (some (.free f :: g :: F, fn)), (some (L, Ln)), .free⟩)) []), some (.abs (.arena a) [])]).eval = some r := fun r h => Eq.trans (by kernel_rfl) ((le_cond (le_bind fun y1 => (le_cond (le_cond le_some le_none) (le_cond le_some le_some))) le_none) r h)
def S156 : Summ Kd := fun args cs => match args, cs with
  | [.ptr 0 0, .ptr 1 0], [some (.abs (.turn x) []), some (.abs (.arena a) [])] => ans (m156 x a) sh156
  | _, _ => .bad 0
theorem fact156 : Fact 156 S156 := fact_of (l := E156) ⟨fact106, fact110, fact111, fact115, trivial⟩ Try.func156 rfl Try.call156 (opens := [0]) (shuts := (fun _ => [(0, rTurn)])) (fun v x h => by simp only [List.mem_singleton] at h; subst h; exact rTurn_ok) (by
  intro args cs r h
  unfold S156 at h
  split at h
  · have h := eval_ans h
    unfold m156 at h
    split at h
    · exact tree156_1 _ _ _ _ _ _ _ _ h
    · exact tree156_2 _ _ _ _ _ _ _ _ _ _ h
    · exact tree156_3 _ _ _ _ _ _ _ _ h
    · exact tree156_4 _ _ _ _ _ _ _ _ _ _ h
    · exact tree156_5 _ _ _ _ _ _ _ _ h
    · exact tree156_6 _ _ _ _ _ _ _ _ _ _ h
    · exact tree156_7 _ _ _ _ _ _ _ _ _ _ h
    · exact tree156_8 _ _ _ _ _ _ _ _ _ _ _ _ h
    · exact tree156_9 _ _ _ _ _ _ _ _ _ _ _ _ h
    · exact tree156_10 _ _ _ _ _ _ _ _ _ _ _ _ _ _ h
    · exact tree156_11 _ _ _ _ _ _ _ _ _ _ _ _ h
    · exact tree156_12 _ _ _ _ _ _ _ _ _ _ _ _ _ _ h
    · exact tree156_13 _ _ _ _ _ _ _ _ _ _ _ _ _ _ h
    · exact tree156_14 _ _ _ _ _ _ _ _ _ _ _ _ _ _ _ _ h
    · cases h
  · cases h)
noncomputable def E141 : List (FuncId × Summ Kd) := []
def m141 (x : Tn Kd) : Option ((Unit) ⊕ (Nat × (List (Int × Int)))) := match x with
  | ⟨tw, ta, sp, work, e, word, none, none, none, .nil⟩ =>
    (some (Sum.inl (default)))
  | ⟨tw, ta, sp, work, e, word, none, (some ([], fn)), none, .nil⟩ =>
    (some (Sum.inl (default)))
  | ⟨tw, ta, sp, work, e, word, none, (some (g :: F, fn)), none, .nil⟩ =>
    (some (Sum.inl (default)))
  | ⟨tw, ta, sp, work, e, word, (some (l, ln)), none, none, .nil⟩ =>
    (some (Sum.inl (default)))
  | ⟨tw, ta, sp, work, e, word, (some (l, ln)), (some ([], fn)), none, .nil⟩ =>
    (some (Sum.inl (default)))
  | ⟨tw, ta, sp, work, e, word, (some (l, ln)), (some (g :: F, fn)), none, .nil⟩ =>
    (some (Sum.inl (default)))
  | ⟨tw, ta, sp, work, e, word, none, none, (some (L, Ln)), .nil⟩ =>
    (cond (Ln == L.length)
      (cond (decide (L.length = (0 : Nat)))
        (some (Sum.inl (default)))
        (cond (decide (L.length ≤ (1048576 : Nat)))
          (some (Sum.inr ((L.length), (L))))
          none))
      none)
  | ⟨tw, ta, sp, work, e, word, none, (some ([], fn)), (some (L, Ln)), .nil⟩ =>
    (cond (Ln == L.length)
      (cond (decide (L.length = (0 : Nat)))
        (some (Sum.inl (default)))
        (cond (decide (L.length ≤ (1048576 : Nat)))
          (some (Sum.inr ((L.length), (L))))
          none))
      none)
  | ⟨tw, ta, sp, work, e, word, none, (some (g :: F, fn)), (some (L, Ln)), .nil⟩ =>
    (cond (Ln == L.length)
      (cond (decide (L.length = (0 : Nat)))
        (some (Sum.inl (default)))
        (cond (decide (L.length ≤ (1048576 : Nat)))
          (some (Sum.inr ((L.length), (L))))
          none))
      none)
  | ⟨tw, ta, sp, work, e, word, (some (l, ln)), none, (some (L, Ln)), .nil⟩ =>
    (cond (Ln == L.length)
      (cond (decide (L.length = (0 : Nat)))
        (some (Sum.inl (default)))
        (cond (decide (L.length ≤ (1048576 : Nat)))
          (some (Sum.inr ((L.length), (L))))
          none))
      none)
  | ⟨tw, ta, sp, work, e, word, (some (l, ln)), (some ([], fn)), (some (L, Ln)), .nil⟩ =>
    (cond (Ln == L.length)
      (cond (decide (L.length = (0 : Nat)))
        (some (Sum.inl (default)))
        (cond (decide (L.length ≤ (1048576 : Nat)))
          (some (Sum.inr ((L.length), (L))))
          none))
      none)
  | ⟨tw, ta, sp, work, e, word, (some (l, ln)), (some (g :: F, fn)), (some (L, Ln)), .nil⟩ =>
    (cond (Ln == L.length)
      (cond (decide (L.length = (0 : Nat)))
        (some (Sum.inl (default)))
        (cond (decide (L.length ≤ (1048576 : Nat)))
          (some (Sum.inr ((L.length), (L))))
          none))
      none)
  | _ => none
def sh141a (x : Tn Kd) (y : Unit) : LV × List (Option (LO Kd)) := (.nils, [some (.abs (.turn x) [])])
def sh141b (x : Tn Kd) (y : Nat × (List (Int × Int))) : LV × List (Option (LO Kd)) := (.vec 1 (y.1), [some (.abs (.turn x) []), some (.vec (.pairs (y.2)) 105)])
theorem tree141_1 (tw : Int) (ta : Int) (sp : Pl) (work : Int) (e : Int) (word : Int) : ∀ r, (m141 (⟨tw, ta, sp, work, e, word, none, none, none, .nil⟩)).map (Sum.elim (sh141a (⟨tw, ta, sp, work, e, word, none, none, none, .nil⟩)) (sh141b (⟨tw, ta, sp, work, e, word, none, none, none, .nil⟩))) = some r → (derS body (mkEnv E141 noLoops) Try.f141 [0] (fun _ => [(0, rTurn)]) [.ptr 0 0] [some (.abs (.turn (⟨tw, ta, sp, work, e, word, none, none, none, .nil⟩)) [])]).eval = some r := fun r h => Eq.trans (by kernel_rfl) (le_some r h)
theorem tree141_2 (tw : Int) (ta : Int) (sp : Pl) (work : Int) (e : Int) (word : Int) (fn : Nat) : ∀ r, (m141 (⟨tw, ta, sp, work, e, word, none, (some ([], fn)), none, .nil⟩)).map (Sum.elim (sh141a (⟨tw, ta, sp, work, e, word, none, (some ([], fn)), none, .nil⟩)) (sh141b (⟨tw, ta, sp, work, e, word, none, (some ([], fn)), none, .nil⟩))) = some r → (derS body (mkEnv E141 noLoops) Try.f141 [0] (fun _ => [(0, rTurn)]) [.ptr 0 0] [some (.abs (.turn (⟨tw, ta, sp, work, e, word, none, (some ([], fn)), none, .nil⟩)) [])]).eval = some r := fun r h => Eq.trans (by kernel_rfl) (le_some r h)
theorem tree141_3 (tw : Int) (ta : Int) (sp : Pl) (work : Int) (e : Int) (word : Int) (g : Kd) (F : List Kd) (fn : Nat) : ∀ r, (m141 (⟨tw, ta, sp, work, e, word, none, (some (g :: F, fn)), none, .nil⟩)).map (Sum.elim (sh141a (⟨tw, ta, sp, work, e, word, none, (some (g :: F, fn)), none, .nil⟩)) (sh141b (⟨tw, ta, sp, work, e, word, none, (some (g :: F, fn)), none, .nil⟩))) = some r → (derS body (mkEnv E141 noLoops) Try.f141 [0] (fun _ => [(0, rTurn)]) [.ptr 0 0] [some (.abs (.turn (⟨tw, ta, sp, work, e, word, none, (some (g :: F, fn)), none, .nil⟩)) [])]).eval = some r := fun r h => Eq.trans (by kernel_rfl) (le_some r h)
theorem tree141_4 (tw : Int) (ta : Int) (sp : Pl) (work : Int) (e : Int) (word : Int) (l : List (Int × Int)) (ln : Nat) : ∀ r, (m141 (⟨tw, ta, sp, work, e, word, (some (l, ln)), none, none, .nil⟩)).map (Sum.elim (sh141a (⟨tw, ta, sp, work, e, word, (some (l, ln)), none, none, .nil⟩)) (sh141b (⟨tw, ta, sp, work, e, word, (some (l, ln)), none, none, .nil⟩))) = some r → (derS body (mkEnv E141 noLoops) Try.f141 [0] (fun _ => [(0, rTurn)]) [.ptr 0 0] [some (.abs (.turn (⟨tw, ta, sp, work, e, word, (some (l, ln)), none, none, .nil⟩)) [])]).eval = some r := fun r h => Eq.trans (by kernel_rfl) (le_some r h)
theorem tree141_5 (tw : Int) (ta : Int) (sp : Pl) (work : Int) (e : Int) (word : Int) (l : List (Int × Int)) (ln : Nat) (fn : Nat) : ∀ r, (m141 (⟨tw, ta, sp, work, e, word, (some (l, ln)), (some ([], fn)), none, .nil⟩)).map (Sum.elim (sh141a (⟨tw, ta, sp, work, e, word, (some (l, ln)), (some ([], fn)), none, .nil⟩)) (sh141b (⟨tw, ta, sp, work, e, word, (some (l, ln)), (some ([], fn)), none, .nil⟩))) = some r → (derS body (mkEnv E141 noLoops) Try.f141 [0] (fun _ => [(0, rTurn)]) [.ptr 0 0] [some (.abs (.turn (⟨tw, ta, sp, work, e, word, (some (l, ln)), (some ([], fn)), none, .nil⟩)) [])]).eval = some r := fun r h => Eq.trans (by kernel_rfl) (le_some r h)
theorem tree141_6 (tw : Int) (ta : Int) (sp : Pl) (work : Int) (e : Int) (word : Int) (l : List (Int × Int)) (ln : Nat) (g : Kd) (F : List Kd) (fn : Nat) : ∀ r, (m141 (⟨tw, ta, sp, work, e, word, (some (l, ln)), (some (g :: F, fn)), none, .nil⟩)).map (Sum.elim (sh141a (⟨tw, ta, sp, work, e, word, (some (l, ln)), (some (g :: F, fn)), none, .nil⟩)) (sh141b (⟨tw, ta, sp, work, e, word, (some (l, ln)), (some (g :: F, fn)), none, .nil⟩))) = some r → (derS body (mkEnv E141 noLoops) Try.f141 [0] (fun _ => [(0, rTurn)]) [.ptr 0 0] [some (.abs (.turn (⟨tw, ta, sp, work, e, word, (some (l, ln)), (some (g :: F, fn)), none, .nil⟩)) [])]).eval = some r := fun r h => Eq.trans (by kernel_rfl) (le_some r h)
theorem tree141_7 (tw : Int) (ta : Int) (sp : Pl) (work : Int) (e : Int) (word : Int) (L : List (Int × Int)) (Ln : Nat) : ∀ r, (m141 (⟨tw, ta, sp, work, e, word, none, none, (some (L, Ln)), .nil⟩)).map (Sum.elim (sh141a (⟨tw, ta, sp, work, e, word, none, none, (some (L, Ln)), .nil⟩)) (sh141b (⟨tw, ta, sp, work, e, word, none, none, (some (L, Ln)), .nil⟩))) = some r → (derS body (mkEnv E141 noLoops) Try.f141 [0] (fun _ => [(0, rTurn)]) [.ptr 0 0] [some (.abs (.turn (⟨tw, ta, sp, work, e, word, none, none, (some (L, Ln)), .nil⟩)) [])]).eval = some r := fun r h => Eq.trans (by kernel_rfl) ((le_cond (le_cond le_some (le_cond le_some le_none)) le_none) r h)
theorem tree141_8 (tw : Int) (ta : Int) (sp : Pl) (work : Int) (e : Int) (word : Int) (fn : Nat) (L : List (Int × Int)) (Ln : Nat) : ∀ r, (m141 (⟨tw, ta, sp, work, e, word, none, (some ([], fn)), (some (L, Ln)), .nil⟩)).map (Sum.elim (sh141a (⟨tw, ta, sp, work, e, word, none, (some ([], fn)), (some (L, Ln)), .nil⟩)) (sh141b (⟨tw, ta, sp, work, e, word, none, (some ([], fn)), (some (L, Ln)), .nil⟩))) = some r → (derS body (mkEnv E141 noLoops) Try.f141 [0] (fun _ => [(0, rTurn)]) [.ptr 0 0] [some (.abs (.turn (⟨tw, ta, sp, work, e, word, none, (some ([], fn)), (some (L, Ln)), .nil⟩)) [])]).eval = some r := fun r h => Eq.trans (by kernel_rfl) ((le_cond (le_cond le_some (le_cond le_some le_none)) le_none) r h)
theorem tree141_9 (tw : Int) (ta : Int) (sp : Pl) (work : Int) (e : Int) (word : Int) (g : Kd) (F : List Kd) (fn : Nat) (L : List (Int × Int)) (Ln : Nat) : ∀ r, (m141 (⟨tw, ta, sp, work, e, word, none, (some (g :: F, fn)), (some (L, Ln)), .nil⟩)).map (Sum.elim (sh141a (⟨tw, ta, sp, work, e, word, none, (some (g :: F, fn)), (some (L, Ln)), .nil⟩)) (sh141b (⟨tw, ta, sp, work, e, word, none, (some (g :: F, fn)), (some (L, Ln)), .nil⟩))) = some r → (derS body (mkEnv E141 noLoops) Try.f141 [0] (fun _ => [(0, rTurn)]) [.ptr 0 0] [some (.abs (.turn (⟨tw, ta, sp, work, e, word, none, (some (g :: F, fn)), (some (L, Ln)), .nil⟩)) [])]).eval = some r := fun r h => Eq.trans (by kernel_rfl) ((le_cond (le_cond le_some (le_cond le_some le_none)) le_none) r h)
theorem tree141_10 (tw : Int) (ta : Int) (sp : Pl) (work : Int) (e : Int) (word : Int) (l : List (Int × Int)) (ln : Nat) (L : List (Int × Int)) (Ln : Nat) : ∀ r, (m141 (⟨tw, ta, sp, work, e, word, (some (l, ln)), none, (some (L, Ln)), .nil⟩)).map (Sum.elim (sh141a (⟨tw, ta, sp, work, e, word, (some (l, ln)), none, (some (L, Ln)), .nil⟩)) (sh141b (⟨tw, ta, sp, work, e, word, (some (l, ln)), none, (some (L, Ln)), .nil⟩))) = some r → (derS body (mkEnv E141 noLoops) Try.f141 [0] (fun _ => [(0, rTurn)]) [.ptr 0 0] [some (.abs (.turn (⟨tw, ta, sp, work, e, word, (some (l, ln)), none, (some (L, Ln)), .nil⟩)) [])]).eval = some r := fun r h => Eq.trans (by kernel_rfl) ((le_cond (le_cond le_some (le_cond le_some le_none)) le_none) r h)
theorem tree141_11 (tw : Int) (ta : Int) (sp : Pl) (work : Int) (e : Int) (word : Int) (l : List (Int × Int)) (ln : Nat) (fn : Nat) (L : List (Int × Int)) (Ln : Nat) : ∀ r, (m141 (⟨tw, ta, sp, work, e, word, (some (l, ln)), (some ([], fn)), (some (L, Ln)), .nil⟩)).map (Sum.elim (sh141a (⟨tw, ta, sp, work, e, word, (some (l, ln)), (some ([], fn)), (some (L, Ln)), .nil⟩)) (sh141b (⟨tw, ta, sp, work, e, word, (some (l, ln)), (some ([], fn)), (some (L, Ln)), .nil⟩))) = some r → (derS body (mkEnv E141 noLoops) Try.f141 [0] (fun _ => [(0, rTurn)]) [.ptr 0 0] [some (.abs (.turn (⟨tw, ta, sp, work, e, word, (some (l, ln)), (some ([], fn)), (some (L, Ln)), .nil⟩)) [])]).eval = some r := fun r h => Eq.trans (by kernel_rfl) ((le_cond (le_cond le_some (le_cond le_some le_none)) le_none) r h)
theorem tree141_12 (tw : Int) (ta : Int) (sp : Pl) (work : Int) (e : Int) (word : Int) (l : List (Int × Int)) (ln : Nat) (g : Kd) (F : List Kd) (fn : Nat) (L : List (Int × Int)) (Ln : Nat) : ∀ r, (m141 (⟨tw, ta, sp, work, e, word, (some (l, ln)), (some (g :: F, fn)), (some (L, Ln)), .nil⟩)).map (Sum.elim (sh141a (⟨tw, ta, sp, work, e, word, (some (l, ln)), (some (g :: F, fn)), (some (L, Ln)), .nil⟩)) (sh141b (⟨tw, ta, sp, work, e, word, (some (l, ln)), (some (g :: F, fn)), (some (L, Ln)), .nil⟩))) = some r → (derS body (mkEnv E141 noLoops) Try.f141 [0] (fun _ => [(0, rTurn)]) [.ptr 0 0] [some (.abs (.turn (⟨tw, ta, sp, work, e, word, (some (l, ln)), (some (g :: F, fn)), (some (L, Ln)), .nil⟩)) [])]).eval = some r := fun r h => Eq.trans (by kernel_rfl) ((le_cond (le_cond le_some (le_cond le_some le_none)) le_none) r h)
def S141 : Summ Kd := fun args cs => match args, cs with
  | [.ptr 0 0], [some (.abs (.turn x) [])] => ans2 (m141 x) (sh141a x) (sh141b x)
  | _, _ => .bad 0
theorem fact141 : Fact 141 S141 := fact_of (l := E141) trivial Try.func141 rfl Try.call141 (opens := [0]) (shuts := (fun _ => [(0, rTurn)])) (fun v x h => by simp only [List.mem_singleton] at h; subst h; exact rTurn_ok) (by
  intro args cs r h
  unfold S141 at h
  split at h
  · have h := eval_ans2 h
    unfold m141 at h
    split at h
    · exact tree141_1 _ _ _ _ _ _ _ h
    · exact tree141_2 _ _ _ _ _ _ _ _ h
    · exact tree141_3 _ _ _ _ _ _ _ _ _ _ h
    · exact tree141_4 _ _ _ _ _ _ _ _ _ h
    · exact tree141_5 _ _ _ _ _ _ _ _ _ _ h
    · exact tree141_6 _ _ _ _ _ _ _ _ _ _ _ _ h
    · exact tree141_7 _ _ _ _ _ _ _ _ _ h
    · exact tree141_8 _ _ _ _ _ _ _ _ _ _ h
    · exact tree141_9 _ _ _ _ _ _ _ _ _ _ _ _ h
    · exact tree141_10 _ _ _ _ _ _ _ _ _ _ _ h
    · exact tree141_11 _ _ _ _ _ _ _ _ _ _ _ _ h
    · exact tree141_12 _ _ _ _ _ _ _ _ _ _ _ _ _ _ h
    · cases h
  · cases h)
end Go.Sx

/- Contracts: what a scan leaves is told as what was retired. No condition. -/
set_option linter.unusedVariables false
set_option linter.unusedSimpArgs false
namespace Go.Sx
open Go.Proofs
noncomputable def B140 (k0 : Nat) : LSumm Kd := derB2 body (mkEnv [] (lpOf [])) (theLoop 1 Try.f140) [4, 31, 32, 33] [0] 58 (fun _ => []) k0
theorem treeB140a (l : List Int) (n : Nat) (n' i : Int) : (B140 1 [.nils, .vec 0 n, .int .i64 n', .int .i64 i] [some (.vec (.ints l) 3)]).eval =
    (cond (decide (i < n'))
      (cond (decide ((0 : Int) ≤ i ∧ i < (↑n : Int)))
        (cond (decide (i.toNat < l.length))
          (some (.normal, ([.vec 1 1, .vec 0 (n), .int .i64 (n'), .int .i64 (w64 (i + (1 : Int)))], [(some (.vec (.ints (l)) 3)), (some (.vec (.pairs ([(l.getD i.toNat (0 : Int), (0 : Int))])) 105))])))
          none /- 13 -/)
        none /- 51 -/)
      (some (.exit 1, ([.nils, .vec 0 (n), .int .i64 (n'), .int .i64 (i)], [(some (.vec (.ints (l)) 3))])))) := by kernel_rfl
theorem treeB140b (l : List Int) (n m : Nat) (o : List (Int × Int)) (n' i : Int) : (B140 1 [.vec 1 m, .vec 0 n, .int .i64 n', .int .i64 i] [some (.vec (.ints l) 3), some (.vec (.pairs o) 105)]).eval =
    (cond (decide (i < n'))
      (cond (decide ((0 : Int) ≤ i ∧ i < (↑n : Int)))
        (cond (decide (i.toNat < l.length))
          (cond (m == o.length && decide (o.length + (1 : Nat) ≤ (1048576 : Nat)))
            (some (.normal, ([.vec 1 (m + (1 : Nat)), .vec 0 (n), .int .i64 (n'), .int .i64 (w64 (i + (1 : Int)))], [(some (.vec (.ints (l)) 3)), (some (.vec (.pairs (o ++ [(l.getD i.toNat (0 : Int), (0 : Int))])) 105))])))
            none /- 82 -/)
          none /- 13 -/)
        none /- 51 -/)
      (some (.exit 1, ([.vec 1 (m), .vec 0 (n), .int .i64 (n'), .int .i64 (i)], [(some (.vec (.ints (l)) 3)), (some (.vec (.pairs (o)) 105))])))) := by kernel_rfl
theorem treeB140c (n' i : Int) : (B140 0 [.nils, .nils, .int .i64 n', .int .i64 i] []).eval =
    (cond (decide (i < n'))
      none /- 53 -/
      (some (.exit 1, ([.nils, .nils, .int .i64 (n'), .int .i64 (i)], [])))) := by kernel_rfl

theorem iter140b (l : List Int) (h0 : l.length ≤ 1048576) : ∀ (k i : Nat), l.length - i = k → 1 ≤ i → i ≤ l.length →
    Iter (B140 1) [.vec 1 i, .vec 0 l.length, .int .i64 l.length, .int .i64 i] [some (.vec (.ints l) 3), some (.vec (.pairs ((l.take i).map (fun h => (h, (0 : Int))))) 105)] (.exit 1)
      [.vec 1 l.length, .vec 0 l.length, .int .i64 l.length, .int .i64 l.length] [some (.vec (.ints l) 3), some (.vec (.pairs (l.map (fun h => (h, (0 : Int))))) 105)]
  | 0, i, hk, h1, h2 => by
    obtain rfl : i = l.length := by omega
    refine .stop ?_ (by intro h; cases h)
    rw [treeB140b, decide_eq_false (show ¬ ((l.length : Int) < l.length) by omega), List.take_length]
    rfl
  | k + 1, i, hk, h1, h2 => by
    have ih := iter140b l h0 k (i + 1) (by omega) (by omega) (by omega)
    refine .more (vs := [.vec 1 (i + 1), .vec 0 l.length, .int .i64 l.length, .int .i64 (i + 1 : Nat)]) (post := [some (.vec (.ints l) 3), some (.vec (.pairs ((l.take (i + 1)).map (fun h => (h, (0 : Int))))) 105)]) ?_ rfl ih
    have hi : i < l.length := by omega
    rw [treeB140b, decide_eq_true (show ((i : Int) < l.length) by omega), decide_eq_true (show ((0 : Int) ≤ i ∧ (i : Int) < l.length) by omega), Int.toNat_natCast, decide_eq_true hi, w64_id (by omega) (by omega)]
    have e : (i == ((l.take i).map (fun h => (h, (0 : Int)))).length && decide (((l.take i).map (fun h => (h, (0 : Int)))).length + (1 : Nat) ≤ (1048576 : Nat))) = true := by
      simp only [List.length_map, List.length_take, Bool.and_eq_true, beq_iff_eq, decide_eq_true_eq, List.length_singleton]; omega
    rw [e]
    have e2 : (l.take (i + 1)).map (fun h => (h, (0 : Int))) = (l.take i).map (fun h => (h, (0 : Int))) ++ [(l.getD i (0 : Int), (0 : Int))] := by
      rw [getD_lt hi, List.take_succ_eq_append_getElem hi, List.map_append]; rfl
    rw [e2]
    rfl
theorem iter140a (l : List Int) (h0 : l.length ≤ 1048576) (hl : l ≠ []) :
    Iter (B140 1) [.nils, .vec 0 l.length, .int .i64 l.length, .int .i64 0] [some (.vec (.ints l) 3)] (.exit 1)
      [.vec 1 l.length, .vec 0 l.length, .int .i64 l.length, .int .i64 l.length] [some (.vec (.ints l) 3), some (.vec (.pairs (l.map (fun h => (h, (0 : Int))))) 105)] := by
  have hp : 0 < l.length := List.length_pos_iff.2 hl
  refine .more (vs := [.vec 1 1, .vec 0 l.length, .int .i64 l.length, .int .i64 (1 : Nat)]) (post := [some (.vec (.ints l) 3), some (.vec (.pairs ((l.take 1).map (fun h => (h, (0 : Int))))) 105)]) ?_ rfl (iter140b l h0 _ 1 rfl (by omega) (by omega))
  rw [treeB140a, decide_eq_true (show ((0 : Int) < l.length) by omega), decide_eq_true (show ((0 : Int) ≤ 0 ∧ (0 : Int) < l.length) by omega), show (0 : Int).toNat = 0 from rfl, decide_eq_true hp, w64_id (by omega) (by omega)]
  have e2 : (l.take 1).map (fun h => (h, (0 : Int))) = [(l.getD 0 (0 : Int), (0 : Int))] := by
    cases l with
    | nil => exact absurd rfl hl
    | cons a l => rfl
  rw [e2]
  rfl
def L140 : LSumm Kd := fun args cs => match args, cs with
  | [.nils, .vec 0 n, .int .i64 n', .int .i64 i], [some (.vec (.ints l) 3)] => .br (decide (n = l.length ∧ n' = l.length ∧ i = 0 ∧ l ≠ [] ∧ l.length ≤ 1048576))
      (.ret (.normal, [.vec 1 n, .vec 0 n, .int .i64 n', .int .i64 n'], [some (.vec (.ints l) 3), some (.vec (.pairs (l.map (fun h => (h, (0 : Int))))) 105)])) (.bad 1)
  | [.nils, .nils, .int .i64 n', .int .i64 i], [] => .br (decide (i < n')) (.bad 1) (.ret (.normal, [.nils, .nils, .int .i64 n', .int .i64 i], []))
  | _, _ => .bad 0
theorem ok140 : ∃ c, Try.f140.body = some c ∧ occ 1 c = [.loop (theLoop 1 Try.f140)] ∧ SxOk Try.prog body (fun Q => (Code.block 1 (.loop (theLoop 1 Try.f140))).wp Try.prog Q) (loopL2 [4, 31, 32, 33] [0] 58 L140) :=
  lp_ok2 (l := []) (lps := []) trivial rfl (by kernel_rfl) no_lps (by decide) (by decide) (fun v x h => absurd h (List.not_mem_nil)) (by
    intro args cs e vs post h
    unfold L140 at h
    split at h
    · rename_i n n' i l
      simp only [T.eval] at h
      cases hc : decide (n = l.length ∧ n' = l.length ∧ i = 0 ∧ l ≠ [] ∧ l.length ≤ 1048576) with
      | false => rw [hc] at h; cases h
      | true =>
        rw [hc] at h
        simp only [decide_eq_true_eq] at hc
        obtain ⟨rfl, rfl, rfl, h1, h2⟩ := hc
        cases h
        exact ⟨_, iter140a l h2 h1, rfl⟩
    · rename_i n' i
      simp only [T.eval] at h
      cases hc : decide (i < n') with
      | true => rw [hc] at h; cases h
      | false =>
        rw [hc] at h
        cases h
        refine ⟨.exit 1, .stop ?_ (by intro h; cases h), rfl⟩
        show (B140 0 _ _).eval = _
        rw [treeB140c, hc]; rfl
    · cases h)
noncomputable def lps140 : Lps := [(1, loopL2 [4, 31, 32, 33] [0] 58 L140)]
theorem lps140_ok : LpsOk Try.f140 lps140 := ⟨ok140, trivial⟩
noncomputable def E140 : List (FuncId × Summ Kd) := [(141, S141), (142, S142)]
/-- Run inside its callers. -/
noncomputable def S140 : Summ Kd := derS body (mkEnv E140 (lpOf lps140)) Try.f140 [] (fun _ => [])
theorem fact140 : Fact 140 S140 := fact_loops (l := E140) ⟨fact141, fact142, trivial⟩ lps140_ok Try.func140 rfl Try.call140 (fun v x h => by cases h) (opens := []) (shuts := fun _ => []) (fun _ _ _ h => h)
end Go.Sx

/- Contracts: guards. No condition. -/
set_option linter.unusedVariables false
set_option linter.unusedSimpArgs false
namespace Go.Sx
open Go.Proofs
noncomputable def E109 : List (FuncId × Summ Kd) := []
noncomputable def S109 : Summ Kd := inl E109 Try.f109
theorem fact109 : Fact 109 S109 := fact_inl (l := E109) trivial Try.func109 rfl Try.call109
noncomputable def E100 : List (FuncId × Summ Kd) := [(109, S109)]
noncomputable def S100 : Summ Kd := inl E100 Try.f100
theorem fact100 : Fact 100 S100 := fact_inl (l := E100) ⟨fact109, trivial⟩ Try.func100 rfl Try.call100
noncomputable def E101 : List (FuncId × Summ Kd) := []
noncomputable def S101 : Summ Kd := inl E101 Try.f101
theorem fact101 : Fact 101 S101 := fact_inl (l := E101) trivial Try.func101 rfl Try.call101
noncomputable def E83 : List (FuncId × Summ Kd) := [(100, S100), (101, S101)]
noncomputable def S83 : Summ Kd := inl E83 Try.f83
theorem fact83 : Fact 83 S83 := fact_inl (l := E83) ⟨fact100, fact101, trivial⟩ Try.func83 rfl Try.call83
noncomputable def E138 : List (FuncId × Summ Kd) := []
noncomputable def S138 : Summ Kd := inl E138 Try.f138
theorem fact138 : Fact 138 S138 := fact_inl (l := E138) trivial Try.func138 rfl Try.call138
noncomputable def E145 : List (FuncId × Summ Kd) := []
noncomputable def S145 : Summ Kd := inl E145 Try.f145
theorem fact145 : Fact 145 S145 := fact_inl (l := E145) trivial Try.func145 rfl Try.call145
def shG (v : LV) : List (Nat × Rd Kd) := match v with
  | .ifc t (.ptr n _) => (match Nat.beq t 111, Nat.beq t 120 with
    | true, _ => [(n, rLook), (0, rGuard)]
    | _, true => [(n, rPin), (0, rGuard)]
    | _, _ => [(n, rSets), (0, rGuard)])
  | _ => [(0, rGuard)]
theorem shG_ok : ∀ v x, x ∈ shG v → RdOk body x.2 := by
  intro v x h
  unfold shG at h
  split at h
  · split at h <;>
    · simp only [List.mem_cons, List.not_mem_nil, or_false] at h
      rcases h with rfl | rfl
      · first | exact rLook_ok | exact rPin_ok | exact rSets_ok
      · exact rGuard_ok
  · simp only [List.mem_singleton] at h
    subst h
    exact rGuard_ok
noncomputable def E56 : List (FuncId × Summ Kd) := [(83, S83), (138, S138), (145, S145)]
def m56 (work : Int) (at_ : Int) (ep : Bool) : Option ((Int)) :=
    (cond (ep)
      (some ((w64 ((1 : Int) + if (0 : Int) > work then (0 : Int) else work))))
      (some ((w64 ((2 : Int) * if (0 : Int) > work then (0 : Int) else work)))))
def sh56  (y : Int) : LV × List (Option (LO Kd)) := (.int .i64 y, [])
theorem tree56 (work : Int) (at_ : Int) (ep : Bool) : ∀ r, (m56 work at_ ep).map sh56 = some r → (derS body (mkEnv E56 noLoops) Try.f56 [] (fun _ => []) [.int .i64 work, .int .i64 at_, .bool ep] []).eval = some r := fun r h => Eq.trans (by kernel_rfl) ((le_cond le_some le_some) r h)
def S56 : Summ Kd := fun args cs => match args, cs with
  | [.int .i64 work, .int .i64 at_, .bool ep], [] => ans (m56 work at_ ep) sh56
  | _, _ => .bad 0
theorem fact56 : Fact 56 S56 := fact_of (l := E56) ⟨fact83, fact138, fact145, trivial⟩ Try.func56 rfl Try.call56 (opens := []) (shuts := (fun _ => [])) (fun v x h => by cases h) (by
  intro args cs r h
  unfold S56 at h
  split at h
  · exact tree56 _ _ _ _ (eval_ans h)
  · cases h)
noncomputable def E58 : List (FuncId × Summ Kd) := [(83, S83)]
def m58 (work : Int) (at_ : Int) (ep : Bool) (th : Int) (pw : Int) (ph : Int) (pl : Int) (pg : Int) (pc : Int) : Option ((Gd)) :=
    (cond (ep)
      (some (({ epochs := true, work := work, at_ := at_, p := { work := pw, heads := ph, links := pl, gens := pg, carved := pc : Pl }, thresh := if (if (64 : Int) < th then (64 : Int) else th) > (1 : Int) then if (64 : Int) < th then (64 : Int) else th else (1 : Int), l := fun x => [] : Gd })))
      (some (({ epochs := false, work := work, at_ := at_, p := { work := pw, heads := ph, links := pl, gens := pg, carved := pc : Pl }, thresh := if (if (64 : Int) < th then (64 : Int) else th) > (1 : Int) then if (64 : Int) < th then (64 : Int) else th else (1 : Int), l := fun x => [] : Gd }))))
def sh58  (y : Gd) : LV × List (Option (LO Kd)) := (.ptr 0 0, [some (.abs (.guard y) [])])
theorem tree58 (work : Int) (at_ : Int) (ep : Bool) (th : Int) (pw : Int) (ph : Int) (pl : Int) (pg : Int) (pc : Int) : ∀ r, (m58 work at_ ep th pw ph pl pg pc).map sh58 = some r → (derS body (mkEnv E58 noLoops) Try.f58 [] (fun v => [(ptrOf v, rGuard)]) [.int .i64 work, .int .i64 at_, .bool ep, .int .i64 th, .agg [.int .i64 pw, .int .i64 ph, .int .i64 pl, .int .i64 pg, .int .i64 pc]] []).eval = some r := fun r h => Eq.trans (by kernel_rfl) ((le_cond le_some le_some) r h)
def S58 : Summ Kd := fun args cs => match args, cs with
  | [.int .i64 work, .int .i64 at_, .bool ep, .int .i64 th, .agg [.int .i64 pw, .int .i64 ph, .int .i64 pl, .int .i64 pg, .int .i64 pc]], [] => ans (m58 work at_ ep th pw ph pl pg pc) sh58
  | _, _ => .bad 0
theorem fact58 : Fact 58 S58 := fact_of (l := E58) ⟨fact83, trivial⟩ Try.func58 rfl Try.call58 (opens := []) (shuts := (fun v => [(ptrOf v, rGuard)])) (fun v x h => by simp only [List.mem_singleton] at h; subst h; exact rGuard_ok) (by
  intro args cs r h
  unfold S58 at h
  split at h
  · exact tree58 _ _ _ _ _ _ _ _ _ _ (eval_ans h)
  · cases h)
noncomputable def E20 : List (FuncId × Summ Kd) := []
def m20 (g : Gd) (work : Int) : Option ((Nat × Gd)) := match g with
  | ⟨true, gw, ga, gp, gth, gl⟩ =>
    (cond (({ epochs := true, work := gw, at_ := ga, p := gp, thresh := gth, l := gl : Gd }.l work).isEmpty)
      (some (0, ({ epochs := true, work := gw, at_ := ga, p := gp, thresh := gth, l := gl : Gd })))
      (cond (({ epochs := true, work := gw, at_ := ga, p := gp, thresh := gth, l := gl : Gd }.l work).length == ({ epochs := true, work := gw, at_ := ga, p := gp, thresh := gth, l := gl : Gd }.l work).length)
        (some ((({ epochs := true, work := gw, at_ := ga, p := gp, thresh := gth, l := gl : Gd }.l work).length), ({ epochs := true, work := gw, at_ := ga, p := gp, thresh := gth, l := upf gl work ({ epochs := true, work := gw, at_ := ga, p := gp, thresh := gth, l := gl : Gd }.l work) : Gd })))
        none))
  | ⟨false, gw, ga, gp, gth, gl⟩ =>
    (cond (({ epochs := false, work := gw, at_ := ga, p := gp, thresh := gth, l := gl : Gd }.l work).isEmpty)
      (some (0, ({ epochs := false, work := gw, at_ := ga, p := gp, thresh := gth, l := gl : Gd })))
      (cond (({ epochs := false, work := gw, at_ := ga, p := gp, thresh := gth, l := gl : Gd }.l work).length == ({ epochs := false, work := gw, at_ := ga, p := gp, thresh := gth, l := gl : Gd }.l work).length)
        (some ((({ epochs := false, work := gw, at_ := ga, p := gp, thresh := gth, l := gl : Gd }.l work).length), ({ epochs := false, work := gw, at_ := ga, p := gp, thresh := gth, l := upf gl work ({ epochs := false, work := gw, at_ := ga, p := gp, thresh := gth, l := gl : Gd }.l work) : Gd })))
        none))
def sh20  (y : Nat × Gd) : LV × List (Option (LO Kd)) := (.int .i64 ((y.1) : Nat), [some (.abs (.guard (y.2)) [])])
theorem tree20_1 (gw : Int) (ga : Int) (gp : Pl) (gth : Int) (gl : Int → List (Int × Int)) (work : Int) : ∀ r, (m20 (⟨true, gw, ga, gp, gth, gl⟩) work).map sh20 = some r → (derS body (mkEnv E20 noLoops) Try.f20 [0] (fun _ => [(0, rGuard)]) [.ptr 0 0, .int .i64 work] [some (.abs (.guard (⟨true, gw, ga, gp, gth, gl⟩)) [])]).eval = some r := fun r h => Eq.trans (by kernel_rfl) ((le_cond le_some (le_cond le_some le_none)) r h)
theorem tree20_2 (gw : Int) (ga : Int) (gp : Pl) (gth : Int) (gl : Int → List (Int × Int)) (work : Int) : ∀ r, (m20 (⟨false, gw, ga, gp, gth, gl⟩) work).map sh20 = some r → (derS body (mkEnv E20 noLoops) Try.f20 [0] (fun _ => [(0, rGuard)]) [.ptr 0 0, .int .i64 work] [some (.abs (.guard (⟨false, gw, ga, gp, gth, gl⟩)) [])]).eval = some r := fun r h => Eq.trans (by kernel_rfl) ((le_cond le_some (le_cond le_some le_none)) r h)
def S20 : Summ Kd := fun args cs => match args, cs with
  | [.ptr 0 0, .int .i64 work], [some (.abs (.guard g) [])] => ans (m20 g work) sh20
  | _, _ => .bad 0
theorem fact20 : Fact 20 S20 := fact_of (l := E20) trivial Try.func20 rfl Try.call20 (opens := [0]) (shuts := (fun _ => [(0, rGuard)])) (fun v x h => by simp only [List.mem_singleton] at h; subst h; exact rGuard_ok) (by
  intro args cs r h
  unfold S20 at h
  split at h
  · have h := eval_ans h
    unfold m20 at h
    split at h
    · exact tree20_1 _ _ _ _ _ _ _ h
    · exact tree20_2 _ _ _ _ _ _ _ h
  · cases h)
noncomputable def E63 : List (FuncId × Summ Kd) := [(92, S92), (93, S93), (94, S94)]
noncomputable def S63 : Summ Kd := inl E63 Try.f63
theorem fact63 : Fact 63 S63 := fact_inl (l := E63) ⟨fact92, fact93, fact94, trivial⟩ Try.func63 rfl Try.call63
noncomputable def E139 : List (FuncId × Summ Kd) := [(63, S63), (107, S107), (30, S30), (140, S140), (156, S156), (157, S157)]
def m139 (x : Lk Kd) (a : Ar) (g : Gd) : Option ((Bool × Lk Kd × Ar × Gd)) := match x, g with
  | ⟨work, false, times, .nil⟩, ⟨false, gw, ga, gp, gth, gl⟩ =>
    (cond (decide (times > (0 : Int)))
      (cond (({ epochs := false, work := gw, at_ := ga, p := gp, thresh := gth, l := gl : Gd }.l work).isEmpty)
        none
        (cond (decide (({ epochs := false, work := gw, at_ := ga, p := gp, thresh := gth, l := gl : Gd }.l work).length = ({ epochs := false, work := gw, at_ := ga, p := gp, thresh := gth, l := gl : Gd }.l work).length ∧ { epochs := false, work := gw, at_ := ga, p := gp, thresh := gth, l := gl : Gd }.l work ≠ [] ∧ ({ epochs := false, work := gw, at_ := ga, p := gp, thresh := gth, l := gl : Gd }.l work).length ≤ (1048576 : Nat)))
          (Option.bind (m93 gw ga gp.work gp.heads gp.links gp.gens gp.carved work ({ epochs := false, work := gw, at_ := ga, p := gp, thresh := gth, l := gl : Gd }.l work).length (List.map (fun x => x.fst) ({ epochs := false, work := gw, at_ := ga, p := gp, thresh := gth, l := gl : Gd }.l work))) fun y1 =>
            (cond (({ epochs := false, work := gw, at_ := ga, p := gp, thresh := gth, l := gl : Gd }.l work).length == ({ epochs := false, work := gw, at_ := ga, p := gp, thresh := gth, l := gl : Gd }.l work).length)
              (Option.bind (m157 y1 a) fun y2 =>
                (cond (y2.fst)
                  (bind2 (m142 y2.snd.fst) (fun y3 =>
                    (some ((w64 (times - (1 : Int)) == (0 : Int)), ({ work := work, since := false, times := w64 (times - (1 : Int)), m := Lm.nil : Lk Kd }), (y2.snd.2), ({ epochs := false, work := gw, at_ := ga, p := gp, thresh := gth, l := upf (upf gl work ({ epochs := false, work := gw, at_ := ga, p := gp, thresh := gth, l := gl : Gd }.l work)) work [] : Gd })))) (fun y3 =>
                    (cond (decide (y3.fst = y3.snd.length ∧ (↑y3.fst : Int) = (↑y3.snd.length : Int) ∧ (0 : Int) = (0 : Int) ∧ y3.snd ≠ [] ∧ y3.snd.length ≤ (1048576 : Nat)))
                      (cond (y3.fst == (List.map (fun h => (h, (0 : Int))) y3.snd).length && !(List.map (fun h => (h, (0 : Int))) y3.snd).isEmpty && (105 : TypeId) == 105)
                        (some ((w64 (times - (1 : Int)) == (0 : Int)), ({ work := work, since := false, times := w64 (times - (1 : Int)), m := Lm.nil : Lk Kd }), (y2.snd.2), ({ epochs := false, work := gw, at_ := ga, p := gp, thresh := gth, l := upf (upf gl work ({ epochs := false, work := gw, at_ := ga, p := gp, thresh := gth, l := gl : Gd }.l work)) work (List.map (fun h => (h, (0 : Int))) y3.snd) : Gd })))
                        none)
                      none)))
                  (some (false, ({ work := work, since := false, times := w64 (times - (1 : Int)), m := Lm.scan y2.snd.fst : Lk Kd }), (y2.snd.2), ({ epochs := false, work := gw, at_ := ga, p := gp, thresh := gth, l := upf gl work ({ epochs := false, work := gw, at_ := ga, p := gp, thresh := gth, l := gl : Gd }.l work) : Gd })))))
              none))
          none))
      (some ((times == (0 : Int)), ({ work := work, since := false, times := times, m := Lm.nil : Lk Kd }), (a), ({ epochs := false, work := gw, at_ := ga, p := gp, thresh := gth, l := gl : Gd }))))
  | ⟨work, false, times, .scan s⟩, ⟨false, gw, ga, gp, gth, gl⟩ =>
    (Option.bind (m157 s a) fun y1 =>
      (cond (y1.fst)
        (bind2 (m142 y1.snd.fst) (fun y2 =>
          (some ((times == (0 : Int)), ({ work := work, since := false, times := times, m := Lm.nil : Lk Kd }), (y1.snd.2), ({ epochs := false, work := gw, at_ := ga, p := gp, thresh := gth, l := upf gl work [] : Gd })))) (fun y2 =>
          (cond (decide (y2.fst = y2.snd.length ∧ (↑y2.fst : Int) = (↑y2.snd.length : Int) ∧ (0 : Int) = (0 : Int) ∧ y2.snd ≠ [] ∧ y2.snd.length ≤ (1048576 : Nat)))
            (cond (y2.fst == (List.map (fun h => (h, (0 : Int))) y2.snd).length && !(List.map (fun h => (h, (0 : Int))) y2.snd).isEmpty && (105 : TypeId) == 105)
              (some ((times == (0 : Int)), ({ work := work, since := false, times := times, m := Lm.nil : Lk Kd }), (y1.snd.2), ({ epochs := false, work := gw, at_ := ga, p := gp, thresh := gth, l := upf gl work (List.map (fun h => (h, (0 : Int))) y2.snd) : Gd })))
              none)
            none)))
        (some (false, ({ work := work, since := false, times := times, m := Lm.scan y1.snd.fst : Lk Kd }), (y1.snd.2), ({ epochs := false, work := gw, at_ := ga, p := gp, thresh := gth, l := gl : Gd })))))
  | ⟨work, true, times, .nil⟩, ⟨true, gw, ga, gp, gth, gl⟩ =>
    (cond (({ epochs := true, work := gw, at_ := ga, p := gp, thresh := gth, l := gl : Gd }.l work).isEmpty)
      (cond (a.wf)
        none
        none)
      (cond (a.wf)
        (cond (decide ((0 : Int) ≤ w64 ((↑({ epochs := true, work := gw, at_ := ga, p := gp, thresh := gth, l := gl : Gd }.l work).length : Int) - (1 : Int)) ∧ w64 ((↑({ epochs := true, work := gw, at_ := ga, p := gp, thresh := gth, l := gl : Gd }.l work).length : Int) - (1 : Int)) < (↑({ epochs := true, work := gw, at_ := ga, p := gp, thresh := gth, l := gl : Gd }.l work).length : Int)))
          (cond (decide ((w64 ((↑({ epochs := true, work := gw, at_ := ga, p := gp, thresh := gth, l := gl : Gd }.l work).length : Int) - (1 : Int))).toNat < ({ epochs := true, work := gw, at_ := ga, p := gp, thresh := gth, l := gl : Gd }.l work).length))
            (cond ((({ epochs := true, work := gw, at_ := ga, p := gp, thresh := gth, l := gl : Gd }.l work).set (w64 ((↑({ epochs := true, work := gw, at_ := ga, p := gp, thresh := gth, l := gl : Gd }.l work).length : Int) - (1 : Int))).toNat ((({ epochs := true, work := gw, at_ := ga, p := gp, thresh := gth, l := gl : Gd }.l work).getD (w64 ((↑({ epochs := true, work := gw, at_ := ga, p := gp, thresh := gth, l := gl : Gd }.l work).length : Int) - (1 : Int))).toNat ((0 : Int), (0 : Int))).fst, a.rawAt ga)).length == ({ epochs := true, work := gw, at_ := ga, p := gp, thresh := gth, l := gl : Gd }.l work).length)
              (some ((times == (0 : Int)), ({ work := work, since := false, times := times, m := Lm.nil : Lk Kd }), (a.touch ga), ({ epochs := true, work := gw, at_ := ga, p := gp, thresh := gth, l := upf gl work (({ epochs := true, work := gw, at_ := ga, p := gp, thresh := gth, l := gl : Gd }.l work).set (w64 ((↑({ epochs := true, work := gw, at_ := ga, p := gp, thresh := gth, l := gl : Gd }.l work).length : Int) - (1 : Int))).toNat ((({ epochs := true, work := gw, at_ := ga, p := gp, thresh := gth, l := gl : Gd }.l work).getD (w64 ((↑({ epochs := true, work := gw, at_ := ga, p := gp, thresh := gth, l := gl : Gd }.l work).length : Int) - (1 : Int))).toNat ((0 : Int), (0 : Int))).fst, a.rawAt ga)) : Gd })))
              none)
            none)
          none)
        none))
  | ⟨work, false, times, .nil⟩, ⟨true, gw, ga, gp, gth, gl⟩ =>
    (cond (decide (times > (0 : Int)))
      (cond (({ epochs := true, work := gw, at_ := ga, p := gp, thresh := gth, l := gl : Gd }.l work).isEmpty)
        (Option.bind (m156 ((m92n gw ga gp.work gp.heads gp.links gp.gens gp.carved work).getD default) a) fun y1 =>
          (cond (y1.fst)
            (bind2 (m141 y1.snd.fst) (fun y2 =>
              (some ((w64 (times - (1 : Int)) == (0 : Int)), ({ work := work, since := false, times := w64 (times - (1 : Int)), m := Lm.nil : Lk Kd }), (y1.snd.2), ({ epochs := true, work := gw, at_ := ga, p := gp, thresh := gth, l := upf gl work [] : Gd })))) (fun y2 =>
              (cond (y2.fst == y2.snd.length && !y2.snd.isEmpty && (105 : TypeId) == 105)
                (some ((w64 (times - (1 : Int)) == (0 : Int)), ({ work := work, since := false, times := w64 (times - (1 : Int)), m := Lm.nil : Lk Kd }), (y1.snd.2), ({ epochs := true, work := gw, at_ := ga, p := gp, thresh := gth, l := upf gl work y2.snd : Gd })))
                none)))
            (some (false, ({ work := work, since := false, times := w64 (times - (1 : Int)), m := Lm.turn y1.snd.fst : Lk Kd }), (y1.snd.2), ({ epochs := true, work := gw, at_ := ga, p := gp, thresh := gth, l := gl : Gd })))))
        (Option.bind (m92v gw ga gp.work gp.heads gp.links gp.gens gp.carved work ({ epochs := true, work := gw, at_ := ga, p := gp, thresh := gth, l := gl : Gd }.l work).length ({ epochs := true, work := gw, at_ := ga, p := gp, thresh := gth, l := gl : Gd }.l work)) fun y1 =>
          (cond (({ epochs := true, work := gw, at_ := ga, p := gp, thresh := gth, l := gl : Gd }.l work).length == ({ epochs := true, work := gw, at_ := ga, p := gp, thresh := gth, l := gl : Gd }.l work).length)
            (Option.bind (m156 y1 a) fun y2 =>
              (cond (y2.fst)
                (bind2 (m141 y2.snd.fst) (fun y3 =>
                  (some ((w64 (times - (1 : Int)) == (0 : Int)), ({ work := work, since := false, times := w64 (times - (1 : Int)), m := Lm.nil : Lk Kd }), (y2.snd.2), ({ epochs := true, work := gw, at_ := ga, p := gp, thresh := gth, l := upf (upf gl work ({ epochs := true, work := gw, at_ := ga, p := gp, thresh := gth, l := gl : Gd }.l work)) work [] : Gd })))) (fun y3 =>
                  (cond (y3.fst == y3.snd.length && !y3.snd.isEmpty && (105 : TypeId) == 105)
                    (some ((w64 (times - (1 : Int)) == (0 : Int)), ({ work := work, since := false, times := w64 (times - (1 : Int)), m := Lm.nil : Lk Kd }), (y2.snd.2), ({ epochs := true, work := gw, at_ := ga, p := gp, thresh := gth, l := upf (upf gl work ({ epochs := true, work := gw, at_ := ga, p := gp, thresh := gth, l := gl : Gd }.l work)) work y3.snd : Gd })))
                    none)))
                (some (false, ({ work := work, since := false, times := w64 (times - (1 : Int)), m := Lm.turn y2.snd.fst : Lk Kd }), (y2.snd.2), ({ epochs := true, work := gw, at_ := ga, p := gp, thresh := gth, l := upf gl work ({ epochs := true, work := gw, at_ := ga, p := gp, thresh := gth, l := gl : Gd }.l work) : Gd })))))
            none)))
      (some ((times == (0 : Int)), ({ work := work, since := false, times := times, m := Lm.nil : Lk Kd }), (a), ({ epochs := true, work := gw, at_ := ga, p := gp, thresh := gth, l := gl : Gd }))))
  | ⟨work, false, times, .turn s⟩, ⟨true, gw, ga, gp, gth, gl⟩ =>
    (Option.bind (m156 s a) fun y1 =>
      (cond (y1.fst)
        (bind2 (m141 y1.snd.fst) (fun y2 =>
          (some ((times == (0 : Int)), ({ work := work, since := false, times := times, m := Lm.nil : Lk Kd }), (y1.snd.2), ({ epochs := true, work := gw, at_ := ga, p := gp, thresh := gth, l := upf gl work [] : Gd })))) (fun y2 =>
          (cond (y2.fst == y2.snd.length && !y2.snd.isEmpty && (105 : TypeId) == 105)
            (some ((times == (0 : Int)), ({ work := work, since := false, times := times, m := Lm.nil : Lk Kd }), (y1.snd.2), ({ epochs := true, work := gw, at_ := ga, p := gp, thresh := gth, l := upf gl work y2.snd : Gd })))
            none)))
        (some (false, ({ work := work, since := false, times := times, m := Lm.turn y1.snd.fst : Lk Kd }), (y1.snd.2), ({ epochs := true, work := gw, at_ := ga, p := gp, thresh := gth, l := gl : Gd })))))
  | _, _ => none
def sh139  (y : Bool × Lk Kd × Ar × Gd) : LV × List (Option (LO Kd)) := (.bool (y.1), [some (.abs (.look (y.2.1)) [2]), some (.abs (.arena (y.2.2.1)) []), some (.abs (.guard (y.2.2.2)) [])])
theorem tree139_1 (work : Int) (times : Int) (gw : Int) (ga : Int) (gp : Pl) (gth : Int) (gl : Int → List (Int × Int)) (a : Ar) : ∀ r, (m139 (⟨work, false, times, .nil⟩) a (⟨false, gw, ga, gp, gth, gl⟩)).map sh139 = some r → (derS body (mkEnv E139 noLoops) Try.f139 [0, 2] (fun _ => [(0, rLook), (2, rGuard)]) [.ptr 0 0, .ptr 1 0] [some (.abs (.look (⟨work, false, times, .nil⟩)) [2]), some (.abs (.arena a) []), some (.abs (.guard (⟨false, gw, ga, gp, gth, gl⟩)) [])]).eval = some r := fun r h => Eq.trans (by kernel_rfl) ((le_cond (le_cond le_none (le_cond (le_bind fun y1 => (le_cond (le_bind fun y2 => (le_cond (le_bind2 (fun y3 => le_some) (fun y3 => (le_cond (le_cond le_some le_none) le_none))) le_some)) le_none)) le_none)) le_some) r h)
theorem tree139_2 (work : Int) (times : Int) (s : Sc Kd) (gw : Int) (ga : Int) (gp : Pl) (gth : Int) (gl : Int → List (Int × Int)) (a : Ar) : ∀ r, (m139 (⟨work, false, times, .scan s⟩) a (⟨false, gw, ga, gp, gth, gl⟩)).map sh139 = some r → (derS body (mkEnv E139 noLoops) Try.f139 [0, 2] (fun _ => [(0, rLook), (2, rGuard)]) [.ptr 0 0, .ptr 1 0] [some (.abs (.look (⟨work, false, times, .scan s⟩)) [2]), some (.abs (.arena a) []), some (.abs (.guard (⟨false, gw, ga, gp, gth, gl⟩)) [])]).eval = some r := fun r h => Eq.trans (by kernel_rfl) ((le_bind fun y1 => (le_cond (le_bind2 (fun y2 => le_some) (fun y2 => (le_cond (le_cond le_some le_none) le_none))) le_some)) r h)
theorem tree139_3 (work : Int) (times : Int) (gw : Int) (ga : Int) (gp : Pl) (gth : Int) (gl : Int → List (Int × Int)) (a : Ar) : ∀ r, (m139 (⟨work, true, times, .nil⟩) a (⟨true, gw, ga, gp, gth, gl⟩)).map sh139 = some r → (derS body (mkEnv E139 noLoops) Try.f139 [0, 2] (fun _ => [(0, rLook), (2, rGuard)]) [.ptr 0 0, .ptr 1 0] [some (.abs (.look (⟨work, true, times, .nil⟩)) [2]), some (.abs (.arena a) []), some (.abs (.guard (⟨true, gw, ga, gp, gth, gl⟩)) [])]).eval = some r := fun r h => Eq.trans (by kernel_rfl) ((le_cond (le_cond le_none le_none) (le_cond (le_cond (le_cond (le_cond le_some le_none) le_none) le_none) le_none)) r h)
theorem tree139_4 (work : Int) (times : Int) (gw : Int) (ga : Int) (gp : Pl) (gth : Int) (gl : Int → List (Int × Int)) (a : Ar) : ∀ r, (m139 (⟨work, false, times, .nil⟩) a (⟨true, gw, ga, gp, gth, gl⟩)).map sh139 = some r → (derS body (mkEnv E139 noLoops) Try.f139 [0, 2] (fun _ => [(0, rLook), (2, rGuard)]) [.ptr 0 0, .ptr 1 0] [some (.abs (.look (⟨work, false, times, .nil⟩)) [2]), some (.abs (.arena a) []), some (.abs (.guard (⟨true, gw, ga, gp, gth, gl⟩)) [])]).eval = some r := fun r h => Eq.trans (by kernel_rfl) ((le_cond (le_cond (le_bind fun y1 => (le_cond (le_bind2 (fun y2 => le_some) (fun y2 => (le_cond le_some le_none))) le_some)) (le_bind fun y1 => (le_cond (le_bind fun y2 => (le_cond (le_bind2 (fun y3 => le_some) (fun y3 => (le_cond le_some le_none))) le_some)) le_none))) le_some) r h)
theorem tree139_5 (work : Int) (times : Int) (s : Tn Kd) (gw : Int) (ga : Int) (gp : Pl) (gth : Int) (gl : Int → List (Int × Int)) (a : Ar) : ∀ r, (m139 (⟨work, false, times, .turn s⟩) a (⟨true, gw, ga, gp, gth, gl⟩)).map sh139 = some r → (derS body (mkEnv E139 noLoops) Try.f139 [0, 2] (fun _ => [(0, rLook), (2, rGuard)]) [.ptr 0 0, .ptr 1 0] [some (.abs (.look (⟨work, false, times, .turn s⟩)) [2]), some (.abs (.arena a) []), some (.abs (.guard (⟨true, gw, ga, gp, gth, gl⟩)) [])]).eval = some r := fun r h => Eq.trans (by kernel_rfl) ((le_bind fun y1 => (le_cond (le_bind2 (fun y2 => le_some) (fun y2 => (le_cond le_some le_none))) le_some)) r h)
def S139 : Summ Kd := fun args cs => match args, cs with
  | [.ptr 0 0, .ptr 1 0], [some (.abs (.look x) [2]), some (.abs (.arena a) []), some (.abs (.guard g) [])] => ans (m139 x a g) sh139
  | _, _ => .bad 0
theorem fact139 : Fact 139 S139 := fact_of (l := E139) ⟨fact63, fact107, fact30, fact140, fact156, fact157, trivial⟩ Try.func139 rfl Try.call139 (opens := [0, 2]) (shuts := (fun _ => [(0, rLook), (2, rGuard)])) (fun v x h => by
    simp only [List.mem_cons, List.not_mem_nil, or_false] at h
    rcases h with rfl | rfl
    · exact rLook_ok
    · exact rGuard_ok) (by
  intro args cs r h
  unfold S139 at h
  split at h
  · have h := eval_ans h
    unfold m139 at h
    split at h
    · exact tree139_1 _ _ _ _ _ _ _ _ _ h
    · exact tree139_2 _ _ _ _ _ _ _ _ _ _ h
    · exact tree139_3 _ _ _ _ _ _ _ _ _ h
    · exact tree139_4 _ _ _ _ _ _ _ _ _ h
    · exact tree139_5 _ _ _ _ _ _ _ _ _ _ h
    · cases h
  · cases h)
noncomputable def E19 : List (FuncId × Summ Kd) := [(62, S62), (63, S63)]
def m19 (g : Gd) (a : Ar) (work : Int) (h : Int) : Option ((Gd × Ar) ⊕ (Gd × Ar × Lk Kd)) := match g with
  | ⟨true, gw, ga, gp, gth, gl⟩ =>
    (cond (({ epochs := true, work := gw, at_ := ga, p := gp, thresh := gth, l := gl : Gd }.l work).isEmpty)
      (cond ((upf gl work [(h, (0 : Int))] work).isEmpty)
        (cond (decide ((0 : Int) ≥ gth))
          (some (Sum.inr (({ epochs := true, work := gw, at_ := ga, p := gp, thresh := gth, l := upf gl work [(h, (0 : Int))] : Gd }), (a.retire h), ({ work := work, since := true, times := (1 : Int), m := Lm.nil : Lk Kd }))))
          (some (Sum.inr (({ epochs := true, work := gw, at_ := ga, p := gp, thresh := gth, l := upf gl work [(h, (0 : Int))] : Gd }), (a.retire h), ({ work := work, since := true, times := (0 : Int), m := Lm.nil : Lk Kd })))))
        (cond (decide ((↑(upf gl work [(h, (0 : Int))] work).length : Int) ≥ gth))
          (cond ((upf gl work [(h, (0 : Int))] work).length == (upf gl work [(h, (0 : Int))] work).length)
            (some (Sum.inr (({ epochs := true, work := gw, at_ := ga, p := gp, thresh := gth, l := upf (upf gl work [(h, (0 : Int))]) work (upf gl work [(h, (0 : Int))] work) : Gd }), (a.retire h), ({ work := work, since := true, times := (1 : Int), m := Lm.nil : Lk Kd }))))
            none)
          (cond ((upf gl work [(h, (0 : Int))] work).length == (upf gl work [(h, (0 : Int))] work).length)
            (some (Sum.inr (({ epochs := true, work := gw, at_ := ga, p := gp, thresh := gth, l := upf (upf gl work [(h, (0 : Int))]) work (upf gl work [(h, (0 : Int))] work) : Gd }), (a.retire h), ({ work := work, since := true, times := (0 : Int), m := Lm.nil : Lk Kd }))))
            none)))
      (cond (({ epochs := true, work := gw, at_ := ga, p := gp, thresh := gth, l := gl : Gd }.l work).length == ({ epochs := true, work := gw, at_ := ga, p := gp, thresh := gth, l := gl : Gd }.l work).length && decide (({ epochs := true, work := gw, at_ := ga, p := gp, thresh := gth, l := gl : Gd }.l work).length + (1 : Nat) ≤ (1048576 : Nat)))
        (cond (work == work)
          (cond (({ epochs := true, work := gw, at_ := ga, p := gp, thresh := gth, l := gl : Gd }.l work).length + (1 : Nat) == ({ epochs := true, work := gw, at_ := ga, p := gp, thresh := gth, l := gl : Gd }.l work ++ [(h, (0 : Int))]).length && !({ epochs := true, work := gw, at_ := ga, p := gp, thresh := gth, l := gl : Gd }.l work ++ [(h, (0 : Int))]).isEmpty && (105 : Nat) == 105)
            (cond ((upf gl work ({ epochs := true, work := gw, at_ := ga, p := gp, thresh := gth, l := gl : Gd }.l work ++ [(h, (0 : Int))]) work).isEmpty)
              (cond (decide ((0 : Int) ≥ gth))
                (some (Sum.inr (({ epochs := true, work := gw, at_ := ga, p := gp, thresh := gth, l := upf gl work ({ epochs := true, work := gw, at_ := ga, p := gp, thresh := gth, l := gl : Gd }.l work ++ [(h, (0 : Int))]) : Gd }), (a.retire h), ({ work := work, since := true, times := (1 : Int), m := Lm.nil : Lk Kd }))))
                (some (Sum.inr (({ epochs := true, work := gw, at_ := ga, p := gp, thresh := gth, l := upf gl work ({ epochs := true, work := gw, at_ := ga, p := gp, thresh := gth, l := gl : Gd }.l work ++ [(h, (0 : Int))]) : Gd }), (a.retire h), ({ work := work, since := true, times := (0 : Int), m := Lm.nil : Lk Kd })))))
              (cond (decide ((↑(upf gl work ({ epochs := true, work := gw, at_ := ga, p := gp, thresh := gth, l := gl : Gd }.l work ++ [(h, (0 : Int))]) work).length : Int) ≥ gth))
                (cond ((upf gl work ({ epochs := true, work := gw, at_ := ga, p := gp, thresh := gth, l := gl : Gd }.l work ++ [(h, (0 : Int))]) work).length == (upf gl work ({ epochs := true, work := gw, at_ := ga, p := gp, thresh := gth, l := gl : Gd }.l work ++ [(h, (0 : Int))]) work).length)
                  (some (Sum.inr (({ epochs := true, work := gw, at_ := ga, p := gp, thresh := gth, l := upf (upf gl work ({ epochs := true, work := gw, at_ := ga, p := gp, thresh := gth, l := gl : Gd }.l work ++ [(h, (0 : Int))])) work (upf gl work ({ epochs := true, work := gw, at_ := ga, p := gp, thresh := gth, l := gl : Gd }.l work ++ [(h, (0 : Int))]) work) : Gd }), (a.retire h), ({ work := work, since := true, times := (1 : Int), m := Lm.nil : Lk Kd }))))
                  none)
                (cond ((upf gl work ({ epochs := true, work := gw, at_ := ga, p := gp, thresh := gth, l := gl : Gd }.l work ++ [(h, (0 : Int))]) work).length == (upf gl work ({ epochs := true, work := gw, at_ := ga, p := gp, thresh := gth, l := gl : Gd }.l work ++ [(h, (0 : Int))]) work).length)
                  (some (Sum.inr (({ epochs := true, work := gw, at_ := ga, p := gp, thresh := gth, l := upf (upf gl work ({ epochs := true, work := gw, at_ := ga, p := gp, thresh := gth, l := gl : Gd }.l work ++ [(h, (0 : Int))])) work (upf gl work ({ epochs := true, work := gw, at_ := ga, p := gp, thresh := gth, l := gl : Gd }.l work ++ [(h, (0 : Int))]) work) : Gd }), (a.retire h), ({ work := work, since := true, times := (0 : Int), m := Lm.nil : Lk Kd }))))
                  none)))
            none)
          none)
        none))
  | ⟨false, gw, ga, gp, gth, gl⟩ =>
    (cond (({ epochs := false, work := gw, at_ := ga, p := gp, thresh := gth, l := gl : Gd }.l work).isEmpty)
      (cond ((upf gl work [(h, (0 : Int))] work).isEmpty)
        (cond (decide ((0 : Int) ≥ gth))
          (cond ((upf gl work [(h, (0 : Int))] work).isEmpty)
            none
            (cond (decide ((upf gl work [(h, (0 : Int))] work).length = (upf gl work [(h, (0 : Int))] work).length ∧ upf gl work [(h, (0 : Int))] work ≠ [] ∧ (upf gl work [(h, (0 : Int))] work).length ≤ (1048576 : Nat)))
              (Option.bind (m93 gw ga gp.work gp.heads gp.links gp.gens gp.carved work (upf gl work [(h, (0 : Int))] work).length (List.map (fun x => x.fst) (upf gl work [(h, (0 : Int))] work))) fun y1 =>
                (cond ((upf gl work [(h, (0 : Int))] work).length == (upf gl work [(h, (0 : Int))] work).length)
                  (some (Sum.inr (({ epochs := false, work := gw, at_ := ga, p := gp, thresh := gth, l := upf (upf gl work [(h, (0 : Int))]) work (upf gl work [(h, (0 : Int))] work) : Gd }), (a.retire h), ({ work := work, since := false, times := w64 ((1 : Int) - (1 : Int)), m := Lm.scan y1 : Lk Kd }))))
                  none))
              none))
          (some (Sum.inl (({ epochs := false, work := gw, at_ := ga, p := gp, thresh := gth, l := upf gl work [(h, (0 : Int))] : Gd }), (a.retire h)))))
        (cond (decide ((↑(upf gl work [(h, (0 : Int))] work).length : Int) ≥ gth))
          (cond (work == work)
            (cond (decide ((upf gl work [(h, (0 : Int))] work).length = (upf gl work [(h, (0 : Int))] work).length ∧ upf gl work [(h, (0 : Int))] work ≠ [] ∧ (upf gl work [(h, (0 : Int))] work).length ≤ (1048576 : Nat)))
              (Option.bind (m93 gw ga gp.work gp.heads gp.links gp.gens gp.carved work (upf gl work [(h, (0 : Int))] work).length (List.map (fun x => x.fst) (upf gl work [(h, (0 : Int))] work))) fun y1 =>
                (cond ((upf gl work [(h, (0 : Int))] work).length == (upf gl work [(h, (0 : Int))] work).length)
                  (some (Sum.inr (({ epochs := false, work := gw, at_ := ga, p := gp, thresh := gth, l := upf (upf gl work [(h, (0 : Int))]) work (upf gl work [(h, (0 : Int))] work) : Gd }), (a.retire h), ({ work := work, since := false, times := w64 ((1 : Int) - (1 : Int)), m := Lm.scan y1 : Lk Kd }))))
                  none))
              none)
            none)
          (cond ((upf gl work [(h, (0 : Int))] work).length == (upf gl work [(h, (0 : Int))] work).length)
            (some (Sum.inl (({ epochs := false, work := gw, at_ := ga, p := gp, thresh := gth, l := upf (upf gl work [(h, (0 : Int))]) work (upf gl work [(h, (0 : Int))] work) : Gd }), (a.retire h))))
            none)))
      (cond (({ epochs := false, work := gw, at_ := ga, p := gp, thresh := gth, l := gl : Gd }.l work).length == ({ epochs := false, work := gw, at_ := ga, p := gp, thresh := gth, l := gl : Gd }.l work).length && decide (({ epochs := false, work := gw, at_ := ga, p := gp, thresh := gth, l := gl : Gd }.l work).length + (1 : Nat) ≤ (1048576 : Nat)))
        (cond (work == work)
          (cond (({ epochs := false, work := gw, at_ := ga, p := gp, thresh := gth, l := gl : Gd }.l work).length + (1 : Nat) == ({ epochs := false, work := gw, at_ := ga, p := gp, thresh := gth, l := gl : Gd }.l work ++ [(h, (0 : Int))]).length && !({ epochs := false, work := gw, at_ := ga, p := gp, thresh := gth, l := gl : Gd }.l work ++ [(h, (0 : Int))]).isEmpty && (105 : Nat) == 105)
            (cond ((upf gl work ({ epochs := false, work := gw, at_ := ga, p := gp, thresh := gth, l := gl : Gd }.l work ++ [(h, (0 : Int))]) work).isEmpty)
              (cond (decide ((0 : Int) ≥ gth))
                (cond ((upf gl work ({ epochs := false, work := gw, at_ := ga, p := gp, thresh := gth, l := gl : Gd }.l work ++ [(h, (0 : Int))]) work).isEmpty)
                  none
                  (cond (decide ((upf gl work ({ epochs := false, work := gw, at_ := ga, p := gp, thresh := gth, l := gl : Gd }.l work ++ [(h, (0 : Int))]) work).length = (upf gl work ({ epochs := false, work := gw, at_ := ga, p := gp, thresh := gth, l := gl : Gd }.l work ++ [(h, (0 : Int))]) work).length ∧ upf gl work ({ epochs := false, work := gw, at_ := ga, p := gp, thresh := gth, l := gl : Gd }.l work ++ [(h, (0 : Int))]) work ≠ [] ∧ (upf gl work ({ epochs := false, work := gw, at_ := ga, p := gp, thresh := gth, l := gl : Gd }.l work ++ [(h, (0 : Int))]) work).length ≤ (1048576 : Nat)))
                    (Option.bind (m93 gw ga gp.work gp.heads gp.links gp.gens gp.carved work (upf gl work ({ epochs := false, work := gw, at_ := ga, p := gp, thresh := gth, l := gl : Gd }.l work ++ [(h, (0 : Int))]) work).length (List.map (fun x => x.fst) (upf gl work ({ epochs := false, work := gw, at_ := ga, p := gp, thresh := gth, l := gl : Gd }.l work ++ [(h, (0 : Int))]) work))) fun y1 =>
                      (cond ((upf gl work ({ epochs := false, work := gw, at_ := ga, p := gp, thresh := gth, l := gl : Gd }.l work ++ [(h, (0 : Int))]) work).length == (upf gl work ({ epochs := false, work := gw, at_ := ga, p := gp, thresh := gth, l := gl : Gd }.l work ++ [(h, (0 : Int))]) work).length)
                        (some (Sum.inr (({ epochs := false, work := gw, at_ := ga, p := gp, thresh := gth, l := upf (upf gl work ({ epochs := false, work := gw, at_ := ga, p := gp, thresh := gth, l := gl : Gd }.l work ++ [(h, (0 : Int))])) work (upf gl work ({ epochs := false, work := gw, at_ := ga, p := gp, thresh := gth, l := gl : Gd }.l work ++ [(h, (0 : Int))]) work) : Gd }), (a.retire h), ({ work := work, since := false, times := w64 ((1 : Int) - (1 : Int)), m := Lm.scan y1 : Lk Kd }))))
                        none))
                    none))
                (some (Sum.inl (({ epochs := false, work := gw, at_ := ga, p := gp, thresh := gth, l := upf gl work ({ epochs := false, work := gw, at_ := ga, p := gp, thresh := gth, l := gl : Gd }.l work ++ [(h, (0 : Int))]) : Gd }), (a.retire h)))))
              (cond (decide ((↑(upf gl work ({ epochs := false, work := gw, at_ := ga, p := gp, thresh := gth, l := gl : Gd }.l work ++ [(h, (0 : Int))]) work).length : Int) ≥ gth))
                (cond (work == work)
                  (cond (decide ((upf gl work ({ epochs := false, work := gw, at_ := ga, p := gp, thresh := gth, l := gl : Gd }.l work ++ [(h, (0 : Int))]) work).length = (upf gl work ({ epochs := false, work := gw, at_ := ga, p := gp, thresh := gth, l := gl : Gd }.l work ++ [(h, (0 : Int))]) work).length ∧ upf gl work ({ epochs := false, work := gw, at_ := ga, p := gp, thresh := gth, l := gl : Gd }.l work ++ [(h, (0 : Int))]) work ≠ [] ∧ (upf gl work ({ epochs := false, work := gw, at_ := ga, p := gp, thresh := gth, l := gl : Gd }.l work ++ [(h, (0 : Int))]) work).length ≤ (1048576 : Nat)))
                    (Option.bind (m93 gw ga gp.work gp.heads gp.links gp.gens gp.carved work (upf gl work ({ epochs := false, work := gw, at_ := ga, p := gp, thresh := gth, l := gl : Gd }.l work ++ [(h, (0 : Int))]) work).length (List.map (fun x => x.fst) (upf gl work ({ epochs := false, work := gw, at_ := ga, p := gp, thresh := gth, l := gl : Gd }.l work ++ [(h, (0 : Int))]) work))) fun y1 =>
                      (cond ((upf gl work ({ epochs := false, work := gw, at_ := ga, p := gp, thresh := gth, l := gl : Gd }.l work ++ [(h, (0 : Int))]) work).length == (upf gl work ({ epochs := false, work := gw, at_ := ga, p := gp, thresh := gth, l := gl : Gd }.l work ++ [(h, (0 : Int))]) work).length)
                        (some (Sum.inr (({ epochs := false, work := gw, at_ := ga, p := gp, thresh := gth, l := upf (upf gl work ({ epochs := false, work := gw, at_ := ga, p := gp, thresh := gth, l := gl : Gd }.l work ++ [(h, (0 : Int))])) work (upf gl work ({ epochs := false, work := gw, at_ := ga, p := gp, thresh := gth, l := gl : Gd }.l work ++ [(h, (0 : Int))]) work) : Gd }), (a.retire h), ({ work := work, since := false, times := w64 ((1 : Int) - (1 : Int)), m := Lm.scan y1 : Lk Kd }))))
                        none))
                    none)
                  none)
                (cond ((upf gl work ({ epochs := false, work := gw, at_ := ga, p := gp, thresh := gth, l := gl : Gd }.l work ++ [(h, (0 : Int))]) work).length == (upf gl work ({ epochs := false, work := gw, at_ := ga, p := gp, thresh := gth, l := gl : Gd }.l work ++ [(h, (0 : Int))]) work).length)
                  (some (Sum.inl (({ epochs := false, work := gw, at_ := ga, p := gp, thresh := gth, l := upf (upf gl work ({ epochs := false, work := gw, at_ := ga, p := gp, thresh := gth, l := gl : Gd }.l work ++ [(h, (0 : Int))])) work (upf gl work ({ epochs := false, work := gw, at_ := ga, p := gp, thresh := gth, l := gl : Gd }.l work ++ [(h, (0 : Int))]) work) : Gd }), (a.retire h))))
                  none)))
            none)
          none)
        none))
def sh19a  (y : Gd × Ar) : LV × List (Option (LO Kd)) := (.nili, [some (.abs (.guard (y.1)) []), some (.abs (.arena (y.2)) [])])
def sh19b  (y : Gd × Ar × Lk Kd) : LV × List (Option (LO Kd)) := (.ifc 111 (.ptr 2 0), [some (.abs (.guard (y.1)) []), some (.abs (.arena (y.2.1)) []), some (.abs (.look (y.2.2)) [0])])
theorem tree19_1 (gw : Int) (ga : Int) (gp : Pl) (gth : Int) (gl : Int → List (Int × Int)) (a : Ar) (work : Int) (h : Int) : ∀ r, (m19 (⟨true, gw, ga, gp, gth, gl⟩) a work h).map (Sum.elim sh19a sh19b) = some r → (derS body (mkEnv E19 noLoops) Try.f19 [0] shG [.ptr 0 0, .ptr 1 0, .int .i64 work, .int .i64 h] [some (.abs (.guard (⟨true, gw, ga, gp, gth, gl⟩)) []), some (.abs (.arena a) [])]).eval = some r := fun r h => Eq.trans (by kernel_rfl) ((le_cond (le_cond (le_cond le_some le_some) (le_cond (le_cond le_some le_none) (le_cond le_some le_none))) (le_cond (le_cond (le_cond (le_cond (le_cond le_some le_some) (le_cond (le_cond le_some le_none) (le_cond le_some le_none))) le_none) le_none) le_none)) r h)
theorem tree19_2 (gw : Int) (ga : Int) (gp : Pl) (gth : Int) (gl : Int → List (Int × Int)) (a : Ar) (work : Int) (h : Int) : ∀ r, (m19 (⟨false, gw, ga, gp, gth, gl⟩) a work h).map (Sum.elim sh19a sh19b) = some r → (derS body (mkEnv E19 noLoops) Try.f19 [0] shG [.ptr 0 0, .ptr 1 0, .int .i64 work, .int .i64 h] [some (.abs (.guard (⟨false, gw, ga, gp, gth, gl⟩)) []), some (.abs (.arena a) [])]).eval = some r := fun r h => Eq.trans (by kernel_rfl) ((le_cond (le_cond (le_cond (le_cond le_none (le_cond (le_bind fun y1 => (le_cond le_some le_none)) le_none)) le_some) (le_cond (le_cond (le_cond (le_bind fun y1 => (le_cond le_some le_none)) le_none) le_none) (le_cond le_some le_none))) (le_cond (le_cond (le_cond (le_cond (le_cond (le_cond le_none (le_cond (le_bind fun y1 => (le_cond le_some le_none)) le_none)) le_some) (le_cond (le_cond (le_cond (le_bind fun y1 => (le_cond le_some le_none)) le_none) le_none) (le_cond le_some le_none))) le_none) le_none) le_none)) r h)
def S19 : Summ Kd := fun args cs => match args, cs with
  | [.ptr 0 0, .ptr 1 0, .int .i64 work, .int .i64 h], [some (.abs (.guard g) []), some (.abs (.arena a) [])] => ans2 (m19 g a work h) sh19a sh19b
  | _, _ => .bad 0
theorem fact19 : Fact 19 S19 := fact_of (l := E19) ⟨fact62, fact63, trivial⟩ Try.func19 rfl Try.call19 (opens := [0]) (shuts := shG) shG_ok (by
  intro args cs r h
  unfold S19 at h
  split at h
  · have h := eval_ans2 h
    unfold m19 at h
    split at h
    · exact tree19_1 _ _ _ _ _ _ _ _ _ h
    · exact tree19_2 _ _ _ _ _ _ _ _ _ h
  · cases h)
noncomputable def E25 : List (FuncId × Summ Kd) := [(63, S63)]
def m25 (g : Gd) (work : Int) : Option ((Gd) ⊕ (Gd × Lk Kd)) := match g with
  | ⟨true, gw, ga, gp, gth, gl⟩ =>
    (cond (({ epochs := true, work := gw, at_ := ga, p := gp, thresh := gth, l := gl : Gd }.l work).isEmpty)
      (some (Sum.inl (({ epochs := true, work := gw, at_ := ga, p := gp, thresh := gth, l := gl : Gd }))))
      (cond ((↑({ epochs := true, work := gw, at_ := ga, p := gp, thresh := gth, l := gl : Gd }.l work).length : Int) == (0 : Int))
        (cond (({ epochs := true, work := gw, at_ := ga, p := gp, thresh := gth, l := gl : Gd }.l work).length == ({ epochs := true, work := gw, at_ := ga, p := gp, thresh := gth, l := gl : Gd }.l work).length)
          (some (Sum.inl (({ epochs := true, work := gw, at_ := ga, p := gp, thresh := gth, l := upf gl work ({ epochs := true, work := gw, at_ := ga, p := gp, thresh := gth, l := gl : Gd }.l work) : Gd }))))
          none)
        (cond (work == work)
          (Option.bind (m92v gw ga gp.work gp.heads gp.links gp.gens gp.carved work ({ epochs := true, work := gw, at_ := ga, p := gp, thresh := gth, l := gl : Gd }.l work).length ({ epochs := true, work := gw, at_ := ga, p := gp, thresh := gth, l := gl : Gd }.l work)) fun y1 =>
            (cond (({ epochs := true, work := gw, at_ := ga, p := gp, thresh := gth, l := gl : Gd }.l work).length == ({ epochs := true, work := gw, at_ := ga, p := gp, thresh := gth, l := gl : Gd }.l work).length)
              (some (Sum.inr (({ epochs := true, work := gw, at_ := ga, p := gp, thresh := gth, l := upf gl work ({ epochs := true, work := gw, at_ := ga, p := gp, thresh := gth, l := gl : Gd }.l work) : Gd }), ({ work := work, since := false, times := w64 ((3 : Int) - (1 : Int)), m := Lm.turn y1 : Lk Kd }))))
              none))
          none)))
  | ⟨false, gw, ga, gp, gth, gl⟩ =>
    (cond (({ epochs := false, work := gw, at_ := ga, p := gp, thresh := gth, l := gl : Gd }.l work).isEmpty)
      (some (Sum.inl (({ epochs := false, work := gw, at_ := ga, p := gp, thresh := gth, l := gl : Gd }))))
      (cond ((↑({ epochs := false, work := gw, at_ := ga, p := gp, thresh := gth, l := gl : Gd }.l work).length : Int) == (0 : Int))
        (cond (({ epochs := false, work := gw, at_ := ga, p := gp, thresh := gth, l := gl : Gd }.l work).length == ({ epochs := false, work := gw, at_ := ga, p := gp, thresh := gth, l := gl : Gd }.l work).length)
          (some (Sum.inl (({ epochs := false, work := gw, at_ := ga, p := gp, thresh := gth, l := upf gl work ({ epochs := false, work := gw, at_ := ga, p := gp, thresh := gth, l := gl : Gd }.l work) : Gd }))))
          none)
        (cond (work == work)
          (cond (decide (({ epochs := false, work := gw, at_ := ga, p := gp, thresh := gth, l := gl : Gd }.l work).length = ({ epochs := false, work := gw, at_ := ga, p := gp, thresh := gth, l := gl : Gd }.l work).length ∧ { epochs := false, work := gw, at_ := ga, p := gp, thresh := gth, l := gl : Gd }.l work ≠ [] ∧ ({ epochs := false, work := gw, at_ := ga, p := gp, thresh := gth, l := gl : Gd }.l work).length ≤ (1048576 : Nat)))
            (Option.bind (m93 gw ga gp.work gp.heads gp.links gp.gens gp.carved work ({ epochs := false, work := gw, at_ := ga, p := gp, thresh := gth, l := gl : Gd }.l work).length (List.map (fun x => x.fst) ({ epochs := false, work := gw, at_ := ga, p := gp, thresh := gth, l := gl : Gd }.l work))) fun y1 =>
              (cond (({ epochs := false, work := gw, at_ := ga, p := gp, thresh := gth, l := gl : Gd }.l work).length == ({ epochs := false, work := gw, at_ := ga, p := gp, thresh := gth, l := gl : Gd }.l work).length)
                (some (Sum.inr (({ epochs := false, work := gw, at_ := ga, p := gp, thresh := gth, l := upf gl work ({ epochs := false, work := gw, at_ := ga, p := gp, thresh := gth, l := gl : Gd }.l work) : Gd }), ({ work := work, since := false, times := w64 ((1 : Int) - (1 : Int)), m := Lm.scan y1 : Lk Kd }))))
                none))
            none)
          none)))
def sh25a  (y : Gd) : LV × List (Option (LO Kd)) := (.nili, [some (.abs (.guard y) [])])
def sh25b  (y : Gd × Lk Kd) : LV × List (Option (LO Kd)) := (.ifc 111 (.ptr 1 0), [some (.abs (.guard (y.1)) []), some (.abs (.look (y.2)) [0])])
theorem tree25_1 (gw : Int) (ga : Int) (gp : Pl) (gth : Int) (gl : Int → List (Int × Int)) (work : Int) : ∀ r, (m25 (⟨true, gw, ga, gp, gth, gl⟩) work).map (Sum.elim sh25a sh25b) = some r → (derS body (mkEnv E25 noLoops) Try.f25 [0] shG [.ptr 0 0, .int .i64 work] [some (.abs (.guard (⟨true, gw, ga, gp, gth, gl⟩)) [])]).eval = some r := fun r h => Eq.trans (by kernel_rfl) ((le_cond le_some (le_cond (le_cond le_some le_none) (le_cond (le_bind fun y1 => (le_cond le_some le_none)) le_none))) r h)
theorem tree25_2 (gw : Int) (ga : Int) (gp : Pl) (gth : Int) (gl : Int → List (Int × Int)) (work : Int) : ∀ r, (m25 (⟨false, gw, ga, gp, gth, gl⟩) work).map (Sum.elim sh25a sh25b) = some r → (derS body (mkEnv E25 noLoops) Try.f25 [0] shG [.ptr 0 0, .int .i64 work] [some (.abs (.guard (⟨false, gw, ga, gp, gth, gl⟩)) [])]).eval = some r := fun r h => Eq.trans (by kernel_rfl) ((le_cond le_some (le_cond (le_cond le_some le_none) (le_cond (le_cond (le_bind fun y1 => (le_cond le_some le_none)) le_none) le_none))) r h)
def S25 : Summ Kd := fun args cs => match args, cs with
  | [.ptr 0 0, .int .i64 work], [some (.abs (.guard g) [])] => ans2 (m25 g work) sh25a sh25b
  | _, _ => .bad 0
theorem fact25 : Fact 25 S25 := fact_of (l := E25) ⟨fact63, trivial⟩ Try.func25 rfl Try.call25 (opens := [0]) (shuts := shG) shG_ok (by
  intro args cs r h
  unfold S25 at h
  split at h
  · have h := eval_ans2 h
    unfold m25 at h
    split at h
    · exact tree25_1 _ _ _ _ _ _ _ h
    · exact tree25_2 _ _ _ _ _ _ _ h
  · cases h)
noncomputable def E26 : List (FuncId × Summ Kd) := [(64, S64)]
def m26 (g : Gd) (work : Int) : Option ((Gd) ⊕ (Gd × Pn)) := match g with
  | ⟨true, gw, ga, gp, gth, gl⟩ =>
    none /- 190 -/
  | ⟨false, gw, ga, gp, gth, gl⟩ =>
    (some (Sum.inl (({ epochs := false, work := gw, at_ := ga, p := gp, thresh := gth, l := gl : Gd }))))
def sh26a  (y : Gd) : LV × List (Option (LO Kd)) := (.nili, [some (.abs (.guard y) [])])
def sh26b  (y : Gd × Pn) : LV × List (Option (LO Kd)) := (.ifc 120 (.ptr 1 0), [some (.abs (.guard (y.1)) []), some (.abs (.pin (y.2)) [])])
theorem tree26_1 (gw : Int) (ga : Int) (gp : Pl) (gth : Int) (gl : Int → List (Int × Int)) (work : Int) : ∀ r, (m26 (⟨true, gw, ga, gp, gth, gl⟩) work).map (Sum.elim sh26a sh26b) = some r → (derS body (mkEnv E26 noLoops) Try.f26 [0] shG [.ptr 0 0, .int .i64 work] [some (.abs (.guard (⟨true, gw, ga, gp, gth, gl⟩)) [])]).eval = some r := fun r h => Eq.trans (by kernel_rfl) (le_none r h)
theorem tree26_2 (gw : Int) (ga : Int) (gp : Pl) (gth : Int) (gl : Int → List (Int × Int)) (work : Int) : ∀ r, (m26 (⟨false, gw, ga, gp, gth, gl⟩) work).map (Sum.elim sh26a sh26b) = some r → (derS body (mkEnv E26 noLoops) Try.f26 [0] shG [.ptr 0 0, .int .i64 work] [some (.abs (.guard (⟨false, gw, ga, gp, gth, gl⟩)) [])]).eval = some r := fun r h => Eq.trans (by kernel_rfl) (le_some r h)
def S26 : Summ Kd := fun args cs => match args, cs with
  | [.ptr 0 0, .int .i64 work], [some (.abs (.guard g) [])] => ans2 (m26 g work) sh26a sh26b
  | _, _ => .bad 0
theorem fact26 : Fact 26 S26 := fact_of (l := E26) ⟨fact64, trivial⟩ Try.func26 rfl Try.call26 (opens := [0]) (shuts := shG) shG_ok (by
  intro args cs r h
  unfold S26 at h
  split at h
  · have h := eval_ans2 h
    unfold m26 at h
    split at h
    · exact tree26_1 _ _ _ _ _ _ _ h
    · exact tree26_2 _ _ _ _ _ _ _ h
  · cases h)
noncomputable def E27 : List (FuncId × Summ Kd) := [(65, S65)]
def m27 (g : Gd) (work : Int) (slot : Int) (h : Int) : Option ((Gd) ⊕ (Gd × Se)) := match g with
  | ⟨true, gw, ga, gp, gth, gl⟩ =>
    (some (Sum.inl (({ epochs := true, work := gw, at_ := ga, p := gp, thresh := gth, l := gl : Gd }))))
  | ⟨false, gw, ga, gp, gth, gl⟩ =>
    (some (Sum.inr (({ epochs := false, work := gw, at_ := ga, p := gp, thresh := gth, l := gl : Gd }), ({ at_ := some ([w64 (w64 (ga + w64 ((2 : Int) * work)) + slot)], (1 : Nat)), v := h : Se }))))
def sh27a  (y : Gd) : LV × List (Option (LO Kd)) := (.nili, [some (.abs (.guard y) [])])
def sh27b  (y : Gd × Se) : LV × List (Option (LO Kd)) := (.ifc 122 (.ptr 1 0), [some (.abs (.guard (y.1)) []), some (.abs (.sets (y.2)) [])])
theorem tree27_1 (gw : Int) (ga : Int) (gp : Pl) (gth : Int) (gl : Int → List (Int × Int)) (work : Int) (slot : Int) (h : Int) : ∀ r, (m27 (⟨true, gw, ga, gp, gth, gl⟩) work slot h).map (Sum.elim sh27a sh27b) = some r → (derS body (mkEnv E27 noLoops) Try.f27 [0] shG [.ptr 0 0, .int .i64 work, .int .i64 slot, .int .i64 h] [some (.abs (.guard (⟨true, gw, ga, gp, gth, gl⟩)) [])]).eval = some r := fun r h => Eq.trans (by kernel_rfl) (le_some r h)
theorem tree27_2 (gw : Int) (ga : Int) (gp : Pl) (gth : Int) (gl : Int → List (Int × Int)) (work : Int) (slot : Int) (h : Int) : ∀ r, (m27 (⟨false, gw, ga, gp, gth, gl⟩) work slot h).map (Sum.elim sh27a sh27b) = some r → (derS body (mkEnv E27 noLoops) Try.f27 [0] shG [.ptr 0 0, .int .i64 work, .int .i64 slot, .int .i64 h] [some (.abs (.guard (⟨false, gw, ga, gp, gth, gl⟩)) [])]).eval = some r := fun r h => Eq.trans (by kernel_rfl) (le_some r h)
def S27 : Summ Kd := fun args cs => match args, cs with
  | [.ptr 0 0, .int .i64 work, .int .i64 slot, .int .i64 h], [some (.abs (.guard g) [])] => ans2 (m27 g work slot h) sh27a sh27b
  | _, _ => .bad 0
theorem fact27 : Fact 27 S27 := fact_of (l := E27) ⟨fact65, trivial⟩ Try.func27 rfl Try.call27 (opens := [0]) (shuts := shG) shG_ok (by
  intro args cs r h
  unfold S27 at h
  split at h
  · have h := eval_ans2 h
    unfold m27 at h
    split at h
    · exact tree27_1 _ _ _ _ _ _ _ _ _ h
    · exact tree27_2 _ _ _ _ _ _ _ _ _ h
  · cases h)
noncomputable def E28 : List (FuncId × Summ Kd) := [(65, S65), (66, S66)]
def m28 (g : Gd) (work : Int) : Option ((Gd × Se)) := match g with
  | ⟨true, gw, ga, gp, gth, gl⟩ =>
    (some (({ epochs := true, work := gw, at_ := ga, p := gp, thresh := gth, l := gl : Gd }), ({ at_ := some ([w64 (w64 (ga + (1 : Int)) + work)], (1 : Nat)), v := (0 : Int) : Se })))
  | ⟨false, gw, ga, gp, gth, gl⟩ =>
    (some (({ epochs := false, work := gw, at_ := ga, p := gp, thresh := gth, l := gl : Gd }), ({ at_ := some ([w64 (w64 (ga + w64 ((2 : Int) * work)) + (0 : Int))] ++ [w64 (w64 (ga + w64 ((2 : Int) * work)) + w64 ((0 : Int) + (1 : Int)))], [w64 (w64 (ga + w64 ((2 : Int) * work)) + (0 : Int))].length + [w64 (w64 (ga + w64 ((2 : Int) * work)) + w64 ((0 : Int) + (1 : Int)))].length), v := (0 : Int) : Se })))
def sh28  (y : Gd × Se) : LV × List (Option (LO Kd)) := (.ifc 122 (.ptr 1 0), [some (.abs (.guard (y.1)) []), some (.abs (.sets (y.2)) [])])
theorem tree28_1 (gw : Int) (ga : Int) (gp : Pl) (gth : Int) (gl : Int → List (Int × Int)) (work : Int) : ∀ r, (m28 (⟨true, gw, ga, gp, gth, gl⟩) work).map sh28 = some r → (derS body (mkEnv E28 noLoops) Try.f28 [0] shG [.ptr 0 0, .int .i64 work] [some (.abs (.guard (⟨true, gw, ga, gp, gth, gl⟩)) [])]).eval = some r := fun r h => Eq.trans (by kernel_rfl) (le_some r h)
theorem tree28_2 (gw : Int) (ga : Int) (gp : Pl) (gth : Int) (gl : Int → List (Int × Int)) (work : Int) : ∀ r, (m28 (⟨false, gw, ga, gp, gth, gl⟩) work).map sh28 = some r → (derS body (mkEnv E28 noLoops) Try.f28 [0] shG [.ptr 0 0, .int .i64 work] [some (.abs (.guard (⟨false, gw, ga, gp, gth, gl⟩)) [])]).eval = some r := fun r h => Eq.trans (by kernel_rfl) (le_some r h)
def S28 : Summ Kd := fun args cs => match args, cs with
  | [.ptr 0 0, .int .i64 work], [some (.abs (.guard g) [])] => ans (m28 g work) sh28
  | _, _ => .bad 0
theorem fact28 : Fact 28 S28 := fact_of (l := E28) ⟨fact65, fact66, trivial⟩ Try.func28 rfl Try.call28 (opens := [0]) (shuts := shG) shG_ok (by
  intro args cs r h
  unfold S28 at h
  split at h
  · have h := eval_ans h
    unfold m28 at h
    split at h
    · exact tree28_1 _ _ _ _ _ _ _ h
    · exact tree28_2 _ _ _ _ _ _ _ h
  · cases h)
end Go.Sx
