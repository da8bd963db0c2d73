/- Contracts: what the laws of guards share. No condition. -/
import Derived.Test.YtmofbdcmeafbkaaRows
import Derived.WalkKit
import Derived.ProofKit
import Derived.OpenShut
import Derived.Test.YtmofbdcmeafbkaaX4
import Derived.Test.YtmofbdcmeafbkaaX3
/- Contracts: what the laws of guards share. No condition. -/
set_option linter.unusedVariables false
set_option linter.unusedSimpArgs false
namespace Go.Sx
open Go.Proofs
noncomputable def E15 : List (FuncId × Summ Kd) := []
def m15 (v : Int) (n : Int) : Option ((Int)) :=
    (cond (n == (0 : Int))
      none
      (cond (decide (v.tmod n < (0 : Int)))
        (some ((w64 (v.tmod n + n))))
        (some ((v.tmod n)))))
def sh15  (y : Int) : LV × List (Option (LO Kd)) := (.int .i64 y, [])
theorem tree15 (v : Int) (n : Int) : ∀ r, (m15 v n).map sh15 = some r → (derS body (mkEnv E15 noLoops) Try.f15 [] (fun _ => []) [.int .i64 v, .int .i64 n] []).eval = some r := fun r h => Eq.trans (by kernel_rfl) ((le_cond le_none (le_cond le_some le_some)) r h)
def S15 : Summ Kd := fun args cs => match args, cs with
  | [.int .i64 v, .int .i64 n], [] => ans (m15 v n) sh15
  | _, _ => .bad 0
theorem fact15 : Fact 15 S15 := fact_of (l := E15) trivial Try.func15 rfl Try.call15 (opens := []) (shuts := (fun _ => [])) (fun v x h => by cases h) (by
  intro args cs r h
  unfold S15 at h
  split at h
  · exact tree15 _ _ _ (eval_ans h)
  · cases h)
def ag18b0l (s : Lk Kd × Ar × Gd × Int) : List LV := [.ptr 0 0, .ifc 111 (.ptr 1 0), .bool false, .int .i64 (s.2.2.2)]
def cg18b0l (s : Lk Kd × Ar × Gd × Int) : List (Option (LO Kd)) := [some (.abs (.arena (s.2.1)) []), some (.abs (.look (s.1)) [2]), some (.abs (.guard (s.2.2.1)) [])]
def en18b0l (y : Lk Kd × Ar × Gd × Int) : RtL := (.ret, [.ptr 0 0, .ifc 111 (.ptr 1 0), .bool true, .int .i64 (y.2.2.2)], [some (.abs (.arena (y.2.1)) []), some (.abs (.look (y.1)) [2]), some (.abs (.guard (y.2.2.1)) [])])
noncomputable def EL18b0l : List (FuncId × Summ Kd) := [(39, S39), (139, S139)]
def mL18b0l (x : Lk Kd) (a : Ar) (g : Gd) (i : Int) : Option ((Lk Kd × Ar × Gd × Int) ⊕ ((Lk Kd × Ar × Gd × Int))) :=
    (cond (decide (i < (3000 : Int)))
      (Option.bind (m139 x a g) fun y1 =>
        (cond (decide (y1.snd.snd.fst.uses > w64 (a.uses + (1 : Int))))
          none
          (cond (y1.fst)
            (some (Sum.inr ((y1.snd.1), (y1.snd.snd.1), (y1.snd.snd.2), (i))))
            (some (Sum.inl ((y1.snd.1), (y1.snd.snd.1), (y1.snd.snd.2), (w64 (i + (1 : Int)))))))))
      none)
theorem treeL18b0l (x : Lk Kd) (a : Ar) (g : Gd) (i : Int) : ∀ r, (mL18b0l x a g i).map (Sum.elim (fun s' => (Ex.normal, ag18b0l s', cg18b0l s')) en18b0l) = some r → (derB2 body (mkEnv EL18b0l (lpOf [])) (theLoop 0 Try.f18) [0, 1, 4, 5] [] 29 (fun _ => []) 3 [.ptr 0 0, .ifc 111 (.ptr 1 0), .bool false, .int .i64 i] [some (.abs (.arena a) []), some (.abs (.look x) [2]), some (.abs (.guard g) [])]).eval = some r := fun r h => Eq.trans (by kernel_rfl) ((le_cond (le_bind fun y1 => (le_cond (le_no ((.ret, ([.ptr 0 0, .ifc 111 (.ptr 1 0), .bool false, .int .i64 (i)], [(some (.abs (Kd.arena y1.snd.snd.fst) [])), (some (.abs (Kd.look y1.snd.fst) [2])), (some (.abs (Kd.guard y1.snd.snd.snd) []))])))) (le_cond le_some le_some))) (le_no ((.exit 0, ([.ptr 0 0, .ifc 111 (.ptr 1 0), .bool false, .int .i64 (i)], [(some (.abs (Kd.arena a) [])), (some (.abs (Kd.look x) [2])), (some (.abs (Kd.guard g) []))]))))) r h)
def w18b0l (s : Lk Kd × Ar × Gd × Int) : Option ((Lk Kd × Ar × Gd × Int)) := whileM (fun s => mL18b0l s.1 s.2.1 s.2.2.1 s.2.2.2) 6000 s
def L18b0l : LSumm Kd := fun args cs => match args, cs with
  | [.ptr 0 0, .ifc 111 (.ptr 1 0), .bool false, .int .i64 i], [some (.abs (.arena a) []), some (.abs (.look x) [2]), some (.abs (.guard g) [])] => ans (w18b0l (x, a, g, i)) (fun y => (fixE 0 (en18b0l y).1, (en18b0l y).2))
  | _, _ => .bad 0
theorem ok18b0l : ∃ c, Try.f18.body = some c ∧ occ 0 c = [.loop (theLoop 0 Try.f18)] ∧ SxOk Try.prog body (fun Q => (Code.block 0 (.loop (theLoop 0 Try.f18))).wp Try.prog Q) (loopL2 [0, 1, 4, 5] [] 29 L18b0l) :=
  lp_ok2 (l := EL18b0l) (lps := []) ⟨fact39, fact139, trivial⟩ rfl (by kernel_rfl) no_lps (by decide) (by decide) (fun v x h => absurd h (List.not_mem_nil)) (by
    intro args cs e vs post h
    unfold L18b0l at h
    split at h
    · have h := eval_ans h
      obtain ⟨t, ht, he⟩ := Option.map_eq_some_iff.1 h
      cases he
      exact ⟨_, iter_while ag18b0l cg18b0l en18b0l (fun s => mL18b0l s.1 s.2.1 s.2.2.1 s.2.2.2) (fun s r h => treeL18b0l s.1 s.2.1 s.2.2.1 s.2.2.2 r h) (fun s s' => rfl) (fun t h => by cases h) _ _ t ht, rfl⟩
    · cases h)
noncomputable def lps18l : Lps := [(0, loopL2 [0, 1, 4, 5] [] 29 L18b0l)]
theorem lps18l_ok : LpsOk Try.f18 lps18l := ⟨ok18b0l, trivial⟩
noncomputable def E18l : List (FuncId × Summ Kd) := [(39, S39), (139, S139)]
def m18l (x : Lk Kd) (a : Ar) (g : Gd) : Option ((Lk Kd × Ar × Gd)) :=
    (Option.bind (w18b0l (x, a, g, (0 : Int))) fun y1 =>
      (some ((y1.1), (y1.snd.1), (y1.snd.snd.1))))
def sh18l  (y : Lk Kd × Ar × Gd) : LV × List (Option (LO Kd)) := (.bool true, [some (.abs (.arena (y.2.1)) []), some (.abs (.look (y.1)) [2]), some (.abs (.guard (y.2.2)) [])])
theorem tree18l (x : Lk Kd) (a : Ar) (g : Gd) : ∀ r, (m18l x a g).map sh18l = some r → (derS body (mkEnv E18l (lpOf lps18l)) Try.f18 [] (fun _ => []) [.ptr 0 0, .ifc 111 (.ptr 1 0)] [some (.abs (.arena a) []), some (.abs (.look x) [2]), some (.abs (.guard g) [])]).eval = some r := fun r h => Eq.trans (by kernel_rfl) ((le_bind fun y1 => le_some) r h)
def S18l : Summ Kd := fun args cs => match args, cs with
  | [.ptr 0 0, .ifc 111 (.ptr 1 0)], [some (.abs (.arena a) []), some (.abs (.look x) [2]), some (.abs (.guard g) [])] => ans (m18l x a g) sh18l
  | _, _ => .bad 0
theorem fact18l : Fact 18 S18l := fact_loops (l := E18l) ⟨fact39, fact139, trivial⟩ lps18l_ok Try.func18 rfl Try.call18 (opens := []) (shuts := (fun _ => [])) (fun v x h => by cases h) (by
  intro args cs r h
  unfold S18l at h
  split at h
  · exact tree18l _ _ _ _ (eval_ans h)
  · cases h)
def ag18b0p (s : Pn × Ar × Int) : List LV := [.ptr 0 0, .ifc 120 (.ptr 1 0), .bool false, .int .i64 (s.2.2)]
def cg18b0p (s : Pn × Ar × Int) : List (Option (LO Kd)) := [some (.abs (.arena (s.2.1)) []), some (.abs (.pin (s.1)) [])]
def en18b0p (y : Pn × Ar × Int) : RtL := (.ret, [.ptr 0 0, .ifc 120 (.ptr 1 0), .bool true, .int .i64 (y.2.2)], [some (.abs (.arena (y.2.1)) []), some (.abs (.pin (y.1)) [])])
noncomputable def EL18b0p : List (FuncId × Summ Kd) := [(39, S39), (143, S143)]
def mL18b0p (x : Pn) (a : Ar) (i : Int) : Option ((Pn × Ar × Int) ⊕ ((Pn × Ar × Int))) :=
    (cond (decide (i < (3000 : Int)))
      (Option.bind (m143 x a) fun y1 =>
        (cond (decide (y1.snd.snd.uses > w64 (a.uses + (1 : Int))))
          none
          (cond (y1.fst)
            (some (Sum.inr ((y1.snd.1), (y1.snd.2), (i))))
            (some (Sum.inl ((y1.snd.1), (y1.snd.2), (w64 (i + (1 : Int)))))))))
      none)
theorem treeL18b0p (x : Pn) (a : Ar) (i : Int) : ∀ r, (mL18b0p x a i).map (Sum.elim (fun s' => (Ex.normal, ag18b0p s', cg18b0p s')) en18b0p) = some r → (derB2 body (mkEnv EL18b0p (lpOf [])) (theLoop 0 Try.f18) [0, 1, 4, 5] [] 29 (fun _ => []) 2 [.ptr 0 0, .ifc 120 (.ptr 1 0), .bool false, .int .i64 i] [some (.abs (.arena a) []), some (.abs (.pin x) [])]).eval = some r := fun r h => Eq.trans (by kernel_rfl) ((le_cond (le_bind fun y1 => (le_cond (le_no ((.ret, ([.ptr 0 0, .ifc 120 (.ptr 1 0), .bool false, .int .i64 (i)], [(some (.abs (Kd.arena y1.snd.snd) [])), (some (.abs (Kd.pin y1.snd.fst) []))])))) (le_cond le_some le_some))) (le_no ((.exit 0, ([.ptr 0 0, .ifc 120 (.ptr 1 0), .bool false, .int .i64 (i)], [(some (.abs (Kd.arena a) [])), (some (.abs (Kd.pin x) []))]))))) r h)
def w18b0p (s : Pn × Ar × Int) : Option ((Pn × Ar × Int)) := whileM (fun s => mL18b0p s.1 s.2.1 s.2.2) 6000 s
def L18b0p : LSumm Kd := fun args cs => match args, cs with
  | [.ptr 0 0, .ifc 120 (.ptr 1 0), .bool false, .int .i64 i], [some (.abs (.arena a) []), some (.abs (.pin x) [])] => ans (w18b0p (x, a, i)) (fun y => (fixE 0 (en18b0p y).1, (en18b0p y).2))
  | _, _ => .bad 0
theorem ok18b0p : ∃ c, Try.f18.body = some c ∧ occ 0 c = [.loop (theLoop 0 Try.f18)] ∧ SxOk Try.prog body (fun Q => (Code.block 0 (.loop (theLoop 0 Try.f18))).wp Try.prog Q) (loopL2 [0, 1, 4, 5] [] 29 L18b0p) :=
  lp_ok2 (l := EL18b0p) (lps := []) ⟨fact39, fact143, trivial⟩ rfl (by kernel_rfl) no_lps (by decide) (by decide) (fun v x h => absurd h (List.not_mem_nil)) (by
    intro args cs e vs post h
    unfold L18b0p at h
    split at h
    · have h := eval_ans h
      obtain ⟨t, ht, he⟩ := Option.map_eq_some_iff.1 h
      cases he
      exact ⟨_, iter_while ag18b0p cg18b0p en18b0p (fun s => mL18b0p s.1 s.2.1 s.2.2) (fun s r h => treeL18b0p s.1 s.2.1 s.2.2 r h) (fun s s' => rfl) (fun t h => by cases h) _ _ t ht, rfl⟩
    · cases h)
noncomputable def lps18p : Lps := [(0, loopL2 [0, 1, 4, 5] [] 29 L18b0p)]
theorem lps18p_ok : LpsOk Try.f18 lps18p := ⟨ok18b0p, trivial⟩
noncomputable def E18p : List (FuncId × Summ Kd) := [(39, S39), (143, S143)]
def m18p (x : Pn) (a : Ar) : Option ((Pn × Ar)) :=
    (Option.bind (w18b0p (x, a, (0 : Int))) fun y1 =>
      (some ((y1.1), (y1.snd.1))))
def sh18p  (y : Pn × Ar) : LV × List (Option (LO Kd)) := (.bool true, [some (.abs (.arena (y.2)) []), some (.abs (.pin (y.1)) [])])
theorem tree18p (x : Pn) (a : Ar) : ∀ r, (m18p x a).map sh18p = some r → (derS body (mkEnv E18p (lpOf lps18p)) Try.f18 [] (fun _ => []) [.ptr 0 0, .ifc 120 (.ptr 1 0)] [some (.abs (.arena a) []), some (.abs (.pin x) [])]).eval = some r := fun r h => Eq.trans (by kernel_rfl) ((le_bind fun y1 => le_some) r h)
def S18p : Summ Kd := fun args cs => match args, cs with
  | [.ptr 0 0, .ifc 120 (.ptr 1 0)], [some (.abs (.arena a) []), some (.abs (.pin x) [])] => ans (m18p x a) sh18p
  | _, _ => .bad 0
theorem fact18p : Fact 18 S18p := fact_loops (l := E18p) ⟨fact39, fact143, trivial⟩ lps18p_ok Try.func18 rfl Try.call18 (opens := []) (shuts := (fun _ => [])) (fun v x h => by cases h) (by
  intro args cs r h
  unfold S18p at h
  split at h
  · exact tree18p _ _ _ (eval_ans h)
  · cases h)
def ag18b0s (s : Se × Ar × Int) : List LV := [.ptr 0 0, .ifc 122 (.ptr 1 0), .bool false, .int .i64 (s.2.2)]
def cg18b0s (s : Se × Ar × Int) : List (Option (LO Kd)) := [some (.abs (.arena (s.2.1)) []), some (.abs (.sets (s.1)) [])]
def en18b0s (y : Se × Ar × Int) : RtL := (.ret, [.ptr 0 0, .ifc 122 (.ptr 1 0), .bool true, .int .i64 (y.2.2)], [some (.abs (.arena (y.2.1)) []), some (.abs (.sets (y.1)) [])])
noncomputable def EL18b0s : List (FuncId × Summ Kd) := [(39, S39), (144, S144)]
def mL18b0s (x : Se) (a : Ar) (i : Int) : Option ((Se × Ar × Int) ⊕ ((Se × Ar × Int))) :=
    (cond (decide (i < (3000 : Int)))
      (Option.bind (m144 x a) fun y1 =>
        (cond (decide (y1.snd.snd.uses > w64 (a.uses + (1 : Int))))
          none
          (cond (y1.fst)
            (some (Sum.inr ((y1.snd.1), (y1.snd.2), (i))))
            (some (Sum.inl ((y1.snd.1), (y1.snd.2), (w64 (i + (1 : Int)))))))))
      none)
theorem treeL18b0s (x : Se) (a : Ar) (i : Int) : ∀ r, (mL18b0s x a i).map (Sum.elim (fun s' => (Ex.normal, ag18b0s s', cg18b0s s')) en18b0s) = some r → (derB2 body (mkEnv EL18b0s (lpOf [])) (theLoop 0 Try.f18) [0, 1, 4, 5] [] 29 (fun _ => []) 2 [.ptr 0 0, .ifc 122 (.ptr 1 0), .bool false, .int .i64 i] [some (.abs (.arena a) []), some (.abs (.sets x) [])]).eval = some r := fun r h => Eq.trans (by kernel_rfl) ((le_cond (le_bind fun y1 => (le_cond (le_no ((.ret, ([.ptr 0 0, .ifc 122 (.ptr 1 0), .bool false, .int .i64 (i)], [(some (.abs (Kd.arena y1.snd.snd) [])), (some (.abs (Kd.sets y1.snd.fst) []))])))) (le_cond le_some le_some))) (le_no ((.exit 0, ([.ptr 0 0, .ifc 122 (.ptr 1 0), .bool false, .int .i64 (i)], [(some (.abs (Kd.arena a) [])), (some (.abs (Kd.sets x) []))]))))) r h)
def w18b0s (s : Se × Ar × Int) : Option ((Se × Ar × Int)) := whileM (fun s => mL18b0s s.1 s.2.1 s.2.2) 6000 s
def L18b0s : LSumm Kd := fun args cs => match args, cs with
  | [.ptr 0 0, .ifc 122 (.ptr 1 0), .bool false, .int .i64 i], [some (.abs (.arena a) []), some (.abs (.sets x) [])] => ans (w18b0s (x, a, i)) (fun y => (fixE 0 (en18b0s y).1, (en18b0s y).2))
  | _, _ => .bad 0
theorem ok18b0s : ∃ c, Try.f18.body = some c ∧ occ 0 c = [.loop (theLoop 0 Try.f18)] ∧ SxOk Try.prog body (fun Q => (Code.block 0 (.loop (theLoop 0 Try.f18))).wp Try.prog Q) (loopL2 [0, 1, 4, 5] [] 29 L18b0s) :=
  lp_ok2 (l := EL18b0s) (lps := []) ⟨fact39, fact144, trivial⟩ rfl (by kernel_rfl) no_lps (by decide) (by decide) (fun v x h => absurd h (List.not_mem_nil)) (by
    intro args cs e vs post h
    unfold L18b0s at h
    split at h
    · have h := eval_ans h
      obtain ⟨t, ht, he⟩ := Option.map_eq_some_iff.1 h
      cases he
      exact ⟨_, iter_while ag18b0s cg18b0s en18b0s (fun s => mL18b0s s.1 s.2.1 s.2.2) (fun s r h => treeL18b0s s.1 s.2.1 s.2.2 r h) (fun s s' => rfl) (fun t h => by cases h) _ _ t ht, rfl⟩
    · cases h)
noncomputable def lps18s : Lps := [(0, loopL2 [0, 1, 4, 5] [] 29 L18b0s)]
theorem lps18s_ok : LpsOk Try.f18 lps18s := ⟨ok18b0s, trivial⟩
noncomputable def E18s : List (FuncId × Summ Kd) := [(39, S39), (144, S144)]
def m18s (x : Se) (a : Ar) : Option ((Se × Ar)) :=
    (Option.bind (w18b0s (x, a, (0 : Int))) fun y1 =>
      (some ((y1.1), (y1.snd.1))))
def sh18s  (y : Se × Ar) : LV × List (Option (LO Kd)) := (.bool true, [some (.abs (.arena (y.2)) []), some (.abs (.sets (y.1)) [])])
theorem tree18s (x : Se) (a : Ar) : ∀ r, (m18s x a).map sh18s = some r → (derS body (mkEnv E18s (lpOf lps18s)) Try.f18 [] (fun _ => []) [.ptr 0 0, .ifc 122 (.ptr 1 0)] [some (.abs (.arena a) []), some (.abs (.sets x) [])]).eval = some r := fun r h => Eq.trans (by kernel_rfl) ((le_bind fun y1 => le_some) r h)
def S18s : Summ Kd := fun args cs => match args, cs with
  | [.ptr 0 0, .ifc 122 (.ptr 1 0)], [some (.abs (.arena a) []), some (.abs (.sets x) [])] => ans (m18s x a) sh18s
  | _, _ => .bad 0
theorem fact18s : Fact 18 S18s := fact_loops (l := E18s) ⟨fact39, fact144, trivial⟩ lps18s_ok Try.func18 rfl Try.call18 (opens := []) (shuts := (fun _ => [])) (fun v x h => by cases h) (by
  intro args cs r h
  unfold S18s at h
  split at h
  · exact tree18s _ _ _ (eval_ans h)
  · cases h)
noncomputable def E18n : List (FuncId × Summ Kd) := []
def m18n (a : Ar) : Option ((Ar)) :=
    (some ((a)))
def sh18n  (y : Ar) : LV × List (Option (LO Kd)) := (.bool true, [some (.abs (.arena y) [])])
theorem tree18n (a : Ar) : ∀ r, (m18n a).map sh18n = some r → (derS body (mkEnv E18n noLoops) Try.f18 [] (fun _ => []) [.ptr 0 0, .nili] [some (.abs (.arena a) [])]).eval = some r := fun r h => Eq.trans (by kernel_rfl) (le_some r h)
def S18n : Summ Kd := fun args cs => match args, cs with
  | [.ptr 0 0, .nili], [some (.abs (.arena a) [])] => ans (m18n a) sh18n
  | _, _ => .bad 0
theorem fact18n : Fact 18 S18n := fact_of (l := E18n) trivial Try.func18 rfl Try.call18 (opens := []) (shuts := (fun _ => [])) (fun v x h => by cases h) (by
  intro args cs r h
  unfold S18n at h
  split at h
  · exact tree18n _ _ (eval_ans h)
  · cases h)
noncomputable def S18 : Summ Kd := alt S18l (alt S18p (alt S18s (S18n)))
theorem fact18 : Fact 18 S18 := fact_alt fact18l (fact_alt fact18p (fact_alt fact18s (fact18n)))
def ag17b0 (s : Al × Ar × Int) : List LV := [.ptr 0 0, .int .i64 0, .ptr 1 0, .int .i64 (s.2.2)]
def cg17b0 (s : Al × Ar × Int) : List (Option (LO Kd)) := [some (.abs (.arena (s.2.1)) []), some (.abs (.alloc (s.1)) [])]
def en17b0 (y : Int × Al × Ar × Int) : RtL := (.ret, [.ptr 0 0, .int .i64 (y.1), .ptr 1 0, .int .i64 (y.2.2.2)], [some (.abs (.arena (y.2.2.1)) []), some (.abs (.alloc (y.2.1)) [])])
noncomputable def EL17b0 : List (FuncId × Summ Kd) := [(60, S60), (61, S61)]
def mL17b0 (x : Al) (a : Ar) (i : Int) : Option ((Al × Ar × Int) ⊕ ((Int × Al × Ar × Int))) :=
    (cond (decide (i < (100 : Int)))
      (Option.bind (m60 x a) fun y1 =>
        (cond (y1.fst)
          (some (Sum.inr ((((m61 y1.snd.fst).getD default).fst), (y1.snd.1), (y1.snd.2), (i))))
          (some (Sum.inl ((y1.snd.1), (y1.snd.2), (w64 (i + (1 : Int))))))))
      none)
theorem treeL17b0 (x : Al) (a : Ar) (i : Int) : ∀ r, (mL17b0 x a i).map (Sum.elim (fun s' => (Ex.normal, ag17b0 s', cg17b0 s')) en17b0) = some r → (derB2 body (mkEnv EL17b0 (lpOf [])) (theLoop 0 Try.f17) [0, 6, 7, 8] [] 31 (fun _ => []) 2 [.ptr 0 0, .int .i64 0, .ptr 1 0, .int .i64 i] [some (.abs (.arena a) []), some (.abs (.alloc x) [])]).eval = some r := fun r h => Eq.trans (by kernel_rfl) ((le_cond (le_bind fun y1 => (le_cond le_some le_some)) (le_no ((.exit 0, ([.ptr 0 0, .int .i64 0, .ptr 1 0, .int .i64 (i)], [(some (.abs (Kd.arena a) [])), (some (.abs (Kd.alloc x) []))]))))) r h)
def w17b0 (s : Al × Ar × Int) : Option ((Int × Al × Ar × Int)) := whileM (fun s => mL17b0 s.1 s.2.1 s.2.2) 6000 s
def L17b0 : LSumm Kd := fun args cs => match args, cs with
  | [.ptr 0 0, .int .i64 0, .ptr 1 0, .int .i64 i], [some (.abs (.arena a) []), some (.abs (.alloc x) [])] => ans (w17b0 (x, a, i)) (fun y => (fixE 0 (en17b0 y).1, (en17b0 y).2))
  | _, _ => .bad 0
theorem ok17b0 : ∃ c, Try.f17.body = some c ∧ occ 0 c = [.loop (theLoop 0 Try.f17)] ∧ SxOk Try.prog body (fun Q => (Code.block 0 (.loop (theLoop 0 Try.f17))).wp Try.prog Q) (loopL2 [0, 6, 7, 8] [] 31 L17b0) :=
  lp_ok2 (l := EL17b0) (lps := []) ⟨fact60, fact61, trivial⟩ rfl (by kernel_rfl) no_lps (by decide) (by decide) (fun v x h => absurd h (List.not_mem_nil)) (by
    intro args cs e vs post h
    unfold L17b0 at h
    split at h
    · have h := eval_ans h
      obtain ⟨t, ht, he⟩ := Option.map_eq_some_iff.1 h
      cases he
      exact ⟨_, iter_while ag17b0 cg17b0 en17b0 (fun s => mL17b0 s.1 s.2.1 s.2.2) (fun s r h => treeL17b0 s.1 s.2.1 s.2.2 r h) (fun s s' => rfl) (fun t h => by cases h) _ _ t ht, rfl⟩
    · cases h)
noncomputable def lps17 : Lps := [(0, loopL2 [0, 6, 7, 8] [] 31 L17b0)]
theorem lps17_ok : LpsOk Try.f17 lps17 := ⟨ok17b0, trivial⟩
noncomputable def E17 : List (FuncId × Summ Kd) := [(59, S59), (60, S60), (61, S61)]
def m17 (a : Ar) (pw : Int) (ph : Int) (pl : Int) (pg : Int) (pc : Int) (work : Int) : Option ((Int × Ar)) :=
    (Option.bind (w17b0 ((m59 pw ph pl pg pc work (0 : Int)).getD default, a, (0 : Int))) fun y1 =>
      (some ((y1.fst), (y1.snd.snd.1))))
def sh17  (y : Int × Ar) : LV × List (Option (LO Kd)) := (.int .i64 (y.1), [some (.abs (.arena (y.2)) [])])
theorem tree17 (a : Ar) (pw : Int) (ph : Int) (pl : Int) (pg : Int) (pc : Int) (work : Int) : ∀ r, (m17 a pw ph pl pg pc work).map sh17 = some r → (derS body (mkEnv E17 (lpOf lps17)) Try.f17 [] (fun _ => []) [.ptr 0 0, .agg [.int .i64 pw, .int .i64 ph, .int .i64 pl, .int .i64 pg, .int .i64 pc], .int .i64 work] [some (.abs (.arena a) [])]).eval = some r := fun r h => Eq.trans (by kernel_rfl) ((le_bind fun y1 => le_some) r h)
def S17 : Summ Kd := fun args cs => match args, cs with
  | [.ptr 0 0, .agg [.int .i64 pw, .int .i64 ph, .int .i64 pl, .int .i64 pg, .int .i64 pc], .int .i64 work], [some (.abs (.arena a) [])] => ans (m17 a pw ph pl pg pc work) sh17
  | _, _ => .bad 0
theorem fact17 : Fact 17 S17 := fact_loops (l := E17) ⟨fact59, fact60, fact61, trivial⟩ lps17_ok Try.func17 rfl Try.call17 (opens := []) (shuts := (fun _ => [])) (fun v x h => by cases h) (by
  intro args cs r h
  unfold S17 at h
  split at h
  · exact tree17 _ _ _ _ _ _ _ _ (eval_ans h)
  · cases h)
noncomputable def E16 : List (FuncId × Summ Kd) := [(55, S55), (56, S56), (57, S57), (58, S58)]
def m16 (work : Int) (slots : Int) (ep : Bool) (th : Int) : Option ((Ar × Int × Int × Int × Int × Int × Gd)) :=
    (Option.bind (m56 work ((m55 work (w64 ((8 : Int) * slots))).getD default).snd.snd.snd.snd.snd ep) fun y1 =>
      (Option.bind (m57 (w64 (((m55 work (w64 ((8 : Int) * slots))).getD default).snd.snd.snd.snd.snd + y1)) (w64 ((8 : Int) * slots)) false) fun y2 =>
        (Option.bind (m58 work ((m55 work (w64 ((8 : Int) * slots))).getD default).snd.snd.snd.snd.snd ep th ((m55 work (w64 ((8 : Int) * slots))).getD default).fst ((m55 work (w64 ((8 : Int) * slots))).getD default).snd.fst ((m55 work (w64 ((8 : Int) * slots))).getD default).snd.snd.fst ((m55 work (w64 ((8 : Int) * slots))).getD default).snd.snd.snd.fst ((m55 work (w64 ((8 : Int) * slots))).getD default).snd.snd.snd.snd.fst) fun y3 =>
          (some ((y2), (((m55 work (w64 ((8 : Int) * slots))).getD default).fst), (((m55 work (w64 ((8 : Int) * slots))).getD default).snd.fst), (((m55 work (w64 ((8 : Int) * slots))).getD default).snd.snd.fst), (((m55 work (w64 ((8 : Int) * slots))).getD default).snd.snd.snd.fst), (((m55 work (w64 ((8 : Int) * slots))).getD default).snd.snd.snd.snd.fst), (y3))))))
def sh16  (y : Ar × Int × Int × Int × Int × Int × Gd) : LV × List (Option (LO Kd)) := (.tup [.ptr 0 0, .agg [.int .i64 (y.2.1), .int .i64 (y.2.2.1), .int .i64 (y.2.2.2.1), .int .i64 (y.2.2.2.2.1), .int .i64 (y.2.2.2.2.2.1)], .ptr 1 0], [some (.abs (.arena (y.1)) []), some (.abs (.guard (y.2.2.2.2.2.2)) [])])
theorem tree16 (work : Int) (slots : Int) (ep : Bool) (th : Int) : ∀ r, (m16 work slots ep th).map sh16 = some r → (derS body (mkEnv E16 noLoops) Try.f16 [] (fun _ => []) [.int .i64 work, .int .i64 slots, .bool ep, .int .i64 th] []).eval = some r := fun r h => Eq.trans (by kernel_rfl) ((le_bind fun y1 => (le_bind fun y2 => (le_bind fun y3 => le_some))) r h)
def S16 : Summ Kd := fun args cs => match args, cs with
  | [.int .i64 work, .int .i64 slots, .bool ep, .int .i64 th], [] => ans (m16 work slots ep th) sh16
  | _, _ => .bad 0
theorem fact16 : Fact 16 S16 := fact_of (l := E16) ⟨fact55, fact56, fact57, fact58, trivial⟩ Try.func16 rfl Try.call16 (opens := []) (shuts := (fun _ => [])) (fun v x h => by cases h) (by
  intro args cs r h
  unfold S16 at h
  split at h
  · exact tree16 _ _ _ _ _ (eval_ans h)
  · cases h)
noncomputable def E24 : List (FuncId × Summ Kd) := [(16, S16), (26, S26), (17, S17), (19, S19), (18, S18), (22, S22), (20, S20)]
def m24  : Option ((Bool)) :=
    (Option.bind (m16 (2 : Int) (4 : Int) false (1 : Int)) fun y1 =>
      (bind2 (m26 y1.snd.snd.snd.snd.snd.snd (1 : Int)) (fun y2 =>
        (Option.bind (m17 y1.fst y1.snd.fst y1.snd.snd.fst y1.snd.snd.snd.fst y1.snd.snd.snd.snd.fst y1.snd.snd.snd.snd.snd.fst (0 : Int)) fun y3 =>
          (cond (y3.fst != (0 : Int))
            (bind2 (m19 y2 y3.snd (0 : Int) y3.fst) (fun y4 =>
              (Option.bind (m18n y4.snd) fun y5 =>
                (cond (y5.state y3.fst == (0 : Int))
                  (Option.bind (m20 y4.fst (0 : Int)) fun y6 =>
                    (some (((↑y6.fst : Int) == (0 : Int)))))
                  (some (false))))) (fun y4 =>
              (Option.bind (m18l y4.snd.snd y4.snd.fst y4.fst) fun y5 =>
                (cond (y5.snd.fst.state y3.fst == (0 : Int))
                  (Option.bind (m20 y5.snd.snd (0 : Int)) fun y6 =>
                    (some (((↑y6.fst : Int) == (0 : Int)))))
                  (some (false))))))
            (some (false))))) (fun y2 =>
        (some (false)))))
def sh24  (y : Bool) : LV × List (Option (LO Kd)) := (.bool y, [])
theorem tree24  : ∀ r, (m24 ).map sh24 = some r → (derS body (mkEnv E24 noLoops) Try.f24 [] (fun _ => []) [] []).eval = some r := fun r h => Eq.trans (by kernel_rfl) ((le_bind fun y1 => (le_bind2 (fun y2 => (le_bind fun y3 => (le_cond (le_bind2 (fun y4 => (le_bind fun y5 => (le_cond (le_bind fun y6 => le_some) le_some))) (fun y4 => (le_bind fun y5 => (le_cond (le_bind fun y6 => le_some) le_some)))) le_some))) (fun y2 => le_some))) r h)
def S24 : Summ Kd := fun args cs => match args, cs with
  | [], [] => ans (m24 ) sh24
  | _, _ => .bad 0
theorem fact24 : Fact 24 S24 := fact_of (l := E24) ⟨fact16, fact26, fact17, fact19, fact18, fact22, fact20, trivial⟩ Try.func24 rfl Try.call24 (opens := []) (shuts := (fun _ => [])) (fun v x h => by cases h) (by
  intro args cs r h
  unfold S24 at h
  split at h
  · exact tree24 _ (eval_ans h)
  · cases h)
end Go.Sx

/- An alloc's steps. No condition. -/
set_option linter.unusedVariables false
set_option linter.unusedSimpArgs false
namespace Go.Sx

/-- What a step of the memory's machines leaves alone. -/
structure Eff (G : Geo) (a a' : Ar) : Prop where
  words : a'.words = a.words
  far : ∀ j, G.carve < j → a'.rg j = a.rg j
  uses : a'.uses = a.uses + 1
  cmono : ∀ i, a.carved.getD i false = true → a'.carved.getD i false = true
theorem Eff.tick (G : Geo) (a : Ar) : Eff G a a.tick := ⟨rfl, fun _ _ => rfl, rfl, fun _ h => h⟩
theorem Eff.put {G : Geo} {a : Ar} {j : Nat} {v : Int} (hj : j ≤ G.carve) (hl : G.carve < a.raw.length) : Eff G a (a.put j v) :=
  ⟨rfl, fun i hi => by rw [rg_put (by omega), if_neg (by omega)], rfl, fun _ h => h⟩
theorem Inv.carve_lt {G : Geo} {a : Ar} {h : Gh} {k : Nat} (hI : Inv G a h k) : G.carve < a.raw.length := by
  have := hI.lens.1
  have := G.hR
  unfold Geo.carve; omega

/-- How far a pop has come. -/
def PopAt (G : Geo) (a : Ar) (w c : Nat) (x : Popr) : Prop :=
  ∃ was at_ link : Int, x = ⟨G.pl, (G.head w c : Nat), was, at_, link, 0, false⟩ ∧
    (at_ = 0 ∨ (at_ = 1 ∧ was = a.rg (G.head w c) ∧ low was ≠ 0) ∨ (at_ = 2 ∧ was = a.rg (G.head w c) ∧ low was ≠ 0 ∧ ∃ u : Nat, low was = u + 1 ∧ link = a.rg (G.link u)))
theorem PopAt.congr {G : Geo} {a a' : Ar} {w c : Nat} {x : Popr} (h : PopAt G a w c x) (hw : w < G.W) (hc : c < 4) (hr : ∀ j, j ≤ G.carve → a'.rg j = a.rg j) (hU : ∀ u : Nat, low (a.rg (G.head w c)) = u + 1 → u < G.U) : PopAt G a' w c x := by
  obtain ⟨was, at_, link, rfl, hx⟩ := h
  refine ⟨was, at_, link, rfl, ?_⟩
  have e := hr (G.head w c) (by unfold Geo.head Geo.carve; omega)
  rcases hx with h | ⟨h1, h2, h3⟩ | ⟨h1, h2, h3, u, h4, h5⟩
  · exact .inl h
  · exact .inr (.inl ⟨h1, by rw [e]; exact h2, h3⟩)
  · refine .inr (.inr ⟨h1, by rw [e]; exact h2, h3, u, h4, ?_⟩)
    have := hU u (by rw [← h2]; exact h4)
    rw [hr _ (by unfold Geo.link Geo.carve; omega)]; exact h5

theorem Inv.first {G : Geo} {a : Ar} {h : Gh} {k : Nat} (hI : Inv G a h k) {w c : Nat} (hw : w < G.W) (hc : c < 4) :
    (low (a.rg (G.head w c)) = 0 ∧ h.fl w c = []) ∨ ∃ u l, h.fl w c = u :: l ∧ low (a.rg (G.head w c)) = u + 1 ∧ u < G.U ∧ (0 ≤ a.rg (G.link u) ∧ a.rg (G.link u) < 131072) := by
  have hch := hI.chain w c hw hc
  cases hl : h.fl w c with
  | nil => rw [hl] at hch; exact .inl ⟨hch, rfl⟩
  | cons u l =>
    rw [hl] at hch
    have hu := (hI.unit (hI.flin w c u (by rw [hl]; exact List.mem_cons_self)).2.2.1).1
    refine .inr ⟨u, l, rfl, hch.1, hu, ?_⟩
    have h2 := hch.2
    have hU := G.hU
    cases l with
    | nil =>
      have h2 : a.rg (G.link u) = 0 := h2
      rw [h2]; omega
    | cons v l =>
      have h2 : a.rg (G.link u) = v + 1 := h2.1
      have hv := (hI.unit (hI.flin w c v (by rw [hl]; simp)).2.2.1).1
      rw [h2]; omega

/-- A pop's step. -/
theorem pop_step {G : Geo} {a : Ar} {h : Gh} {k : Nat} (hI : Inv G a h k) (hf : a.few) {w c : Nat} (hw : w < G.W) (hc : c < 4) {x : Popr} (hx : PopAt G a w c x) :
    (x.at_ = 3) = False ∧ Eff G a (x.step a).2.1 ∧ (x.step a).2.1.slots = a.slots ∧
    ((h.fl w c = [] ∧ (x.step a).2.2 = true ∧ (x.step a).1.ok = false ∧ (x.step a).2.1 = a.tick) ∨
     ((x.step a).2.2 = false ∧ (x.step a).2.1 = a.tick ∧ PopAt G a.tick w c (x.step a).1 ∧ (x.step a).1.at_ = x.at_ + 1 ∧ x.at_ ≤ 1 ∧ 0 ≤ x.at_) ∨
     (∃ u l n, h.fl w c = u :: l ∧ (x.step a).2.2 = true ∧ (x.step a).1.ok = true ∧ (x.step a).1.base = 8 * (u : Int) ∧ (x.step a).2.1 = a.put (G.head w c) n ∧ low n = a.rg (G.link u))) := by
  obtain ⟨was, at_, link, rfl, hx⟩ := hx
  have hR := G.hR
  have hrN := hI.rawN
  have hWW := G.hW
  have hUU := G.hU
  have hh : G.head w c < a.rawN := by rw [hrN]; unfold Geo.head; omega
  have hfst := hI.first hw hc
  rcases hx with rfl | ⟨rfl, hwas, hne⟩ | ⟨rfl, hwas, hne, u0, hu0, hlk⟩
  · -- the head is read
    refine ⟨by simp, ?_⟩
    unfold Popr.step
    simp only [show ¬ ((0 : Int) = 1) by decide, show ¬ ((0 : Int) = 2) by decide, show ¬ ((0 : Int) = 3) by decide, if_false]
    rw [rawAt_eq hh, touch_eq hh hf, and_low]
    refine ⟨Eff.tick G a, rfl, ?_⟩
    rcases hfst with ⟨h1, h2⟩ | ⟨u, l, h1, h2, h3, h4⟩
    · exact .inl ⟨h2, by simp [h1], by first | rfl | trivial, by first | rfl | trivial⟩
    · have hn0 : low (a.rg (G.head w c)) ≠ 0 := by omega
      refine .inr (.inl ⟨by simp [hn0], by trivial, ⟨a.rg (G.head w c), 1, link, by simp [hn0], .inr (.inl ⟨rfl, rfl, hn0⟩)⟩, by simp [hn0], by decide, by decide⟩)
  · -- the link is read
    rcases hfst with ⟨h1, h2⟩ | ⟨u, l, h1, h2, h3, h4⟩
    · rw [hwas] at hne; exact absurd h1 hne
    refine ⟨by simp, ?_⟩
    have hj : w64 (w64 (G.pl.links + and64 was 131071) - 1) = ((G.link u : Nat) : Int) := by
      rw [and_low, hwas, h2]
      show w64 (w64 (((4 * G.W : Nat) : Int) + ((u : Int) + 1)) - 1) = _
      have e1 : w64 (((4 * G.W : Nat) : Int) + ((u : Int) + 1)) = ((4 * G.W : Nat) : Int) + ((u : Int) + 1) := w64_id (by omega) (by omega)
      rw [e1, w64_id (by omega) (by omega)]
      unfold Geo.link; omega
    have hl : G.link u < a.rawN := by rw [hrN]; unfold Geo.link; omega
    unfold Popr.step
    simp only [if_true]
    rw [hj, rawAt_eq hl, touch_eq hl hf]
    refine ⟨Eff.tick G a, by first | rfl | trivial, .inr (.inl ⟨by first | rfl | trivial, by first | rfl | trivial, ⟨was, 2, a.rg (G.link u), rfl, .inr (.inr ⟨rfl, hwas, hne, u, by rw [hwas]; exact h2, rfl⟩)⟩, by first | rfl | trivial, by decide, by decide⟩)⟩
  · -- the head is swapped
    rcases hfst with ⟨h1, h2⟩ | ⟨u, l, h1, h2, h3, h4⟩
    · rw [hwas] at hne; exact absurd h1 hne
    refine ⟨by simp, ?_⟩
    have e : u0 = u := by rw [hwas, h2] at hu0; omega
    subst e
    unfold Popr.step
    simp only [show ¬ ((2 : Int) = 1) by decide, if_false, if_true]
    rw [swapTo_eq hh hf hwas.symm, swapOk_eq hh, and_low, hwas, h2]
    simp only [beq_self_eq_true, if_true]
    refine ⟨Eff.put (by unfold Geo.head Geo.carve; omega) hI.carve_lt, rfl, .inr (.inr ⟨u0, l, _, h1, trivial, trivial, ?_, rfl, ?_⟩)⟩
    · have e1 : w64 ((u0 : Int) + 1 - 1) = u0 := by rw [w64_id (by omega) (by omega)]; omega
      rw [e1, w64_id (by omega) (by omega)]; omega
    · rw [low_next _ _ (by rw [hlk]; exact h4.1) (by rw [hlk]; exact h4.2)]; exact hlk

/-- The list that an alloc asks at its i-th try. -/
def Geo.ith (G : Geo) (wk i : Nat) : Nat := (wk + i) % G.W
theorem Geo.ith_lt (G : Geo) (wk i : Nat) : G.ith wk i < G.W := Nat.mod_lt _ (by have := G.hW; omega)
/-- How far an alloc has come. -/
def AlAt (G : Geo) (a : Ar) (h : Gh) (wk c : Nat) (x : Al) : Prop :=
  ∃ pop list what base, x = ⟨pop, G.pl, (wk : Nat), (c : Nat), list, what, base, 0⟩ ∧
   ((what = 0 ∧ base = 0 ∧ ∃ i : Nat, i < G.W ∧ list = (i : Nat) ∧ PopAt G a (G.ith wk i) c pop ∧ ∀ j, j < i → h.fl (G.ith wk j) c = []) ∨
    (what = 1 ∧ ∀ w, w < G.W → h.fl w c = []) ∨
    (what = 2 ∧ (∀ w, w < G.W → h.fl w c = []) ∧ base = 8 * (h.top : Int) ∧ 8 * (h.top + 2 ^ c) ≤ G.N) ∨
    (what = 3 ∧ ∃ u : Nat, base = 8 * (u : Int) ∧ Loose a h u c))
/-- How long it may take still. -/
def AlMeas (G : Geo) (x : Al) : Nat :=
  if x.what = 0 then 3 * (G.W - x.list.toNat) + (2 - x.pop.at_.toNat) + 4 else if x.what = 1 then 4 else if x.what = 2 then 3 else 2
/-- An alloc has failed. -/
structure AlNone (G : Geo) (a a' : Ar) (h : Gh) (k c : Nat) (x' : Al) : Prop where
  inv : Inv G a' h k
  hdl : x'.h = 0
  slots : a'.slots = a.slots
  empty : ∀ w, w < G.W → h.fl w c = []
  full : G.N < 8 * (h.top + 2 ^ c)
/-- An alloc has a slot. -/
structure AlSome (G : Geo) (a a' : Ar) (h : Gh) (k c : Nat) (x' : Al) (u : Nat) : Prop where
  inv : Inv G a' h (k + 1)
  cl : h.cl u = some c
  was : a.stt u = 0
  hdl : x'.h = a'.hdl u
  live : a'.stt u = 1
  slots : ∀ v : Nat, v ≠ u → a'.slots (8 * (v : Int)) = a.slots (8 * (v : Int))
  gens : a'.hdl u = hPack (8 * (u : Int)) (a.gens (8 * (u : Int)) + 1) c
  ret : a'.nRetired = a.nRetired
  lv : a'.nLive = a.nLive + siz h u
end Go.Sx

/- An alloc's steps, and its run. No condition. -/
set_option linter.unusedVariables false
set_option linter.unusedSimpArgs false
namespace Go.Sx

def cutGh (h : Gh) (c : Nat) : Gh := { h with top := h.top + 2 ^ c, cl := fun u => if u = h.top then some c else h.cl u }
/-- A block is taken out: of a list, or of what was never carved. -/
def Take (G : Geo) (h h' : Gh) (c u : Nat) : Prop :=
  (∃ w l, w < G.W ∧ h.fl w c = u :: l ∧ h' = { h with fl := setFl h.fl w c l }) ∨ ((∀ w, w < G.W → h.fl w c = []) ∧ u = h.top ∧ 8 * (h.top + 2 ^ c) ≤ G.N ∧ h' = cutGh h c)

theorem ith_all {G : Geo} {wk : Nat} {p : Nat → Prop} (h : ∀ j, j < G.W → p (G.ith wk j)) : ∀ w, w < G.W → p w := by
  intro w hw
  have hW := G.hW
  -- w = (wk + j) % W for j = (w + W - wk % W) % W
  have hm := Nat.mod_lt wk (show 0 < G.W by omega)
  have hj := Nat.mod_lt (w + G.W - wk % G.W) (show 0 < G.W by omega)
  have := h _ hj
  have e : G.ith wk ((w + G.W - wk % G.W) % G.W) = w := by
    unfold Geo.ith
    rw [Nat.add_mod_mod, ← Nat.mod_add_mod]
    rw [show wk % G.W + (w + G.W - wk % G.W) = w + G.W by omega, Nat.add_mod_right, Nat.mod_eq_of_lt hw]
  rw [e] at this
  exact this

/-- Same things but words. -/
structure Same (a a' : Ar) : Prop where
  slots : a'.slots = a.slots
  gens : a'.gens = a.gens
  ret : a'.nRetired = a.nRetired
  lv : a'.nLive = a.nLive
theorem Same.tick (a : Ar) : Same a a.tick := ⟨rfl, rfl, rfl, rfl⟩
theorem Same.put (a : Ar) (j : Nat) (v : Int) : Same a (a.put j v) := ⟨rfl, rfl, rfl, rfl⟩
theorem Same.trans {a b c : Ar} (h : Same a b) (h' : Same b c) : Same a c := ⟨h'.slots.trans h.slots, h'.gens.trans h.gens, h'.ret.trans h.ret, h'.lv.trans h.lv⟩

theorem al_pops {G : Geo} {a : Ar} {h : Gh} {k : Nat} (hI : Inv G a h k) (hf : a.few) {wk c : Nat} (hwk : wk < G.W) (hc : c < 4) {pop : Popr} {i : Nat} (hi : i < G.W) (hp : PopAt G a (G.ith wk i) c pop) (hall : ∀ j, j < i → h.fl (G.ith wk j) c = []) :
    ∃ x' a', m60 ⟨pop, G.pl, (wk : Nat), (c : Nat), (i : Nat), 0, 0, 0⟩ a = some (false, x', a') ∧ Eff G a a' ∧ Same a a' ∧
      ((Inv G a' h k ∧ AlAt G a' h wk c x' ∧ x'.what ≠ 3 ∧ AlMeas G x' < AlMeas G ⟨pop, G.pl, (wk : Nat), (c : Nat), (i : Nat), 0, 0, 0⟩) ∨
       (∃ h' u, Take G h h' c u ∧ Inv G a' h' k ∧ x'.what = 3 ∧ x'.base = 8 * (u : Int) ∧ Loose a' h' u c ∧ AlAt G a' h' wk c x')) := by
  have hw := G.ith_lt wk i
  have hWW := G.hW
  obtain ⟨s1, s2, s3, s4⟩ := pop_step hI hf hw hc hp
  have hwf := hI.wf
  have hlist : w64 ((i : Int) + 1) = (i + 1 : Nat) := w64_id (by omega) (by omega)
  have hat : pop.at_.toNat ≤ 2 := by
    obtain ⟨was, at_, link, rfl, hx⟩ := hp
    simp only
    rcases hx with h | ⟨h, _⟩ | ⟨h, _⟩ <;> rw [h] <;> decide
  rcases s4 with ⟨t1, t2, t3, t4⟩ | ⟨t1, t2, t3, t4, t5, t6⟩ | ⟨u, l, n, t1, t2, t3, t4, t5, t6⟩
  · -- nothing on this list
    have hall' : ∀ j, j < i + 1 → h.fl (G.ith wk j) c = [] := fun j hj => by
      rcases Nat.lt_or_ge j i with h1 | h1
      · exact hall j h1
      · obtain rfl : j = i := by omega
        exact t1
    by_cases hlast : i + 1 < G.W
    · -- the next worker's
      refine ⟨⟨⟨G.pl, (G.head (G.ith wk (i + 1)) c : Nat), 0, 0, 0, 0, false⟩, G.pl, (wk : Nat), (c : Nat), (i + 1 : Nat), 0, 0, 0⟩, a.tick, ?_, Eff.tick G a, Same.tick a, .inl ⟨hI.tick, ?_, by simp, ?_⟩⟩
      · unfold m60
        rw [t2, t3, t4, hwf, hlist]
        simp only [beq_self_eq_true, cond_true, cond_false, Bool.true_or]
        rw [decide_eq_false (show ¬ ((i + 1 : Nat) : Int) ≥ if (1 : Int) > G.pl.work then (1 : Int) else G.pl.work by show ¬ ((i + 1 : Nat) : Int) ≥ if (1 : Int) > (G.W : Int) then (1 : Int) else (G.W : Int); split <;> omega)]
        rw [show (G.pl.work == (0 : Int)) = false by show ((G.W : Int) == 0) = false; simp; omega]
        simp only [cond_false]
        have hmod : w64 (w64 (G.pl.heads + w64 (4 * (w64 ((wk : Int) + w64 ((i : Int) + 1))).tmod G.pl.work)) + (c : Int)) = ((G.head (G.ith wk (i + 1)) c : Nat) : Int) := by
          show w64 (w64 (0 + w64 (4 * (w64 ((wk : Int) + w64 ((i : Int) + 1))).tmod (G.W : Int))) + (c : Int)) = _
          have e0 : w64 ((wk : Int) + ((i + 1 : Nat) : Int)) = ((wk + (i + 1) : Nat) : Int) := by rw [w64_id (by omega) (by omega)]; omega
          rw [hlist, e0, Int.tmod_eq_emod_of_nonneg (by omega), ← Int.natCast_emod]
          have hlt := Nat.mod_lt (wk + (i + 1)) (show 0 < G.W by omega)
          have e1 : w64 (4 * (((wk + (i + 1)) % G.W : Nat) : Int)) = 4 * (((wk + (i + 1)) % G.W : Nat) : Int) := w64_id (by omega) (by omega)
          rw [e1]
          have e2 : w64 (0 + 4 * (((wk + (i + 1)) % G.W : Nat) : Int)) = 4 * (((wk + (i + 1)) % G.W : Nat) : Int) := by rw [w64_id (by omega) (by omega)]; omega
          rw [e2, w64_id (by omega) (by omega)]
          unfold Geo.head Geo.ith; omega
        rw [hlist] at hmod
        rw [hmod]; rfl
      · exact ⟨_, _, _, _, rfl, .inl ⟨rfl, rfl, i + 1, hlast, rfl, ⟨0, 0, 0, rfl, .inl rfl⟩, hall'⟩⟩
      · simp only [AlMeas, if_true]; omega
    · -- all were asked
      refine ⟨⟨(pop.step a).1, G.pl, (wk : Nat), (c : Nat), (i + 1 : Nat), 1, 0, 0⟩, a.tick, ?_, Eff.tick G a, Same.tick a, .inl ⟨hI.tick, ?_, by simp, ?_⟩⟩
      · unfold m60
        rw [t2, t3, t4, hwf, hlist]
        simp only [beq_self_eq_true, cond_true, cond_false, Bool.true_or]
        rw [decide_eq_true (show ((i + 1 : Nat) : Int) ≥ if (1 : Int) > G.pl.work then (1 : Int) else G.pl.work by show ((i + 1 : Nat) : Int) ≥ if (1 : Int) > (G.W : Int) then (1 : Int) else (G.W : Int); split <;> omega)]
        rfl
      · exact ⟨_, _, _, _, rfl, .inr (.inl ⟨rfl, ith_all fun j hj => hall' j (by omega)⟩)⟩
      · simp only [AlMeas, if_true, show ¬ ((1 : Int) = 0) by decide, if_false]; omega
  · -- the pop goes on
    refine ⟨⟨(pop.step a).1, G.pl, (wk : Nat), (c : Nat), (i : Nat), 0, 0, 0⟩, a.tick, ?_, Eff.tick G a, Same.tick a, .inl ⟨hI.tick, ?_, by simp, ?_⟩⟩
    · unfold m60
      rw [t1, t2, hwf]; rfl
    · exact ⟨_, _, _, _, rfl, .inl ⟨rfl, rfl, i, hi, rfl, t3, hall⟩⟩
    · simp only [AlMeas, if_true, t4]; omega
  · -- the pop has a block
    refine ⟨⟨(pop.step a).1, G.pl, (wk : Nat), (c : Nat), (i + 1 : Nat), 3, 8 * (u : Int), 0⟩, a.put (G.head (G.ith wk i) c) n, ?_, by rw [← t5]; exact s2, Same.put _ _ _, .inr ⟨{ h with fl := setFl h.fl (G.ith wk i) c l }, u, .inl ⟨_, l, hw, t1, rfl⟩, hI.popped hw hc t1 n t6, rfl, rfl, hI.popped_loose hw hc t1 n, ?_⟩⟩
    · unfold m60
      rw [t2, t3, t4, t5, hwf, hlist]; rfl
    · exact ⟨_, _, _, _, rfl, .inr (.inr (.inr ⟨rfl, u, rfl, hI.popped_loose hw hc t1 n⟩))⟩

theorem al_carves {G : Geo} {a : Ar} {h : Gh} {k : Nat} (hI : Inv G a h k) (hf : a.few) {wk c : Nat} (hc : c < 4) {pop : Popr} {list base : Int} (hall : ∀ w, w < G.W → h.fl w c = []) :
    ∃ b x', m60 ⟨pop, G.pl, (wk : Nat), (c : Nat), list, 1, base, 0⟩ a = some (b, x', a.tick) ∧
      ((b = false ∧ AlAt G a.tick h wk c x' ∧ x'.what = 2) ∨ (b = true ∧ AlNone G a a.tick h k c x')) := by
  have hrN := hI.rawN
  have hR := G.hR
  have hN := G.hN
  have hj : G.carve < a.rawN := by rw [hrN]; unfold Geo.carve; omega
  have hsz := hSize_eq hc
  have hp := pow_le8 hc
  have htp := hI.top
  have e1 : a.rawAt G.pl.carved = 8 * (h.top : Int) := by
    show a.rawAt ((G.carve : Nat) : Int) = _
    rw [rawAt_eq hj]; exact hI.carved
  have e2 : a.touch G.pl.carved = a.tick := touch_eq (j := G.carve) hj hf
  have e3 : w64 ((a.tick.wordsN : Int) - hSize (c : Int)) = (G.N : Int) - (8 * 2 ^ c : Nat) := by
    rw [show a.tick.wordsN = G.N from hI.words, hsz, w64_id (by omega) (by omega)]
  by_cases hr : 8 * (h.top + 2 ^ c) ≤ G.N
  · refine ⟨false, ⟨pop, G.pl, (wk : Nat), (c : Nat), list, 2, 8 * (h.top : Int), 0⟩, ?_, .inl ⟨rfl, ⟨_, _, _, _, rfl, .inr (.inr (.inl ⟨rfl, hall, rfl, hr⟩))⟩, rfl⟩⟩
    unfold m60
    simp only [show ((1 : Int) == 0) = false by decide, show ((1 : Int) == 1) = true by decide, cond_true, cond_false, hI.wf, e1, e2, e3]
    rw [decide_eq_false (by omega)]; rfl
  · refine ⟨true, ⟨pop, G.pl, (wk : Nat), (c : Nat), list, 4, 8 * (h.top : Int), 0⟩, ?_, .inr ⟨rfl, hI.tick, rfl, rfl, hall, by omega⟩⟩
    unfold m60
    simp only [show ((1 : Int) == 0) = false by decide, show ((1 : Int) == 1) = true by decide, cond_true, cond_false, hI.wf, e1, e2, e3]
    rw [decide_eq_true (by omega)]; rfl

theorem al_swaps {G : Geo} {a : Ar} {h : Gh} {k : Nat} (hI : Inv G a h k) (hf : a.few) {wk c : Nat} (hc : c < 4) {pop : Popr} {list : Int} (hall : ∀ w, w < G.W → h.fl w c = []) (hr : 8 * (h.top + 2 ^ c) ≤ G.N) :
    ∃ x' a', m60 ⟨pop, G.pl, (wk : Nat), (c : Nat), list, 2, 8 * (h.top : Int), 0⟩ a = some (false, x', a') ∧ Eff G a a' ∧ Same a a' ∧
      Take G h (cutGh h c) c h.top ∧ Inv G a' (cutGh h c) k ∧ x'.what = 3 ∧ x'.base = 8 * (h.top : Int) ∧ Loose a' (cutGh h c) h.top c ∧ AlAt G a' (cutGh h c) wk c x' := by
  have hrN := hI.rawN
  have hR := G.hR
  have hN := G.hN
  have hj : G.carve < a.rawN := by rw [hrN]; unfold Geo.carve; omega
  have hsz := hSize_eq hc
  have hp := pow_le8 hc
  have e1 : a.swapOk G.pl.carved (8 * (h.top : Int)) = true := by
    show a.swapOk ((G.carve : Nat) : Int) _ = _
    rw [swapOk_eq hj, hI.carved]; simp
  have e2 : a.swapTo G.pl.carved (8 * (h.top : Int)) (w64 (8 * (h.top : Int) + hSize (c : Int))) = a.put G.carve (8 * ((h.top + 2 ^ c : Nat) : Int)) := by
    show a.swapTo ((G.carve : Nat) : Int) _ _ = _
    rw [swapTo_eq hj hf hI.carved, hsz, w64_id (by omega) (by omega)]
    congr 1; omega
  obtain ⟨i1, i2⟩ := hI.cut hc hr
  refine ⟨⟨pop, G.pl, (wk : Nat), (c : Nat), list, 3, 8 * (h.top : Int), 0⟩, a.put G.carve (8 * ((h.top + 2 ^ c : Nat) : Int)), ?_, Eff.put (Nat.le_refl _) hI.carve_lt, Same.put _ _ _, .inr ⟨hall, rfl, hr, rfl⟩, i1, rfl, rfl, i2, ⟨_, _, _, _, rfl, .inr (.inr (.inr ⟨rfl, h.top, rfl, i2⟩))⟩⟩
  unfold m60
  simp only [show ((2 : Int) == 0) = false by decide, show ((2 : Int) == 1) = false by decide, show ((2 : Int) == 2) = true by decide, cond_true, cond_false, hI.wf, e1, e2]

theorem al_bears {G : Geo} {a : Ar} {h : Gh} {k : Nat} (hI : Inv G a h k) (hf : a.few) (hk : k < 1000000000) {wk c : Nat} {pop : Popr} {list : Int} {u : Nat} (hu : Loose a h u c) :
    ∃ x' a', m60 ⟨pop, G.pl, (wk : Nat), (c : Nat), list, 3, 8 * (u : Int), 0⟩ a = some (true, x', a') ∧ Eff G a a' ∧ AlSome G a a' h k c x' u := by
  obtain ⟨hU, hc, _⟩ := hI.unit hu.1
  have hrN := hI.rawN
  have hR := G.hR
  have hN := G.hN
  have hUU := G.hU
  have hj : G.gen u < a.rawN := by rw [hrN]; unfold Geo.gen; omega
  have hjl : w64 (G.pl.gens + w64 ((8 * (u : Int)).tdiv 8)) = ((G.gen u : Nat) : Int) := by
    show w64 (((4 * G.W + G.U : Nat) : Int) + w64 ((8 * (u : Int)).tdiv 8)) = _
    have e0 : (8 * (u : Int)).tdiv 8 = u := by rw [Int.tdiv_eq_ediv_of_nonneg (by omega)]; omega
    have hWW := G.hW
    rw [e0, w64_id (x := (u : Int)) (by omega) (by omega), w64_id (by omega) (by omega)]
    unfold Geo.gen; omega
  obtain ⟨g1, g2, g3⟩ := hI.gens u hU
  have hgw : w64 (a.gens (8 * (u : Int)) + 1) = a.gens (8 * (u : Int)) + 1 := w64_id (by omega) (by omega)
  obtain ⟨b1, b2, b3, b4, b5, b6, b7, b8, b9, b10⟩ := hI.bears hu hk _ rfl
  refine ⟨⟨pop, G.pl, (wk : Nat), (c : Nat), list, 4, 8 * (u : Int), hPack (8 * (u : Int)) (a.gens (8 * (u : Int)) + 1) c⟩, _, ?_, ⟨b8, fun j hj' => by rw [b6, if_neg (by unfold Geo.gen; unfold Geo.carve at hj'; omega)], b7, ?_⟩, ⟨b2, hu.1, hu.2.1, ?_, ?_, ?_, ?_, b9, b10⟩⟩
  rotate_left
  · intro i hi
    have hlen := hI.lens
    have ho := hOpen (b := 8 * u) (g := (a.gens (8 * (u : Int)) + 1).toNat) (c := c)
    show ((a.put (G.gen u) (a.gens (8 * (u : Int)) + 1)).born _).carved.getD i false = true
    unfold Ar.born
    rw [wakeN_eq]
    show (fillV a.carved true _ _).getD i false = true
    have hgen : ∀ (n j : Nat) (l : List Bool), l.getD i false = true → (fillV l true j n).getD i false = true := by
      intro n
      induction n with
      | zero => intro j l hl; exact hl
      | succ n ih => intro j l hl; exact ih (j + 1) _ (by grind)
    exact hgen _ _ _ hi
  · show _ = ((a.put (G.gen u) (a.gens (8 * (u : Int)) + 1)).born _).hdl u
    unfold Ar.hdl; rw [b5, if_pos rfl]
  · show ((a.put (G.gen u) (a.gens (8 * (u : Int)) + 1)).born _).stt u = 1
    unfold Ar.stt; rw [b5, if_pos rfl]
  · intro v hv
    rw [b5, if_neg hv]
  · show ((a.put (G.gen u) (a.gens (8 * (u : Int)) + 1)).born _).hdl u = _
    unfold Ar.hdl; rw [b5, if_pos rfl]
  · unfold m60
    simp only [show ((3 : Int) == 0) = false by decide, show ((3 : Int) == 1) = false by decide, show ((3 : Int) == 2) = false by decide, show ((3 : Int) == 3) = true by decide, cond_true, cond_false, hI.wf, hjl]
    rw [rawAt_eq hj, g1, hgw, putRaw_eq hj hf, b1]
    rfl
end Go.Sx

/- An alloc's run. No condition. -/
set_option linter.unusedVariables false
set_option linter.unusedSimpArgs false
namespace Go.Sx

/-- A machine goes to its end, by so many steps, each of which uses once at most. -/
inductive Goes {σ : Type} (step : σ → Option (Bool × σ)) (us : σ → Int) : σ → Nat → σ → Prop
  | last {s s' : σ} (h : step s = some (true, s')) (hu : us s ≤ us s' ∧ us s' ≤ us s + 1) : Goes step us s 1 s'
  | more {s s1 s' : σ} {n : Nat} (h : step s = some (false, s1)) (hu : us s ≤ us s1 ∧ us s1 ≤ us s + 1) (hn : Goes step us s1 n s') : Goes step us s (n + 1) s'

structure EffN (G : Geo) (a a' : Ar) (n : Nat) : Prop where
  words : a'.words = a.words
  far : ∀ j, G.carve < j → a'.rg j = a.rg j
  uses : a'.uses = a.uses + n
  cmono : ∀ i, a.carved.getD i false = true → a'.carved.getD i false = true
theorem Eff.one {G : Geo} {a a' : Ar} (h : Eff G a a') : EffN G a a' 1 := ⟨h.words, h.far, h.uses, h.cmono⟩
theorem EffN.cons {G : Geo} {a b c : Ar} {n : Nat} (h : Eff G a b) (h' : EffN G b c n) : EffN G a c (n + 1) :=
  ⟨h'.words.trans h.words, fun j hj => (h'.far j hj).trans (h.far j hj), by rw [h'.uses, h.uses]; omega, fun i hi => h'.cmono i (h.cmono i hi)⟩
theorem EffN.trans {G : Geo} {a b c : Ar} {n m : Nat} (h : EffN G a b n) (h' : EffN G b c m) : EffN G a c (n + m) :=
  ⟨h'.words.trans h.words, fun j hj => (h'.far j hj).trans (h.far j hj), by rw [h'.uses, h.uses]; omega, fun i hi => h'.cmono i (h.cmono i hi)⟩

def st60 (s : Al × Ar) : Option (Bool × Al × Ar) := m60 s.1 s.2
def us60 (s : Al × Ar) : Int := s.2.uses

def AlRes (G : Geo) (a : Ar) (h : Gh) (k c : Nat) (x' : Al) (a' : Ar) : Prop :=
  AlNone G a a' h k c x' ∨ ∃ u h', Take G h h' c u ∧ AlSome G a a' h' k c x' u

theorem AlSome.of {G : Geo} {a b a' : Ar} {h : Gh} {k c : Nat} {x' : Al} {u : Nat} (hs : Same a b) (q : AlSome G b a' h k c x' u) : AlSome G a a' h k c x' u := by
  refine ⟨q.inv, q.cl, ?_, q.hdl, q.live, ?_, ?_, by rw [q.ret, hs.ret], by rw [q.lv, hs.lv]⟩
  · have := q.was
    unfold Ar.stt at this ⊢
    rw [hs.slots] at this; exact this
  · intro v hv; rw [q.slots v hv, hs.slots]
  · rw [q.gens, hs.gens]
theorem AlRes.of {G : Geo} {a b a' : Ar} {h : Gh} {k c : Nat} {x' : Al} (hs : Same a b) (hr : AlRes G b h k c x' a') : AlRes G a h k c x' a' := by
  rcases hr with h | ⟨u, h', h1, h2⟩
  · exact .inl ⟨h.inv, h.hdl, h.slots.trans hs.slots, h.empty, h.full⟩
  · exact .inr ⟨u, h', h1, h2.of hs⟩

theorem few_step {a a' : Ar} {n : Nat} (h : 0 ≤ a.uses ∧ a.uses + (n + 1 : Nat) < 4000000000000000000) (hu : a'.uses = a.uses + 1) : a.few ∧ (0 ≤ a'.uses ∧ a'.uses + n < 4000000000000000000) := by
  unfold Ar.few; omega

/-- From where a block was taken. -/
theorem al_last {G : Geo} {a : Ar} {h : Gh} {k : Nat} (hI : Inv G a h k) (hk : k < 1000000000) (hf : a.few) {wk c u : Nat} {x : Al} (hx : AlAt G a h wk c x) (h3 : x.what = 3) (hb : x.base = 8 * (u : Int)) (hu : Loose a h u c) :
    ∃ x' a', Goes st60 us60 (x, a) 1 (x', a') ∧ EffN G a a' 1 ∧ AlSome G a a' h k c x' u := by
  obtain ⟨pop, list, what, base, rfl, _⟩ := hx
  simp only at h3 hb
  subst h3 hb
  obtain ⟨x', a', e1, e2, e3⟩ := al_bears hI hf hk (wk := wk) (pop := pop) (list := list) hu
  exact ⟨x', a', .last e1 (by have := e2.uses; simp only [us60]; omega), e2.one, e3⟩

theorem al_goes {G : Geo} {wk c k : Nat} (hwk : wk < G.W) (hc : c < 4) (hk : k < 1000000000) : ∀ (n : Nat) (x : Al) (a : Ar) (h : Gh), AlMeas G x ≤ n → Inv G a h k → (0 ≤ a.uses ∧ a.uses + n < 4000000000000000000) → AlAt G a h wk c x → x.what ≠ 3 →
    ∃ m x' a', m ≤ n ∧ Goes st60 us60 (x, a) m (x', a') ∧ EffN G a a' m ∧ AlRes G a h k c x' a'
  | 0, x, a, h, hm, hI, hu, hx, h3 => by
    exfalso
    unfold AlMeas at hm
    split at hm
    · omega
    · split at hm
      · omega
      · split at hm <;> omega
  | n + 1, x, a, h, hm, hI, hu, hx, h3 => by
    have hx0 := hx
    obtain ⟨pop, list, what, base, rfl, hx⟩ := hx
    rcases hx with ⟨rfl, rfl, i, hi, rfl, hp, hall⟩ | ⟨rfl, hall⟩ | ⟨rfl, hall, rfl, hr⟩ | ⟨rfl, _⟩
    · obtain ⟨x1, a1, e1, e2, e3, e4⟩ := al_pops hI (few_step hu (a' := a.tick) rfl).1 hwk hc hi hp hall
      obtain ⟨f1, f2⟩ := few_step hu e2.uses
      rcases e4 with ⟨g1, g2, g3, g4⟩ | ⟨h', u, g1, g2, g3, g4, g5, g6⟩
      · obtain ⟨m, x', a', i1, i2, i3, i4⟩ := al_goes hwk hc hk n x1 a1 h (by omega) g1 f2 g2 g3
        exact ⟨m + 1, x', a', by omega, .more e1 (by have := e2.uses; simp only [us60]; omega) i2, .cons e2 i3, i4.of e3⟩
      · have hn : 1 ≤ n := by
          simp only [AlMeas, if_true] at hm; omega
        obtain ⟨x', a', i2, i3, i4⟩ := al_last g2 hk (by unfold Ar.few; omega) g6 g3 g4 g5
        exact ⟨2, x', a', by omega, .more e1 (by have := e2.uses; simp only [us60]; omega) i2, .cons e2 i3, .inr ⟨u, h', g1, i4.of e3⟩⟩
    · obtain ⟨b, x1, e1, e2⟩ := al_carves hI (few_step hu (a' := a.tick) rfl).1 hc hall (wk := wk) (pop := pop) (list := list) (base := base)
      have f2 := (few_step hu (a' := a.tick) rfl).2
      have hu1 : a.uses ≤ a.tick.uses ∧ a.tick.uses ≤ a.uses + 1 := by unfold Ar.tick; simp only; omega
      rcases e2 with ⟨rfl, g2, g3⟩ | ⟨rfl, g2⟩
      · obtain ⟨m, x', a', i1, i2, i3, i4⟩ := al_goes hwk hc hk n x1 a.tick h (by
            simp only [AlMeas, show ¬ ((1 : Int) = 0) by decide, if_false, if_true] at hm
            simp only [AlMeas, g3, show ¬ ((2 : Int) = 0) by decide, show ¬ ((2 : Int) = 1) by decide, if_false, if_true]; omega) hI.tick f2 g2 (by rw [g3]; decide)
        exact ⟨m + 1, x', a', by omega, .more e1 hu1 i2, .cons (Eff.tick G a) i3, i4.of (Same.tick a)⟩
      · exact ⟨1, x1, a.tick, by omega, .last e1 hu1, (Eff.tick G a).one, .inl g2⟩
    · obtain ⟨x1, a1, e1, e2, e3, e4, e5, e6, e7, e8, e9⟩ := al_swaps hI (few_step hu (a' := a.tick) rfl).1 hc hall hr (wk := wk) (pop := pop) (list := list)
      obtain ⟨f1, f2⟩ := few_step hu e2.uses
      have hn : 1 ≤ n := by
        simp only [AlMeas, show ¬ ((2 : Int) = 0) by decide, show ¬ ((2 : Int) = 1) by decide, if_false, if_true] at hm; omega
      obtain ⟨x', a', i2, i3, i4⟩ := al_last e5 hk (by unfold Ar.few; omega) e9 e6 e7 e8
      exact ⟨2, x', a', by omega, .more e1 (by have := e2.uses; simp only [us60]; omega) i2, .cons e2 i3, .inr ⟨h.top, cutGh h c, e4, i4.of e3⟩⟩
    · exact absurd rfl h3

/-- A new alloc. -/
def newAl (G : Geo) (wk c : Nat) : Al := ⟨⟨G.pl, (G.head wk c : Nat), 0, 0, 0, 0, false⟩, G.pl, (wk : Nat), (c : Nat), 0, 0, 0, 0⟩
theorem newAl_at {G : Geo} {a : Ar} {h : Gh} {wk c : Nat} (hwk : wk < G.W) : AlAt G a h wk c (newAl G wk c) := by
  have hW := G.hW
  refine ⟨_, _, _, _, rfl, .inl ⟨rfl, rfl, 0, by omega, rfl, ⟨0, 0, 0, ?_, .inl rfl⟩, fun j hj => by omega⟩⟩
  have : G.ith wk 0 = wk := by unfold Geo.ith; rw [Nat.add_zero, Nat.mod_eq_of_lt hwk]
  rw [this]
theorem newAl_meas (G : Geo) (wk c : Nat) : AlMeas G (newAl G wk c) = 3 * G.W + 6 := by
  simp only [AlMeas, newAl, if_true]
  have : (0 : Int).toNat = 0 := rfl
  omega
theorem m59_eq (G : Geo) {wk c : Nat} (hwk : wk < G.W) (hc : c < 4) : m59 G.pl.work G.pl.heads G.pl.links G.pl.gens G.pl.carved (wk : Nat) (c : Nat) = some (newAl G wk c) := by
  have hW := G.hW
  have hp := pow_le8 hc
  unfold m59
  rw [hSize_eq hc, show (((8 * 2 ^ c : Nat) : Int) == 0) = false by rw [beq_eq_false_iff_ne]; omega]
  simp only [cond_false]
  have e1 : w64 (4 * (wk : Int)) = 4 * (wk : Int) := w64_id (by omega) (by omega)
  have e2 : w64 (w64 (G.pl.heads + w64 (4 * (wk : Int))) + (c : Int)) = ((G.head wk c : Nat) : Int) := by
    show w64 (w64 (0 + w64 (4 * (wk : Int))) + (c : Int)) = _
    rw [e1, w64_id (x := 0 + 4 * (wk : Int)) (by omega) (by omega), w64_id (by omega) (by omega)]
    unfold Geo.head; omega
  rw [e2]; rfl

/-- The run of 'one'. -/
theorem one_while {s s' : Al × Ar} {n : Nat} (hg : Goes st60 us60 s n s') : ∀ (i fuel : Nat), i + n ≤ 100 → n ≤ fuel → whileM (fun s : Al × Ar × Int => mL17b0 s.1 s.2.1 s.2.2) fuel (s.1, s.2, (i : Int)) = some (s'.1.h, s'.1, s'.2, ((i + n - 1 : Nat) : Int)) := by
  induction hg with
  | @last s s' h hu =>
    intro i fuel hi hf
    obtain ⟨fuel, rfl⟩ : ∃ f, fuel = f + 1 := ⟨fuel - 1, by omega⟩
    have h0 : m60 s.1 s.2 = some (true, s'.1, s'.2) := h
    simp only [whileM, mL17b0]
    rw [decide_eq_true (show (i : Int) < 100 by omega), h0]
    rfl
  | @more s s1 s' n h hu hn ih =>
    intro i fuel hi hf
    obtain ⟨fuel, rfl⟩ : ∃ f, fuel = f + 1 := ⟨fuel - 1, by omega⟩
    have h0 : m60 s.1 s.2 = some (false, s1.1, s1.2) := h
    have ih := ih (i + 1) fuel (by omega) (by omega)
    have hw : w64 ((i : Int) + 1) = ((i + 1 : Nat) : Int) := w64_id (by omega) (by omega)
    simp only [whileM, mL17b0]
    rw [decide_eq_true (show (i : Int) < 100 by omega), h0]
    simp only [Option.bind_some, cond_true, cond_false, hw]
    rw [show i + (n + 1) - 1 = i + 1 + n - 1 by omega]
    exact ih
theorem one_run {G : Geo} {a : Ar} {h : Gh} {k wk : Nat} (hI : Inv G a h k) (hk : k < 1000000000) (hu : 0 ≤ a.uses ∧ a.uses + 100 < 4000000000000000000) (hwk : wk < G.W) (hW : 3 * G.W + 6 ≤ 100) :
    ∃ m x' a', m ≤ 3 * G.W + 6 ∧ m17 a G.pl.work G.pl.heads G.pl.links G.pl.gens G.pl.carved (wk : Nat) = some (x'.h, a') ∧ EffN G a a' m ∧ AlRes G a h k 0 x' a' := by
  obtain ⟨m, x', a', i1, i2, i3, i4⟩ := al_goes hwk (show 0 < 4 by decide) hk (3 * G.W + 6) (newAl G wk 0) a h (by rw [newAl_meas]; exact Nat.le_refl _) hI (by omega) (newAl_at hwk) (by show (0 : Int) ≠ 3; decide)
  refine ⟨m, x', a', i1, ?_, i3, i4⟩
  have := one_while i2 0 6000 (by omega) (by omega)
  unfold m17 w17b0
  have e := m59_eq G hwk (show 0 < 4 by decide)
  rw [show ((0 : Nat) : Int) = 0 from rfl] at e this
  rw [e]
  simp only [Option.getD_some]
  rw [this]; rfl
end Go.Sx

/- A free's steps. No condition. -/
set_option linter.unusedVariables false
set_option linter.unusedSimpArgs false
namespace Go.Sx

/-- A block on no list gets a link. -/
theorem Inv.linked' {G : Geo} {a : Ar} {h : Gh} {k : Nat} (hI : Inv G a h k) {u c : Nat} (hcl : h.cl u = some c) (hnl : ∀ w c', u ∉ h.fl w c') (x : Int) : Inv G (a.put (G.link u) x) h k := by
  have hlen := hI.lens.1
  have hR := G.hR
  obtain ⟨hU, hc, _⟩ := hI.unit hcl
  have e : ∀ i, i ≠ G.link u → (a.put (G.link u) x).rg i = a.rg i := fun i hi => by rw [rg_put (by rw [hlen]; unfold Geo.link; omega), if_neg hi]
  refine hI.put rfl rfl ?_ hI.flin hI.flnd hI.fldj ?_ ?_
  · intro w' c' hw' hc'
    rw [e _ (by unfold Geo.head Geo.link; omega)]
    refine Chain.congr (fun v hv => (e _ ?_).symm) (hI.chain w' c' hw' hc')
    have : v ≠ u := fun hvu => hnl w' c' (hvu ▸ hv)
    unfold Geo.link; omega
  · rw [e _ (by unfold Geo.carve Geo.link; omega)]; exact hI.carved
  · intro v hv
    exact e _ (by unfold Geo.gen Geo.link; omega)
theorem Inv.nolist {G : Geo} {a : Ar} {h : Gh} {k : Nat} (hI : Inv G a h k) {u : Nat} (hu : a.stt u ≠ 0) : ∀ w c, u ∉ h.fl w c :=
  fun w c hm => hu (hI.flin w c u hm).2.2.2

/-- How far a free has come. -/
def FrAt (G : Geo) (a : Ar) (h : Gh) (w u : Nat) (x : Fr) : Prop :=
  ∃ c was at_, h.cl u = some c ∧ a.stt u = 2 ∧ x = ⟨G.pl, (G.head w c : Nat), was, at_, 8 * (u : Int), a.hdl u, false⟩ ∧
    (at_ = 0 ∨ (at_ = 1 ∧ was = a.rg (G.head w c)) ∨ (at_ = 2 ∧ was = a.rg (G.head w c) ∧ a.rg (G.link u) = low was))
def pushGh (h : Gh) (w c u : Nat) : Gh := { h with fl := setFl h.fl w c (u :: h.fl w c) }
/-- A block is freed. -/
structure Freed (G : Geo) (a a' : Ar) (h : Gh) (k w u : Nat) : Prop where
  ex : ∃ c, h.cl u = some c ∧ Inv G a' (pushGh h w c u) k
  slots : ∀ v : Nat, a'.slots (8 * (v : Int)) = if v = u then (a.hdl u, 0) else a.slots (8 * (v : Int))
  gens : a'.gens = a.gens
  ret : a'.nRetired = a.nRetired - siz h u
  lv : a'.nLive = a.nLive

theorem fr_step {G : Geo} {a : Ar} {h : Gh} {k : Nat} (hI : Inv G a h k) (hf : a.few) (hk : k < 1000000000) {w u : Nat} (hw : w < G.W) {x : Fr} (hx : FrAt G a h w u x) :
    ∃ b x' a', m117 x a = some (b, x', a') ∧ Eff G a a' ∧
      ((b = false ∧ Same a a' ∧ Inv G a' h k ∧ FrAt G a' h w u x' ∧ x'.at_ = x.at_ + 1 ∧ 0 ≤ x.at_ ∧ x.at_ ≤ 1) ∨ (b = true ∧ x.at_ = 2 ∧ Freed G a a' h k w u)) := by
  obtain ⟨c, was, at_, hcl, hst, rfl, hx⟩ := hx
  obtain ⟨hU, hc, _⟩ := hI.unit hcl
  have hR := G.hR
  have hrN := hI.rawN
  have hWW := G.hW
  have hUU := G.hU
  have hN := G.hN
  have hh : G.head w c < a.rawN := by rw [hrN]; unfold Geo.head; omega
  have hl : G.link u < a.rawN := by rw [hrN]; unfold Geo.link; omega
  have hnl := hI.nolist (u := u) (by rw [hst]; decide)
  have d8 : (8 * (u : Int)).tdiv 8 = u := by rw [Int.tdiv_eq_ediv_of_nonneg (by omega)]; omega
  have hlow : 0 ≤ low (a.rg (G.head w c)) ∧ low (a.rg (G.head w c)) < 131072 := by unfold low; omega
  rcases hx with rfl | ⟨rfl, hwas⟩ | ⟨rfl, hwas, hlk⟩
  · -- the head is read
    refine ⟨false, ⟨G.pl, (G.head w c : Nat), a.rg (G.head w c), 1, 8 * (u : Int), a.hdl u, false⟩, a.tick, ?_, Eff.tick G a, .inl ⟨rfl, Same.tick a, hI.tick, ⟨c, _, _, hcl, hst, rfl, .inr (.inl ⟨rfl, rfl⟩)⟩, rfl, by simp, by simp⟩⟩
    unfold m117 Fr.step
    simp only [show ¬ ((0 : Int) = 1) by decide, show ¬ ((0 : Int) = 2) by decide, show ¬ ((0 : Int) = 3) by decide, if_false, rawAt_eq hh, touch_eq hh hf, hI.wf, Bool.not_false, cond_true, cond_false, Bool.true_or]
  · -- the link is set
    have hj : w64 (G.pl.links + w64 ((8 * (u : Int)).tdiv 8)) = ((G.link u : Nat) : Int) := by
      rw [d8]
      show w64 (((4 * G.W : Nat) : Int) + w64 (u : Int)) = _
      rw [w64_id (x := (u : Int)) (by omega) (by omega), w64_id (by omega) (by omega)]
      unfold Geo.link; omega
    have e1 : ∀ i, i ≠ G.link u → (a.put (G.link u) (low was)).rg i = a.rg i := fun i hi => by rw [rg_put (by rw [hI.lens.1]; unfold Geo.link; omega), if_neg hi]
    have e2 : (a.put (G.link u) (low was)).rg (G.link u) = low was := by rw [rg_put (by rw [hI.lens.1]; unfold Geo.link; omega), if_pos rfl]
    refine ⟨false, ⟨G.pl, (G.head w c : Nat), was, 2, 8 * (u : Int), a.hdl u, false⟩, a.put (G.link u) (low was), ?_, Eff.put (by unfold Geo.link Geo.carve; omega) hI.carve_lt, .inl ⟨rfl, Same.put _ _ _, hI.linked' hcl hnl _, ⟨c, _, _, hcl, hst, rfl, .inr (.inr ⟨rfl, by rw [e1 _ (by unfold Geo.head Geo.link; omega)]; exact hwas, e2⟩)⟩, rfl, by simp, by simp⟩⟩
    unfold m117 Fr.step
    simp only [if_true, hj, and_low, putRaw_eq hl hf, hI.wf, Bool.not_false, cond_true, cond_false, Bool.true_or]
  · -- the head is swapped, and the slot dies
    subst hwas
    obtain ⟨d1, d2, d3, d4, d5, d6, d7, d8', d9, c', hlo⟩ := hI.dies hk hst
    have hcc : c' = c := by have := hlo.1; rw [hcl] at this; exact (Option.some.inj this).symm
    subst hcc
    have hnx : w64 (w64 ((8 * (u : Int)).tdiv 8) + 1) = (u : Int) + 1 := by
      rw [d8, w64_id (x := (u : Int)) (by omega) (by omega), w64_id (by omega) (by omega)]
    have hn : low (hNext (a.rg (G.head w c')) ((u : Int) + 1)) = u + 1 := low_next _ _ (by omega) (by omega)
    have hrg : ∀ j, (a.died (a.hdl u)).rg j = a.rg j := fun j => by unfold Ar.rg; rw [d4]
    have hpush := d2.pushed hw hlo (hNext (a.rg (G.head w c')) ((u : Int) + 1)) hn (by rw [hrg, hrg]; exact hlk)
    refine ⟨true, ⟨G.pl, (G.head w c' : Nat), a.rg (G.head w c'), 3, 8 * (u : Int), a.hdl u, true⟩, (a.died (a.hdl u)).put (G.head w c') (hNext (a.rg (G.head w c')) ((u : Int) + 1)), ?_, ?_, .inr ⟨rfl, rfl, ⟨⟨c', hcl, hpush⟩, d3, d7, d9, d8'⟩⟩⟩
    · rw [← died_put]
      unfold m117 Fr.step
      simp only [show ¬ ((2 : Int) = 1) by decide, if_false, if_true, hnx, swapOk_eq hh, swapTo_eq hh hf rfl, beq_self_eq_true, hI.wf, Bool.not_false, cond_true, cond_false, Bool.true_or]
      have : (a.put (G.head w c') (hNext (a.rg (G.head w c')) ((u : Int) + 1))).diedOk (a.hdl u) = true := d1
      rw [this]; rfl
    · have hlen : (a.died (a.hdl u)).raw.length = a.raw.length := by rw [d4]
      have hcl' := hI.carve_lt
      refine ⟨d6, fun j hj => ?_, by show (a.died (a.hdl u)).uses + 1 = _; rw [d5], ?_⟩
      · rw [rg_put (by rw [hlen]; unfold Geo.head; unfold Geo.carve at hcl'; omega), if_neg (by unfold Geo.head; unfold Geo.carve at hj; omega)]
        unfold Ar.rg; rw [d4]
      · intro i hi
        show (a.died (a.hdl u)).carved.getD i false = true
        have : (a.died (a.hdl u)).carved = a.carved := by
          unfold Ar.died
          split
          · rw [idleN_eq]; rfl
          · rfl
        rw [this]; exact hi
theorem fr_goes {G : Geo} {a : Ar} {h : Gh} {k : Nat} (hI : Inv G a h k) (hu : 0 ≤ a.uses ∧ a.uses + 3 < 4000000000000000000) (hk : k < 1000000000) {w u c : Nat} (hw : w < G.W) (hcl : h.cl u = some c) (hst : a.stt u = 2) :
    ∃ x' a', Goes (fun s : Fr × Ar => m117 s.1 s.2) (fun s => s.2.uses) (mkFree G.pl (w : Nat) (a.hdl u), a) 3 (x', a') ∧ EffN G a a' 3 ∧ Freed G a a' h k w u := by
  obtain ⟨c0, o1, o2, o3, o4, o5, o6, o7, o8, o9⟩ := hI.opened hk (u := u) (by rw [hst]; decide)
  have hc0 : c0 = c := by rw [hcl] at o1; exact (Option.some.inj o1).symm
  subst hc0
  have hWW := G.hW
  have e : mkFree G.pl (w : Nat) (a.hdl u) = ⟨G.pl, (G.head w c0 : Nat), 0, 0, 8 * (u : Int), a.hdl u, false⟩ := by
    unfold mkFree
    have e1 : w64 (4 * (w : Int)) = 4 * (w : Int) := w64_id (by omega) (by omega)
    have e2 : w64 (w64 (G.pl.heads + w64 (4 * (w : Int))) + hC (a.hdl u)) = ((G.head w c0 : Nat) : Int) := by
      rw [o7]
      show w64 (w64 (0 + w64 (4 * (w : Int))) + (c0 : Int)) = _
      rw [e1, w64_id (x := 0 + 4 * (w : Int)) (by omega) (by omega), w64_id (by omega) (by omega)]
      unfold Geo.head; omega
    rw [e2, o5]
  rw [e]
  have h0 : FrAt G a h w u ⟨G.pl, (G.head w c0 : Nat), 0, 0, 8 * (u : Int), a.hdl u, false⟩ := ⟨c0, 0, 0, hcl, hst, rfl, .inl rfl⟩
  obtain ⟨b1, x1, a1, p1, p2, p3⟩ := fr_step hI (by unfold Ar.few; omega) hk hw h0
  rcases p3 with ⟨rfl, p4, p5, p6, p7, _⟩ | ⟨_, p4, _⟩
  rotate_left
  · simp at p4
  have u1 := p2.uses
  obtain ⟨b2, x2, a2, q1, q2, q3⟩ := fr_step p5 (by unfold Ar.few; omega) hk hw p6
  rcases q3 with ⟨rfl, q4, q5, q6, q7, _⟩ | ⟨_, q4, _⟩
  rotate_left
  · rw [p7] at q4; simp at q4
  have u2 := q2.uses
  obtain ⟨b3, x3, a3, r1, r2, r3⟩ := fr_step q5 (by unfold Ar.few; omega) hk hw q6
  rcases r3 with ⟨_, _, _, _, _, r4, r5⟩ | ⟨rfl, r4, r5⟩
  · rw [q7, p7] at r5; simp at r5
  have u3 := r2.uses
  refine ⟨x3, a3, .more p1 (by simp only; omega) (.more q1 (by simp only; omega) (.last r1 (by simp only; omega))), .cons p2 (.cons q2 r2.one), ?_⟩
  have hs := p4.trans q4
  have hh : a2.hdl u = a.hdl u := by unfold Ar.hdl; rw [hs.slots]
  refine ⟨r5.ex, fun v => ?_, by rw [r5.gens, hs.gens], by rw [r5.ret, hs.ret], by rw [r5.lv, hs.lv]⟩
  rw [r5.slots, hh, hs.slots]
end Go.Sx

/- A scan's steps. No condition. -/
set_option linter.unusedVariables false
set_option linter.unusedSimpArgs false
namespace Go.Sx

def optL {α : Type} (L : List α) : Option (List α × Nat) := if L.isEmpty then none else some (L, L.length)
theorem optL_nil {α : Type} : optL ([] : List α) = none := rfl
theorem optL_cons {α : Type} (x : α) (l : List α) : optL (x :: l) = some (x :: l, (x :: l).length) := rfl

/-- A scan that reads. -/
def scRd (G : Geo) (hz wk j : Nat) (l : List Int) (seen : Int → Bool) : Sc Kd := ⟨(G.W : Nat), (hz : Nat), G.pl, (wk : Nat), (j : Nat), some (l, l.length), seen, none, none, false⟩
/-- A scan that frees, or has ended. -/
def scFr (G : Geo) (hz wk : Nat) (l : List Int) (F : List Kd) (L : List Int) : Sc Kd := ⟨(G.W : Nat), (hz : Nat), G.pl, (wk : Nat), ((2 * G.W : Nat) : Int), some (l, l.length), fun _ => false, optL F, optL L, F.isEmpty⟩
def theFrees (G : Geo) (wk : Nat) (seen : Int → Bool) (l : List Int) : List Kd := (l.filter fun h => !seen h).map fun h => .free (mkFree G.pl (wk : Nat) h)
def theLeft (seen : Int → Bool) (l : List Int) : List Int := l.filter seen

theorem sortF_eq (x : Sc Kd) (seen : Int → Bool) : ∀ (l : List Int) (F : List Kd), sortF x seen l F = F ++ (l.filter fun h => !seen h).map fun h => .free (mkFree x.p x.work h)
  | [], F => by simp [sortF]
  | h :: l, F => by
    rw [sortF, sortF_eq x seen l]
    cases hs : seen h <;> simp [hs]
theorem sortL_eq (seen : Int → Bool) : ∀ (l L : List Int), sortL seen l L = L ++ l.filter seen
  | [], L => by simp [sortL]
  | h :: l, L => by
    rw [sortL, sortL_eq seen l]
    cases hs : seen h <;> simp [hs]

theorem sc_read {G : Geo} {a : Ar} (hwf : a.wf = true) (hf : a.few) {hz wk j : Nat} (hj : j < 2 * G.W) (hr : hz + 2 * G.W ≤ a.rawN) (hN : a.rawN ≤ 65536) {l : List Int} (hl : l.length ≤ 1000) {seen : Int → Bool} :
    m157 (scRd G hz wk j l seen) a = some (if j + 1 < 2 * G.W then (false, scRd G hz wk (j + 1) l (upf seen (a.rg (hz + j)) true), a.tick)
      else ((theFrees G wk (upf seen (a.rg (hz + j)) true) l).isEmpty, scFr G hz wk l (theFrees G wk (upf seen (a.rg (hz + j)) true) l) (theLeft (upf seen (a.rg (hz + j)) true) l), a.tick)) := by
  have hWW := G.hW
  have e1 : w64 ((2 : Int) * if (0 : Int) > ((G.W : Nat) : Int) then (0 : Int) else ((G.W : Nat) : Int)) = ((2 * G.W : Nat) : Int) := by
    rw [if_neg (by omega), w64_id (by omega) (by omega)]; omega
  have e2 : w64 (((hz : Nat) : Int) + ((j : Nat) : Int)) = ((hz + j : Nat) : Int) := by rw [w64_id (by omega) (by omega)]; omega
  have e3 : w64 (((j : Nat) : Int) + 1) = ((j + 1 : Nat) : Int) := w64_id (by omega) (by omega)
  have hh : hz + j < a.rawN := by omega
  have e4 : a.rawAt ((hz + j : Nat) : Int) = a.rg (hz + j) := rawAt_eq hh
  have e5 : a.touch ((hz + j : Nat) : Int) = a.tick := touch_eq hh hf
  generalize hs2 : upf seen (a.rg (hz + j)) true = seen2
  by_cases hlast : j + 1 < 2 * G.W
  · rw [if_pos hlast]
    unfold m157 scRd
    simp only [cond_false, e1, e2, e3, e4, e5, hwf, cond_true]
    rw [decide_eq_true (show ((j : Nat) : Int) < ((2 * G.W : Nat) : Int) by omega)]
    rw [show (((j + 1 : Nat) : Int) == ((2 * G.W : Nat) : Int)) = false by rw [beq_eq_false_iff_ne]; omega]
    simp only [cond_true, cond_false, hs2]
  · rw [if_neg hlast]
    obtain hj2 : j + 1 = 2 * G.W := by omega
    unfold m157 scRd
    simp only [cond_false, e1, e2, e3, e4, e5, hwf, cond_true]
    rw [decide_eq_true (show ((j : Nat) : Int) < ((2 * G.W : Nat) : Int) by omega)]
    rw [show (((j + 1 : Nat) : Int) == ((2 * G.W : Nat) : Int)) = true by rw [beq_iff_eq]; omega]
    simp only [cond_true, cond_false, hs2]
    rw [decide_eq_true (by exact ⟨trivial, trivial, trivial, trivial, hl⟩)]
    simp only [cond_true]
    unfold scF scL
    rw [sortF_eq, sortL_eq]
    simp only [List.nil_append]
    unfold scFr theFrees theLeft
    generalize hF : ((l.filter fun h => !seen2 h).map fun h => Kd.free (mkFree G.pl (wk : Nat) h)) = F
    generalize hL : l.filter seen2 = L
    rw [hj2]
    match F, L with
    | [], [] => rfl
    | f :: F, [] => rfl
    | [], v :: L => rfl
    | f :: F, v :: L => rfl

theorem sc_free {G : Geo} {a : Ar} {hz wk : Nat} {l : List Int} {f : Fr} {F : List Kd} {L : List Int} {b : Bool} {f' : Fr} {a' : Ar} (h : m117 f a = some (b, f', a')) :
    m157 (scFr G hz wk l (.free f :: F) L) a = some (if b then (F.isEmpty, { scFr G hz wk l F L with frees := some (F, F.length) }, a') else (false, scFr G hz wk l (.free f' :: F) L, a')) := by
  have hWW := G.hW
  have e1 : w64 ((2 : Int) * if (0 : Int) > ((G.W : Nat) : Int) then (0 : Int) else ((G.W : Nat) : Int)) = ((2 * G.W : Nat) : Int) := by
    rw [if_neg (by omega), w64_id (by omega) (by omega)]; omega
  have d1 : decide (((2 * G.W : Nat) : Int) < ((2 * G.W : Nat) : Int)) = false := decide_eq_false (by omega)
  have d2 : (((2 * G.W : Nat) : Int) == 0) = false := by rw [beq_eq_false_iff_ne]; omega
  match F, L with
  | [], [] =>
    unfold scFr m157
    simp only [optL, List.isEmpty_cons, List.isEmpty_nil, Bool.false_eq_true, if_false, if_true, List.length_cons, List.length_nil, Nat.zero_add, cond_false, cond_true, e1, d1, d2]
    rw [h]
    cases b <;> rfl
  | [], v :: L =>
    unfold scFr m157
    simp only [optL, List.isEmpty_cons, List.isEmpty_nil, Bool.false_eq_true, if_false, if_true, List.length_cons, List.length_nil, Nat.zero_add, cond_false, cond_true, e1, d1, d2]
    rw [h]
    cases b <;> rfl
  | g :: F, [] =>
    have d3 : decide ((0 : Int) ≤ 0 ∧ (0 : Int) < ((F.length + 1 + 1 : Nat) : Int)) = true := decide_eq_true (by omega)
    have d4 : (((F.length + 1 : Nat) : Int) == 0) = false := by rw [beq_eq_false_iff_ne]; omega
    unfold scFr m157
    simp only [optL, List.isEmpty_cons, List.isEmpty_nil, Bool.false_eq_true, if_false, if_true, List.length_cons, List.length_nil, cond_false, cond_true, e1, d1, d2, d3, d4]
    rw [h]
    cases b
    · rfl
    · simp only [Option.bind_some, cond_true, beq_self_eq_true, if_true]
  | g :: F, v :: L =>
    have d3 : decide ((0 : Int) ≤ 0 ∧ (0 : Int) < ((F.length + 1 + 1 : Nat) : Int)) = true := decide_eq_true (by omega)
    have d4 : (((F.length + 1 : Nat) : Int) == 0) = false := by rw [beq_eq_false_iff_ne]; omega
    unfold scFr m157
    simp only [optL, List.isEmpty_cons, List.isEmpty_nil, Bool.false_eq_true, if_false, if_true, List.length_cons, List.length_nil, cond_false, cond_true, e1, d1, d2, d3, d4]
    rw [h]
    cases b
    · rfl
    · simp only [Option.bind_some, cond_true, beq_self_eq_true, if_true]
end Go.Sx

/- A scan's run. No condition. -/
set_option linter.unusedVariables false
set_option linter.unusedSimpArgs false
namespace Go.Sx

/-- Steps that do not end. -/
inductive Walk {σ : Type} (step : σ → Option (Bool × σ)) (us : σ → Int) : σ → Nat → σ → Prop
  | nil {s : σ} : Walk step us s 0 s
  | cons {s s1 s' : σ} {n : Nat} (h : step s = some (false, s1)) (hu : us s ≤ us s1 ∧ us s1 ≤ us s + 1) (hn : Walk step us s1 n s') : Walk step us s (n + 1) s'
theorem Walk.goes {σ : Type} {step : σ → Option (Bool × σ)} {us : σ → Int} {s s1 s' : σ} {n m : Nat} (h : Walk step us s n s1) (h' : Goes step us s1 m s') : Goes step us s (n + m) s' := by
  induction h with
  | nil => rw [Nat.zero_add]; exact h'
  | cons h hu hn ih => rw [Nat.add_right_comm]; exact .more h hu (ih h')

def st157 (s : Sc Kd × Ar) : Option (Bool × Sc Kd × Ar) := m157 s.1 s.2
def us157 (s : Sc Kd × Ar) : Int := s.2.uses

/-- One free within a scan. -/
theorem sc_free_last {G : Geo} {hz wk : Nat} {l : List Int} {L : List Int} {s s' : Fr × Ar} {n : Nat} (hg : Goes (fun s : Fr × Ar => m117 s.1 s.2) (fun s => s.2.uses) s n s') :
    Goes st157 us157 (scFr G hz wk l [.free s.1] L, s.2) n ({ scFr G hz wk l [] L with frees := some ([], 0) }, s'.2) := by
  induction hg with
  | @last s s' h hu => exact .last (by unfold st157; simp only; rw [sc_free h]; rfl) hu
  | @more s s1 s' n h hu hn ih => exact .more (s1 := (scFr G hz wk l [.free s1.1] L, s1.2)) (by unfold st157; simp only; rw [sc_free h]; rfl) hu ih
theorem sc_free_walk {G : Geo} {hz wk : Nat} {l : List Int} {L : List Int} {g : Kd} {F : List Kd} {s s' : Fr × Ar} {n : Nat} (hg : Goes (fun s : Fr × Ar => m117 s.1 s.2) (fun s => s.2.uses) s n s') :
    Walk st157 us157 (scFr G hz wk l (.free s.1 :: g :: F) L, s.2) n (scFr G hz wk l (g :: F) L, s'.2) := by
  induction hg with
  | @last s s' h hu => exact .cons (s1 := (scFr G hz wk l (g :: F) L, s'.2)) (by unfold st157; simp only; rw [sc_free h]; rfl) hu .nil
  | @more s s1 s' n h hu hn ih => exact .cons (s1 := (scFr G hz wk l (.free s1.1 :: g :: F) L, s1.2)) (by unfold st157; simp only; rw [sc_free h]; rfl) hu ih

def sizes (h : Gh) (us : List Nat) : Int := (us.map (siz h)).sum
/-- Blocks are freed, one behind the other. -/
structure FreedAll (G : Geo) (a a' : Ar) (h h' : Gh) (k : Nat) (us : List Nat) : Prop where
  inv : Inv G a' h' k
  cl : h'.cl = h.cl
  top : h'.top = h.top
  slots : ∀ v : Nat, a'.slots (8 * (v : Int)) = if v ∈ us then (a.hdl v, 0) else a.slots (8 * (v : Int))
  gens : a'.gens = a.gens
  ret : a'.nRetired = a.nRetired - sizes h us
  lv : a'.nLive = a.nLive
  mono : ∀ w c v, v ∈ h.fl w c → v ∈ h'.fl w c
  on : ∀ v, v ∈ us → ∃ w c, w < G.W ∧ h.cl v = some c ∧ v ∈ h'.fl w c
theorem FreedAll.nil {G : Geo} {a : Ar} {h : Gh} {k : Nat} (hI : Inv G a h k) : FreedAll G a a h h k [] := ⟨hI, rfl, rfl, (fun v => by simp), rfl, (by simp [sizes]), rfl, fun w c v hv => hv, fun v hv => absurd hv (List.not_mem_nil)⟩
theorem pushGh_mem (h : Gh) (w c u : Nat) : u ∈ (pushGh h w c u).fl w c := by simp [pushGh, setFl]
theorem pushGh_mono {h : Gh} {w c u : Nat} {w' c' v : Nat} (hv : v ∈ h.fl w' c') : v ∈ (pushGh h w c u).fl w' c' := by
  simp only [pushGh, setFl]
  split
  · rename_i e; obtain ⟨rfl, rfl⟩ := e; exact List.mem_cons_of_mem _ hv
  · exact hv
theorem FreedAll.cons {G : Geo} {a b c : Ar} {h : Gh} {k w u : Nat} {us : List Nat} {h' : Gh} {cc : Nat} (hw : w < G.W) (hcl : h.cl u = some cc) (h1 : Freed G a b h k w u) (h2 : FreedAll G b c (pushGh h w cc u) h' k us) (hnd : u ∉ us) : FreedAll G a c h h' k (u :: us) := by
  refine ⟨h2.inv, h2.cl, h2.top, fun v => ?_, h2.gens.trans h1.gens, ?_, h2.lv.trans h1.lv, fun w' c' v hv => h2.mono _ _ _ (pushGh_mono hv), fun v hv => ?_⟩
  rotate_right
  · rcases List.mem_cons.1 hv with rfl | hv
    · exact ⟨w, cc, hw, hcl, h2.mono _ _ _ (pushGh_mem h w cc v)⟩
    · exact h2.on v hv
  · rw [h2.slots]
    by_cases e : v = u
    · subst e
      rw [if_neg hnd, if_pos (by simp), h1.slots, if_pos rfl]
    · have hs := h1.slots v
      rw [if_neg e] at hs
      by_cases hm : v ∈ us
      · rw [if_pos hm, if_pos (List.mem_cons_of_mem _ hm)]; unfold Ar.hdl; rw [hs]
      · rw [if_neg hm, if_neg (by simp [e, hm])]; exact hs
  · rw [h2.ret, h1.ret]
    have : sizes (pushGh h w cc u) us = sizes h us := rfl
    rw [this]
    simp only [sizes, List.map_cons, List.sum_cons]; omega

theorem frees_goes {G : Geo} {hz wk k : Nat} {l L : List Int} (hk : k < 1000000000) (hwk : wk < G.W) : ∀ (us : List Nat) (a : Ar) (h : Gh), us ≠ [] → us.Nodup → Inv G a h k → (0 ≤ a.uses ∧ a.uses + 3 * (us.length : Nat) < 4000000000000000000) → (∀ u ∈ us, a.stt u = 2) →
    ∃ a' h', Goes st157 us157 (scFr G hz wk l (us.map fun u => .free (mkFree G.pl (wk : Nat) (a.hdl u))) L, a) (3 * us.length) ({ scFr G hz wk l [] L with frees := some ([], 0) }, a') ∧ EffN G a a' (3 * us.length) ∧ FreedAll G a a' h h' k us
  | [], a, h, hne, _, _, _, _ => absurd rfl hne
  | u :: us, a, h, hne, hnd, hI, hu, hst => by
    have hs := hst u (by simp)
    obtain ⟨c, o1, _⟩ := hI.slot u (by rw [hs]; decide)
    simp only [List.length_cons] at hu
    obtain ⟨x', a1, e1, e2, e3⟩ := fr_goes hI (by omega) hk hwk o1 hs
    obtain ⟨c', q1, q2⟩ := e3.ex
    have hcc : c' = c := by rw [o1] at q1; exact (Option.some.inj q1).symm
    subst hcc
    obtain ⟨hnu, hnd'⟩ := List.nodup_cons.1 hnd
    match us, hnd', hnu, hu, hst with
    | [], _, _, _, _ =>
      refine ⟨a1, pushGh h wk c' u, sc_free_last e1, e2, FreedAll.cons hwk o1 e3 (FreedAll.nil q2) (by simp)⟩
    | v :: us, hnd', hnu, hu, hst =>
      have hne' : ∀ w ∈ v :: us, w ≠ u := fun w hw e => hnu (e ▸ hw)
      have hh : ∀ w ∈ v :: us, a1.hdl w = a.hdl w := fun w hw => by
        unfold Ar.hdl; rw [e3.slots, if_neg (hne' w hw)]
      obtain ⟨a', h', g1, g2, g3⟩ := frees_goes (hz := hz) (l := l) (L := L) hk hwk (v :: us) a1 _ (by simp) hnd' q2 (by
          have := e2.uses
          simp only [List.length_cons] at hu ⊢
          omega) (fun w hw => by
          unfold Ar.stt; rw [e3.slots, if_neg (hne' w hw)]; exact hst w (List.mem_cons_of_mem _ hw))
      have hmap : ((v :: us).map fun u => Kd.free (mkFree G.pl (wk : Nat) (a1.hdl u))) = (v :: us).map fun u => Kd.free (mkFree G.pl (wk : Nat) (a.hdl u)) := List.map_congr_left fun w hw => by rw [hh w hw]
      rw [hmap] at g1
      refine ⟨a', h', ?_, ?_, FreedAll.cons hwk o1 e3 g3 hnu⟩
      · have := (sc_free_walk (hz := hz) (l := l) (L := L) (wk := wk) (g := Kd.free (mkFree G.pl (wk : Nat) (a.hdl v))) (F := us.map fun u => Kd.free (mkFree G.pl (wk : Nat) (a.hdl u))) e1).goes g1
        rw [show 3 * (u :: v :: us).length = 3 + 3 * (v :: us).length by simp only [List.length_cons]; omega]
        exact this
      · rw [show 3 * (u :: v :: us).length = 3 + 3 * (v :: us).length by simp only [List.length_cons]; omega]
        exact e2.trans g2
end Go.Sx

/- A scan's run, whole. No condition. -/
set_option linter.unusedVariables false
set_option linter.unusedSimpArgs false
namespace Go.Sx

def Ar.tickN (a : Ar) (n : Nat) : Ar := { a with uses := a.uses + n }
theorem tickN_zero (a : Ar) : a.tickN 0 = a := by unfold Ar.tickN; simp
theorem tickN_succ (a : Ar) (n : Nat) : (a.tickN n).tick = a.tickN (n + 1) := by
  unfold Ar.tickN Ar.tick; simp only [Ar.mk.injEq, true_and, and_true]; omega
theorem Inv.tickN {G : Geo} {a : Ar} {h : Gh} {k : Nat} (hI : Inv G a h k) (n : Nat) : Inv G (a.tickN n) h k :=
  ⟨hI.wf, hI.fresh, hI.words, hI.rawN, hI.flt, hI.cl4, hI.top, hI.apart, hI.chain, hI.flin, hI.flnd, hI.fldj, hI.carved, hI.gens, hI.slot, hI.busy, hI.cvd, hI.cvt, hI.cvs, hI.nLive, hI.nRet, hI.nFree⟩
theorem EffN.tickN (G : Geo) (a : Ar) (n : Nat) : EffN G a (a.tickN n) n := ⟨rfl, fun _ _ => rfl, rfl, fun _ h => h⟩

/-- What so many words say. -/
def seenN (a : Ar) (hz : Nat) : Nat → Int → Bool
  | 0 => fun _ => false
  | j + 1 => upf (seenN a hz j) (a.rg (hz + j)) true
theorem seenN_iff (a : Ar) (hz : Nat) (v : Int) : ∀ n, seenN a hz n v = true ↔ ∃ j, j < n ∧ a.rg (hz + j) = v
  | 0 => by simp [seenN]
  | n + 1 => by
    simp only [seenN, upf]
    by_cases e : v = a.rg (hz + n)
    · rw [if_pos e]
      exact ⟨fun _ => ⟨n, by omega, e.symm⟩, fun _ => rfl⟩
    · rw [if_neg e, seenN_iff a hz v n]
      constructor
      · rintro ⟨j, h1, h2⟩; exact ⟨j, by omega, h2⟩
      · rintro ⟨j, h1, h2⟩
        refine ⟨j, ?_, h2⟩
        have : j ≠ n := by rintro rfl; exact e h2.symm
        omega

theorem filt_map {α β : Type} (f : α → β) (p : β → Bool) (l : List α) : (l.map f).filter p = (l.filter fun x => p (f x)).map f := by
  induction l with
  | nil => rfl
  | cons x l ih => simp only [List.map_cons, List.filter_cons]; split <;> simp [ih]

theorem m142_end {G : Geo} {hz wk : Nat} {l L : List Int} (hL : L.length ≤ 1000) : m142 { scFr G hz wk l [] L with frees := some ([], 0) } = some (if L.isEmpty then Sum.inl () else Sum.inr (L.length, L)) := by
  match L with
  | [] => rfl
  | v :: L =>
    unfold scFr m142
    simp only [optL, List.isEmpty_cons, List.isEmpty_nil, Bool.false_eq_true, if_false, if_true, Bool.not_true, cond_false, beq_self_eq_true, cond_true]
    rw [decide_eq_false (show ¬ (v :: L).length = 0 by simp), decide_eq_true (show (v :: L).length ≤ 1048576 by omega)]; rfl
theorem m142_end0 {G : Geo} {hz wk : Nat} {l L : List Int} (hL : L.length ≤ 1000) : m142 (scFr G hz wk l [] L) = some (if L.isEmpty then Sum.inl () else Sum.inr (L.length, L)) := by
  match L with
  | [] => rfl
  | v :: L =>
    unfold scFr m142
    simp only [optL, List.isEmpty_cons, List.isEmpty_nil, Bool.false_eq_true, if_false, if_true, Bool.not_true, cond_false, beq_self_eq_true, cond_true]
    rw [decide_eq_false (show ¬ (v :: L).length = 0 by simp), decide_eq_true (show (v :: L).length ≤ 1048576 by omega)]; rfl

/-- The words are read. -/
theorem reads_walk {G : Geo} {a : Ar} (hwf : a.wf = true) {hz wk : Nat} (hr : hz + 2 * G.W ≤ a.rawN) (hN : a.rawN ≤ 65536) {l : List Int} (hl : l.length ≤ 1000) : ∀ (n j : Nat), j + n + 1 = 2 * G.W → (0 ≤ a.uses ∧ a.uses + (2 * G.W : Nat) < 4000000000000000000) →
    Walk st157 us157 (scRd G hz wk j l (seenN a hz j), a.tickN j) n (scRd G hz wk (j + n) l (seenN a hz (j + n)), a.tickN (j + n))
  | 0, j, h, hu => .nil
  | n + 1, j, h, hu => by
    have ih := reads_walk hwf (wk := wk) hr hN hl n (j + 1) (by omega) hu
    rw [show j + 1 + n = j + (n + 1) by omega] at ih
    refine .cons (s1 := (scRd G hz wk (j + 1) l (seenN a hz (j + 1)), a.tickN (j + 1))) ?_ (by simp only [us157, Ar.tickN]; omega) ih
    unfold st157
    simp only
    rw [sc_read (a := a.tickN j) hwf (by unfold Ar.few Ar.tickN; simp only; omega) (by omega) hr hN hl, if_pos (by omega), tickN_succ]
    rfl

theorem scan_goes {G : Geo} {a : Ar} {h : Gh} {hz wk k : Nat} (hI : Inv G a h k) (hk : k < 1000000000) (hwk : wk < G.W) (hr : hz + 2 * G.W ≤ G.R) {us : List Nat} (hus : us.length ≤ 1000) (hnd : us.Nodup) (hst : ∀ u ∈ us, a.stt u = 2)
    (hu : 0 ≤ a.uses ∧ a.uses + 10000 < 4000000000000000000) :
    ∃ n s' a' h', n ≤ 2 * G.W + 3 * us.length ∧ Goes st157 us157 (scRd G hz wk 0 (us.map a.hdl) (fun _ => false), a) n (s', a') ∧ EffN G a a' n ∧
      FreedAll G a a' h h' k (us.filter fun u => !seenN a hz (2 * G.W) (a.hdl u)) ∧
      m142 s' = some (if (us.filter fun u => seenN a hz (2 * G.W) (a.hdl u)).isEmpty then Sum.inl () else Sum.inr (((us.filter fun u => seenN a hz (2 * G.W) (a.hdl u)).map a.hdl).length, (us.filter fun u => seenN a hz (2 * G.W) (a.hdl u)).map a.hdl)) := by
  have hWW := G.hW
  have hRR := G.hR
  have hw := reads_walk (G := G) (a := a) hI.wf (wk := wk) (by rw [hI.rawN]; exact hr) (by rw [hI.rawN]; exact hRR.2) (l := us.map a.hdl) (by simpa using hus) (2 * G.W - 1) 0 (by omega) (by omega)
  rw [Nat.zero_add, tickN_zero] at hw
  have hlast := sc_read (G := G) (a := a.tickN (2 * G.W - 1)) (hz := hz) (wk := wk) (j := 2 * G.W - 1) hI.wf (by unfold Ar.few Ar.tickN; simp only; omega) (by omega) (by show _ ≤ a.rawN; rw [hI.rawN]; exact hr) (by show a.rawN ≤ _; rw [hI.rawN]; exact hRR.2) (l := us.map a.hdl) (by simpa using hus) (seen := seenN a hz (2 * G.W - 1))
  rw [if_neg (by omega), tickN_succ, show 2 * G.W - 1 + 1 = 2 * G.W by omega] at hlast
  have hseen : upf (seenN a hz (2 * G.W - 1)) ((a.tickN (2 * G.W - 1)).rg (hz + (2 * G.W - 1))) true = seenN a hz (2 * G.W) := by
    have : seenN a hz (2 * G.W) = seenN a hz (2 * G.W - 1 + 1) := by rw [show 2 * G.W - 1 + 1 = 2 * G.W by omega]
    rw [this]; rfl
  rw [hseen] at hlast
  have hF : theFrees G wk (seenN a hz (2 * G.W)) (us.map a.hdl) = (us.filter fun u => !seenN a hz (2 * G.W) (a.hdl u)).map fun u => Kd.free (mkFree G.pl (wk : Nat) (a.hdl u)) := by
    unfold theFrees; rw [filt_map, List.map_map]; rfl
  have hL : theLeft (seenN a hz (2 * G.W)) (us.map a.hdl) = (us.filter fun u => seenN a hz (2 * G.W) (a.hdl u)).map a.hdl := by
    unfold theLeft; rw [filt_map]
  rw [hF, hL] at hlast
  generalize hgo : (us.filter fun u => !seenN a hz (2 * G.W) (a.hdl u)) = go at *
  generalize hkp : (us.filter fun u => seenN a hz (2 * G.W) (a.hdl u)) = kp at *
  have hgol : go.length ≤ us.length := by rw [← hgo]; exact List.length_filter_le _ _
  have hkpl : kp.length ≤ us.length := by rw [← hkp]; exact List.length_filter_le _ _
  have hgnd : go.Nodup := by rw [← hgo]; exact hnd.filter _
  have hgst : ∀ u ∈ go, a.stt u = 2 := fun u hu => hst u (by rw [← hgo] at hu; exact (List.mem_filter.1 hu).1)
  have hemp : (kp.map a.hdl).isEmpty = kp.isEmpty := by cases kp <;> rfl
  match hgo' : go with
  | [] =>
    refine ⟨2 * G.W - 1 + 1, _, _, h, by omega, hw.goes (.last (s' := (scFr G hz wk (us.map a.hdl) [] (kp.map a.hdl), a.tickN (2 * G.W))) hlast (by simp only [us157, Ar.tickN]; omega)), ?_, ?_, ?_⟩
    · rw [show 2 * G.W - 1 + 1 = 2 * G.W by omega]; exact EffN.tickN G a _
    · exact ⟨hI.tickN _, rfl, rfl, (fun v => by simp; rfl), rfl, (by simp [sizes]; rfl), rfl, fun w c v hv => hv, fun v hv => absurd hv (List.not_mem_nil)⟩
    · rw [m142_end0 (by simp; omega), hemp]
  | u :: go' =>
    obtain ⟨a', h', f1, f2, f3⟩ := frees_goes (G := G) (hz := hz) (wk := wk) (l := us.map a.hdl) (L := kp.map a.hdl) hk hwk (u :: go') (a.tickN (2 * G.W)) h (by simp) hgnd (hI.tickN _) (by
      simp only [Ar.tickN, List.length_cons] at *
      omega) hgst
    have hW : Walk st157 us157 (scRd G hz wk (2 * G.W - 1) (us.map a.hdl) (seenN a hz (2 * G.W - 1)), a.tickN (2 * G.W - 1)) 1 (scFr G hz wk (us.map a.hdl) ((u :: go').map fun u => Kd.free (mkFree G.pl (wk : Nat) (a.hdl u))) (kp.map a.hdl), a.tickN (2 * G.W)) :=
      .cons hlast (by simp only [us157, Ar.tickN]; omega) .nil
    refine ⟨2 * G.W - 1 + (1 + 3 * (u :: go').length), _, a', h', by simp only [List.length_cons] at *; omega, hw.goes (hW.goes f1), ?_, ?_, ?_⟩
    · rw [show 2 * G.W - 1 + (1 + 3 * (u :: go').length) = 2 * G.W + 3 * (u :: go').length by omega]
      exact (EffN.tickN G a _).trans f2
    · exact ⟨f3.inv, f3.cl, f3.top, f3.slots, f3.gens, f3.ret, f3.lv, f3.mono, f3.on⟩
    · rw [m142_end (by simp; omega), hemp]
end Go.Sx

/- Guards by hazards: retiring, forcing, telling. No condition. -/
set_option linter.unusedVariables false
set_option linter.unusedSimpArgs false
namespace Go.Sx

@[simp] theorem upf_self {α : Type} (f : Int → α) (k : Int) : upf f k (f k) = f := by
  funext x; unfold upf; split
  · rename_i h; rw [h]
  · rfl
@[simp] theorem upf_upf {α : Type} (f : Int → α) (k : Int) (x y : α) : upf (upf f k x) k y = upf f k y := by
  funext z; unfold upf; split <;> rfl
@[simp] theorem upf_at {α : Type} (f : Int → α) (k : Int) (x : α) : upf f k x k = x := by unfold upf; rw [if_pos rfl]
theorem upf_ne {α : Type} (f : Int → α) {k j : Int} (x : α) (h : j ≠ k) : upf f k x j = f j := by unfold upf; rw [if_neg h]

/-- A guard by hazards. -/
def gdH (G : Geo) (hz : Nat) (th : Int) (gl : Int → List (Int × Int)) : Gd := ⟨false, (G.W : Nat), (hz : Nat), G.pl, th, gl⟩
def lkS (wk : Nat) (s : Sc Kd) : Lk Kd := ⟨(wk : Nat), false, 0, .scan s⟩
def lkN (wk : Nat) : Lk Kd := ⟨(wk : Nat), false, 0, .nil⟩

theorem m20_eq (g : Gd) (wk : Int) : m20 g wk = some ((g.l wk).length, g) := by
  obtain ⟨e, gw, ga, gp, gth, gl⟩ := g
  cases e <;>
  · unfold m20
    simp only [beq_self_eq_true, cond_true, upf_self]
    cases h : gl wk with
    | nil => rfl
    | cons x l => rfl
theorem m93_eq {G : Geo} {hz wk : Nat} {l : List Int} (h : l ≠ []) (hl : l.length ≤ 1000) : m93 (G.W : Nat) (hz : Nat) G.pl.work G.pl.heads G.pl.links G.pl.gens G.pl.carved (wk : Nat) l.length l = some (scRd G hz wk 0 l fun _ => false) := by
  unfold m93
  have : 0 < l.length := List.length_pos_iff.2 h
  rw [decide_eq_false (by omega), decide_eq_true (by omega)]
  simp only [beq_self_eq_true, cond_true, cond_false]
  rfl

theorem m19_haz {G : Geo} {hz : Nat} {th : Int} {gl : Int → List (Int × Int)} {a : Ar} {wk : Nat} {h : Int} (hl : (gl (wk : Nat)).length < 1000) (hth : 1 ≤ th) :
    m19 (gdH G hz th gl) a (wk : Nat) h = some (if (((gl (wk : Nat)).length + 1 : Nat) : Int) ≥ th then
      Sum.inr (gdH G hz th (upf gl (wk : Nat) (gl (wk : Nat) ++ [(h, 0)])), a.retire h, lkS wk (scRd G hz wk 0 ((gl (wk : Nat) ++ [(h, (0 : Int))] : List (Int × Int)).map (·.1)) fun _ => false))
      else Sum.inl (gdH G hz th (upf gl (wk : Nat) (gl (wk : Nat) ++ [(h, 0)])), a.retire h)) := by
  have hm := m93_eq (G := G) (hz := hz) (wk := wk) (l := (gl (wk : Nat) ++ [(h, (0 : Int))]).map (·.1)) (by simp) (by simp; omega)
  rw [show ((gl (wk : Nat) ++ [(h, (0 : Int))]).map (·.1)).length = (gl (wk : Nat) ++ [(h, (0 : Int))]).length by simp] at hm
  have w0 : w64 ((1 : Int) - 1) = 0 := by decide
  unfold m19 gdH
  simp only [upf_at, upf_upf, upf_self, beq_self_eq_true, cond_true, w0]
  have hcs : gl (wk : Nat) = [] ∨ ∃ x l, gl (wk : Nat) = x :: l := by
    cases gl (wk : Nat) with
    | nil => exact .inl rfl
    | cons x l => exact .inr ⟨x, l, rfl⟩
  rcases hcs with hg | ⟨x, l, hg⟩
  · rw [hg] at hm
    simp only [List.nil_append] at hm
    simp only [hg, List.nil_append, List.isEmpty_nil, List.isEmpty_cons, cond_true, cond_false, List.length_cons, List.length_nil, Nat.zero_add]
    by_cases hc : ((1 : Nat) : Int) ≥ th
    · rw [decide_eq_true hc, if_pos hc]
      simp only [cond_true]
      rw [decide_eq_true (by exact ⟨trivial, by simp, by omega⟩)]
      simp only [cond_true]
      have hm' : m93 (↑G.W) (↑hz) G.pl.work G.pl.heads G.pl.links G.pl.gens G.pl.carved (↑wk) 1 (List.map (fun x => x.fst) [(h, (0 : Int))]) = _ := hm
      rw [hm']; rfl
    · rw [decide_eq_false hc, if_neg hc]; rfl
  · rw [hg] at hm hl
    simp only [hg, List.isEmpty_cons, cond_false, List.cons_append, List.length_cons, List.length_append, List.length_nil, Nat.zero_add, beq_self_eq_true, Bool.not_false, Bool.and_self, Bool.and_true, Bool.true_and] at hm hl ⊢
    rw [decide_eq_true (show l.length + 1 + 1 ≤ 1048576 by omega)]
    simp only [cond_true]
    by_cases hc : ((l.length + 1 + 1 : Nat) : Int) ≥ th
    · rw [decide_eq_true hc, if_pos hc]
      simp only [cond_true]
      rw [decide_eq_true (by exact ⟨trivial, by simp, by omega⟩)]
      simp only [cond_true]
      rw [hm]; rfl
    · rw [decide_eq_false hc, if_neg hc]; rfl

theorem m25_haz {G : Geo} {hz : Nat} {th : Int} {gl : Int → List (Int × Int)} {wk : Nat} (hl : (gl (wk : Nat)).length ≤ 1000) :
    m25 (gdH G hz th gl) (wk : Nat) = some (if gl (wk : Nat) = [] then Sum.inl (gdH G hz th gl) else Sum.inr (gdH G hz th gl, lkS wk (scRd G hz wk 0 ((gl (wk : Nat)).map (·.1)) fun _ => false))) := by
  have w0 : w64 ((1 : Int) - 1) = 0 := by decide
  unfold m25 gdH
  simp only [upf_at, upf_upf, upf_self, beq_self_eq_true, cond_true, w0]
  have hcs : gl (wk : Nat) = [] ∨ ∃ x l, gl (wk : Nat) = x :: l := by
    cases gl (wk : Nat) with
    | nil => exact .inl rfl
    | cons x l => exact .inr ⟨x, l, rfl⟩
  rcases hcs with hg | ⟨x, l, hg⟩
  · simp only [hg]; rfl
  · rw [hg] at hl
    have hm := m93_eq (G := G) (hz := hz) (wk := wk) (l := (x :: l).map (·.1)) (by simp) (by simpa using hl)
    rw [show ((x :: l).map (·.1)).length = (x :: l).length by simp] at hm
    simp only [List.length_cons] at hm hl
    simp only [hg, List.length_cons, List.isEmpty_cons, cond_false]
    rw [show (((l.length + 1 : Nat) : Int) == 0) = false by rw [beq_eq_false_iff_ne]; omega]
    simp only [cond_false]
    rw [decide_eq_true (by exact ⟨trivial, by simp, by omega⟩)]
    simp only [cond_true]
    rw [hm, if_neg (by simp)]; rfl

/-! The look. -/
abbrev LkS := Lk Kd × Ar × Gd
def st139 (s : LkS) : Option (Bool × LkS) := m139 s.1 s.2.1 s.2.2
def us139 (s : LkS) : Int := s.2.1.uses
theorem look_scan {G : Geo} {hz : Nat} {th : Int} {gl : Int → List (Int × Int)} {wk : Nat} {L : List Int} (hL : L.length ≤ 1000) {s s' : Sc Kd × Ar} {n : Nat} (hg : Goes st157 us157 s n s') :
    m142 s'.1 = some (if L.isEmpty then Sum.inl () else Sum.inr (L.length, L)) →
    Goes st139 us139 (lkS wk s.1, s.2, gdH G hz th gl) n (lkN wk, s'.2, gdH G hz th (upf gl (wk : Nat) (L.map fun h => (h, 0)))) := by
  induction hg with
  | @last s s' h hu =>
    intro hm
    refine .last ?_ hu
    unfold st139 m139 lkS gdH
    simp only
    have h' : m157 s.1 s.2 = some (true, s') := h
    rw [h']
    simp only [Option.bind_some, cond_true]
    rw [hm]
    cases L with
    | nil => rfl
    | cons v L =>
      simp only [List.isEmpty_cons, Bool.false_eq_true, if_false, bind2]
      rw [decide_eq_true (by exact ⟨trivial, trivial, trivial, by simp, by omega⟩)]
      simp only [cond_true, List.length_map, beq_self_eq_true, List.map_cons, List.isEmpty_cons, Bool.not_false, Bool.and_true, Bool.true_and, List.length_cons]
      rfl
  | @more s s1 s' n h hu hn ih =>
    intro hm
    refine .more (s1 := (lkS wk s1.1, s1.2, gdH G hz th gl)) ?_ hu (ih hm)
    unfold st139 m139 lkS gdH
    simp only
    have h' : m157 s.1 s.2 = some (false, s1) := h
    rw [h']; rfl

/-- The run of a look. -/
theorem look_while {s s' : LkS} {n : Nat} (hg : Goes st139 us139 s n s') : ∀ (i fuel : Nat), i + n ≤ 3000 → n ≤ fuel → 0 ≤ us139 s → us139 s + n < 4000000000000000000 →
    whileM (fun s : Lk Kd × Ar × Gd × Int => mL18b0l s.1 s.2.1 s.2.2.1 s.2.2.2) fuel (s.1, s.2.1, s.2.2, (i : Int)) = some (s'.1, s'.2.1, s'.2.2, ((i + n - 1 : Nat) : Int)) := by
  induction hg with
  | @last s s' h hu =>
    intro i fuel hi hf h0 h1
    obtain ⟨fuel, rfl⟩ : ∃ f, fuel = f + 1 := ⟨fuel - 1, by omega⟩
    have h' : m139 s.1 s.2.1 s.2.2 = some (true, s'.1, s'.2.1, s'.2.2) := h
    simp only [us139] at hu h0 h1
    have hw : w64 (s.2.1.uses + 1) = s.2.1.uses + 1 := w64_id (by omega) (by omega)
    simp only [whileM, mL18b0l]
    rw [decide_eq_true (show (i : Int) < 3000 by omega), h']
    simp only [Option.bind_some, cond_true, hw]
    rw [decide_eq_false (by omega)]
    rfl
  | @more s s1 s' n h hu hn ih =>
    intro i fuel hi hf h0 h1
    obtain ⟨fuel, rfl⟩ : ∃ f, fuel = f + 1 := ⟨fuel - 1, by omega⟩
    have h' : m139 s.1 s.2.1 s.2.2 = some (false, s1.1, s1.2.1, s1.2.2) := h
    simp only [us139] at hu h0 h1 ih
    have hw : w64 (s.2.1.uses + 1) = s.2.1.uses + 1 := w64_id (by omega) (by omega)
    have ih := ih (i + 1) fuel (by omega) (by omega) (by omega) (by omega)
    have hw2 : w64 ((i : Int) + 1) = ((i + 1 : Nat) : Int) := w64_id (by omega) (by omega)
    simp only [whileM, mL18b0l]
    rw [decide_eq_true (show (i : Int) < 3000 by omega), h']
    simp only [Option.bind_some, cond_true, hw]
    rw [decide_eq_false (by omega)]
    simp only [cond_false, cond_true, hw2]
    rw [show i + (n + 1) - 1 = i + 1 + n - 1 by omega]
    exact ih
theorem look_run {s s' : LkS} {n : Nat} (hg : Goes st139 us139 s n s') (hn : n ≤ 3000) (h0 : 0 ≤ us139 s) (h1 : us139 s + n < 4000000000000000000) : m18l s.1 s.2.1 s.2.2 = some (s'.1, s'.2.1, s'.2.2) := by
  have := look_while hg 0 6000 (by omega) (by omega) h0 h1
  unfold m18l w18b0l
  rw [show ((0 : Nat) : Int) = 0 from rfl] at this
  rw [this]; rfl
end Go.Sx

/- How it begins. No condition. -/
set_option linter.unusedVariables false
set_option linter.unusedSimpArgs false
namespace Go.Sx

def place (v n : Int) : Int := if v.tmod n < 0 then w64 (v.tmod n + n) else v.tmod n
theorem m15_eq (v : Int) {n : Int} (hn : n ≠ 0) : m15 v n = some (place v n) := by
  unfold m15 place
  rw [show (n == 0) = false by rw [beq_eq_false_iff_ne]; exact hn]
  simp only [cond_false]
  by_cases h : v.tmod n < 0
  · rw [decide_eq_true h, if_pos h]; rfl
  · rw [decide_eq_false h, if_neg h]; rfl
theorem place_range (v : Int) {n : Int} (h0 : 0 < n) (h1 : n < 1000000000000) : 0 ≤ place v n ∧ place v n < n := by
  have h2 := Int.tmod_lt_of_pos v h0
  have h3 : -n < v.tmod n := by
    rcases Int.le_total 0 v with h | h
    · have := Int.tmod_nonneg n h; omega
    · have : v.tmod n = -((-v).tmod n) := by rw [Int.neg_tmod]; omega
      have h4 := Int.tmod_lt_of_pos (-v) h0
      omega
  unfold place
  split
  · rw [w64_id (by omega) (by omega)]; omega
  · omega

/-- A new arena. -/
def arNew (raw words : Nat) : Ar := ⟨List.replicate raw 0, raw, raw, List.replicate words 0, words, words, false, fun _ => (0, 0), List.replicate words false, words, words, List.replicate words false, words, words, fun _ => 0, 0, 0, 0, 0, false, 0⟩
theorem m57_eq {raw words : Nat} (hr : raw ≤ 65536) (hw : words ≤ 65536) : m57 (raw : Nat) (words : Nat) false = some (arNew raw words) := by
  have e : ∀ x : Nat, x ≤ 65536 → (if (if (65536 : Int) < (x : Int) then (65536 : Int) else (x : Int)) > (0 : Int) then if (65536 : Int) < (x : Int) then (65536 : Int) else (x : Int) else (0 : Int)) = (x : Int) := by
    intro x hx
    rw [if_neg (show ¬ (65536 : Int) < x by omega)]
    split <;> omega
  unfold m57
  simp only [e raw hr, e words hw, beq_self_eq_true, Bool.and_true, Int.toNat_natCast]
  rw [decide_eq_true (show (0 : Int) ≤ (raw : Int) ∧ (raw : Int) ≤ 1048576 by omega), decide_eq_true (show (0 : Int) ≤ (words : Int) ∧ (words : Int) ≤ 1048576 by omega)]
  rfl
def ghNew : Gh := ⟨0, fun _ => none, fun _ _ => []⟩
theorem inv_new (G : Geo) : Inv G (arNew G.R G.N) ghNew 0 := by
  have hrg : ∀ j, (arNew G.R G.N).rg j = 0 := fun j => by
    unfold Ar.rg arNew
    simp only [List.getD_eq_getElem?_getD, List.getElem?_replicate]
    split <;> rfl
  have hstt : ∀ u, (arNew G.R G.N).stt u = 0 := fun u => rfl
  have hget : ∀ n i : Nat, (List.replicate n false).getD i false = false := fun n i => by
    simp only [List.getD_eq_getElem?_getD, List.getElem?_replicate]
    split <;> rfl
  have hsum : ∀ f : Nat → Int, (∀ u, f u = 0) → ∀ n, sumU f n = 0 := fun f h n => by
    induction n with
    | zero => rfl
    | succ n ih => simp [sumU, ih, h]
  refine ⟨?_, rfl, rfl, rfl, rfl, (fun u c h => by cases h), (by show 8 * 0 ≤ _; omega), (fun u v c d h => by cases h), ?_, (fun w c u h => by cases h), fun w c => List.nodup_nil, (fun w c w' c' u h => by cases h), (by rw [hrg]; rfl), ?_, fun u h => absurd (hstt u) h, ?_, (fun u c i h => by cases h), fun i _ => hget _ _, fun u h => absurd (hstt u) h, ?_, ?_, ?_⟩
  · simp [Ar.wf, arNew]
  · intro w c hw hc
    show low _ = 0
    rw [hrg]; rfl
  · intro u hu
    rw [hrg]
    exact ⟨rfl, by show (0 : Int) ≤ 0; omega, by show (0 : Int) ≤ _; omega⟩
  · intro i h
    have : (arNew G.R G.N).busy.getD i false = false := hget _ _
    rw [this] at h; cases h
  all_goals
    show (0 : Int) = _
    refine (hsum _ (fun u => ?_) _).symm
    simp [Sx.siz, ghNew]

/-- Where words stand for so many workers and slots, by hazards. -/
def geo1 (W S : Nat) (m : Nat) (hW : 1 ≤ W ∧ W ≤ 64) (hS : S ≤ 400) (hm : m ≤ 1000) : Geo := ⟨W, S, 8 * S, 4 * W + 2 * S + 1 + m, hW, by omega, by omega, by omega⟩
theorem m55_eq {W S : Nat} (hW : W ≤ 64) (hS : S ≤ 400) : m55 (W : Nat) (w64 (8 * (S : Nat))) = some (((W : Nat) : Int), (0 : Int), ((4 * W : Nat) : Int), ((4 * W + S : Nat) : Int), ((4 * W + 2 * S : Nat) : Int), ((4 * W + 2 * S + 1 : Nat) : Int)) := by
  have e1 : w64 (8 * ((S : Nat) : Int)) = 8 * (S : Nat) := w64_id (by omega) (by omega)
  have e2 : (if (0 : Int) > ((W : Nat) : Int) then (0 : Int) else ((W : Nat) : Int)) = (W : Nat) := if_neg (by omega)
  have e3 : (if (0 : Int) > 8 * ((S : Nat) : Int) then (0 : Int) else 8 * ((S : Nat) : Int)) = 8 * (S : Nat) := if_neg (by omega)
  have e4 : (8 * ((S : Nat) : Int)).tdiv 8 = (S : Nat) := by rw [Int.tdiv_eq_ediv_of_nonneg (by omega)]; omega
  have e5 : (8 * ((S : Nat) : Int)).tmod 8 = 0 := by rw [Int.tmod_eq_emod_of_nonneg (by omega)]; omega
  have e6 : (if (1 : Int) < 0 then (1 : Int) else 0) = 0 := by decide
  have e7 : w64 (4 * ((W : Nat) : Int)) = ((4 * W : Nat) : Int) := by rw [w64_id (by omega) (by omega)]; omega
  have e8 : w64 ((S : Nat) : Int) = (S : Nat) := w64_id (by omega) (by omega)
  have e9 : w64 ((S : Nat) + (0 : Int)) = (S : Nat) := by rw [w64_id (by omega) (by omega)]; omega
  have e10 : w64 (((4 * W : Nat) : Int) + (S : Nat)) = ((4 * W + S : Nat) : Int) := by rw [w64_id (by omega) (by omega)]; omega
  have e11 : w64 (((4 * W + S : Nat) : Int) + (S : Nat)) = ((4 * W + 2 * S : Nat) : Int) := by rw [w64_id (by omega) (by omega)]; omega
  have e12 : w64 (((4 * W + 2 * S : Nat) : Int) + 1) = ((4 * W + 2 * S + 1 : Nat) : Int) := by rw [w64_id (by omega) (by omega)]; omega
  unfold m55
  simp only [e1, e2, e3, e4, e5, e6, e7, e8, e9, e10, e11, e12]
def thOf (th : Int) : Int := if (if (64 : Int) < th then (64 : Int) else th) > (1 : Int) then if (64 : Int) < th then (64 : Int) else th else (1 : Int)
theorem m16_haz {W S : Nat} (hW : 1 ≤ W ∧ W ≤ 64) (hS : S ≤ 400) (th : Int) :
    m16 (W : Nat) (S : Nat) false th = some (arNew (4 * W + 2 * S + 1 + 2 * W) (8 * S), ((W : Nat) : Int), (0 : Int), ((4 * W : Nat) : Int), ((4 * W + S : Nat) : Int), ((4 * W + 2 * S : Nat) : Int), gdH (geo1 W S (2 * W) hW hS (by omega)) (4 * W + 2 * S + 1) (thOf th) fun _ => []) := by
  have e := m55_eq hW.2 hS
  have e1 : w64 (8 * ((S : Nat) : Int)) = ((8 * S : Nat) : Int) := by rw [w64_id (by omega) (by omega)]; omega
  have e2 : (if (0 : Int) > ((W : Nat) : Int) then (0 : Int) else ((W : Nat) : Int)) = (W : Nat) := if_neg (by omega)
  have e3 : w64 (2 * ((W : Nat) : Int)) = ((2 * W : Nat) : Int) := by rw [w64_id (by omega) (by omega)]; omega
  have e4 : w64 (((4 * W + 2 * S + 1 : Nat) : Int) + ((2 * W : Nat) : Int)) = ((4 * W + 2 * S + 1 + 2 * W : Nat) : Int) := by rw [w64_id (by omega) (by omega)]; omega
  unfold m16
  rw [e]
  simp only [Option.getD_some, m56, cond_false, Option.bind_some, e2, e3, e4, e1]
  rw [m57_eq (by omega) (by omega)]
  rfl
end Go.Sx

/- Arenas of slots of one size. No condition. -/
set_option linter.unusedVariables false
set_option linter.unusedSimpArgs false
namespace Go.Sx

/-- All blocks are of the least size, and all are known of. -/
structure Tid (G : Geo) (a : Ar) (h : Gh) : Prop where
  all0 : ∀ u, h.cl u = if u < h.top then some 0 else none
  acc : ∀ u, u < h.top → a.stt u ≠ 0 ∨ ∃ w, w < G.W ∧ u ∈ h.fl w 0
theorem tid_new (G : Geo) : Tid G (arNew G.R G.N) ghNew := ⟨fun u => by simp [ghNew], fun u h => absurd h (Nat.not_lt_zero u)⟩
theorem Tid.siz {G : Geo} {a : Ar} {h : Gh} {k u : Nat} (hT : Tid G a h) (hI : Inv G a h k) (hu : a.stt u ≠ 0) : Sx.siz h u = 8 := by
  obtain ⟨c, h1, _⟩ := hI.slot u hu
  have := hT.all0 u
  rw [h1] at this
  split at this
  · cases this; rw [siz_some h1]; rfl
  · cases this
theorem Tid.take {G : Geo} {a a' : Ar} {h h' : Gh} {k u : Nat} {x' : Al} (hT : Tid G a h) (ht : Take G h h' 0 u) (hs : AlSome G a a' h' k 0 x' u) : Tid G a' h' := by
  have hst : ∀ v, v ≠ u → a'.stt v = a.stt v := fun v hv => by unfold Ar.stt; rw [hs.slots v hv]
  rcases ht with ⟨w, l, hw, hl, rfl⟩ | ⟨he, rfl, hr, rfl⟩
  · refine ⟨hT.all0, fun v hv => ?_⟩
    by_cases e : v = u
    · subst e; left; rw [hs.live]; decide
    · rcases hT.acc v hv with h1 | ⟨w1, h1, h2⟩
      · left; rw [hst v e]; exact h1
      · right
        refine ⟨w1, h1, ?_⟩
        simp only [setFl]
        split
        · rename_i e2
          obtain ⟨rfl, _⟩ := e2
          rw [hl] at h2
          exact (List.mem_cons.1 h2).resolve_left e
        · exact h2
  · refine ⟨fun v => ?_, fun v hv => ?_⟩
    · show (if v = h.top then some 0 else h.cl v) = if v < h.top + 1 then some 0 else none
      rw [hT.all0]
      by_cases e : v = h.top
      · rw [if_pos e, if_pos (by omega)]
      · rw [if_neg e]
        by_cases h1 : v < h.top
        · rw [if_pos h1, if_pos (by omega)]
        · rw [if_neg h1, if_neg (by omega)]
    · by_cases e : v = h.top
      · subst e; left; rw [hs.live]; decide
      · have hv' : v < h.top := by
          have : (cutGh h 0).top = h.top + 1 := rfl
          omega
        rcases hT.acc v hv' with h1 | h1
        · left; rw [hst v e]; exact h1
        · exact .inr h1
theorem Tid.same {G : Geo} {a a' : Ar} {h : Gh} (hT : Tid G a h) (hs : ∀ v, a.stt v ≠ 0 → a'.stt v ≠ 0) : Tid G a' h :=
  ⟨hT.all0, fun u hu => (hT.acc u hu).imp (hs u) id⟩
theorem Tid.freed {G : Geo} {a a' : Ar} {h h' : Gh} {k : Nat} {us : List Nat} (hT : Tid G a h) (hf : FreedAll G a a' h h' k us) : Tid G a' h' := by
  refine ⟨fun u => by rw [hf.cl, hf.top]; exact hT.all0 u, fun u hu => ?_⟩
  rw [hf.top] at hu
  by_cases e : u ∈ us
  · obtain ⟨w, c, h1, h2, h3⟩ := hf.on u e
    rw [hT.all0, if_pos hu] at h2
    cases h2
    exact .inr ⟨w, h1, h3⟩
  · rcases hT.acc u hu with h1 | ⟨w, h1, h2⟩
    · left; unfold Ar.stt; rw [hf.slots, if_neg e]; exact h1
    · exact .inr ⟨w, h1, hf.mono _ _ _ h2⟩
theorem nodup_len : ∀ (l us : List Nat), l.Nodup → (∀ x ∈ l, x ∈ us) → l.length ≤ us.length
  | [], us, _, _ => Nat.zero_le _
  | x :: l, us, hn, hs => by
    obtain ⟨h1, h2⟩ := List.nodup_cons.1 hn
    have hx := hs x List.mem_cons_self
    have ih := nodup_len l (us.erase x) h2 fun y hy => (List.mem_erase_of_ne (fun (e : y = x) => h1 (e ▸ hy))).2 (hs y (List.mem_cons_of_mem _ hy))
    rw [List.length_erase_of_mem hx] at ih
    have : 0 < us.length := List.length_pos_of_mem hx
    simp only [List.length_cons]; omega
/-- There is a slot, if not all are taken. -/
theorem Tid.room {G : Geo} {a a' : Ar} {h : Gh} {k : Nat} {x' : Al} (hT : Tid G a h) {us : List Nat} (hus : ∀ u, a.stt u ≠ 0 → u ∈ us) (hn : 8 * (us.length + 1) ≤ G.N) (hno : AlNone G a a' h k 0 x') : False := by
  have hsub : ∀ u ∈ List.range h.top, u ∈ us := fun u hu => by
    rcases hT.acc u (List.mem_range.1 hu) with h1 | ⟨w, h1, h2⟩
    · exact hus u h1
    · rw [hno.empty w h1] at h2; exact absurd h2 (List.not_mem_nil)
  have h1 : (List.range h.top).length ≤ us.length := nodup_len _ _ List.nodup_range hsub
  have h2 := hno.full
  rw [List.length_range] at h1
  have : 2 ^ 0 = 1 := rfl
  omega
theorem sizes8 {G : Geo} {a : Ar} {h : Gh} {k : Nat} (hT : Tid G a h) (hI : Inv G a h k) : ∀ us : List Nat, (∀ u ∈ us, a.stt u ≠ 0) → sizes h us = 8 * (us.length : Nat)
  | [], _ => rfl
  | u :: us, hu => by
    have ih := sizes8 hT hI us fun v hv => hu v (List.mem_cons_of_mem _ hv)
    simp only [sizes, List.map_cons, List.sum_cons, List.length_cons] at ih ⊢
    rw [hT.siz hI (hu u List.mem_cons_self), ih]; omega
end Go.Sx

/- Contracts: laws of guards. No condition. -/
set_option linter.unusedVariables false
set_option linter.unusedSimpArgs false
namespace Go.Sx
open Go.Proofs
def ag3b0 (s : Int × Int × Ar × Int × Int × Int × Int × Int × Gd × Int) : List LV := [.int .i64 (s.1), .bool false, .int .i64 (s.2.1), .ptr 0 0, .ptr 1 0, .ptr 2 0, .int .i64 (s.2.2.2.2.2.2.2.2.2)]
def cg3b0 (s : Int × Int × Ar × Int × Int × Int × Int × Int × Gd × Int) : List (Option (LO Kd)) := [some (.abs (.arena (s.2.2.1)) []), some (.cells [.int .i64 (s.2.2.2.1), .int .i64 (s.2.2.2.2.1), .int .i64 (s.2.2.2.2.2.1), .int .i64 (s.2.2.2.2.2.2.1), .int .i64 (s.2.2.2.2.2.2.2.1)] 25), some (.abs (.guard (s.2.2.2.2.2.2.2.2.1)) [])]
def en3b0 (y : Int × Int × Ar × Int × Int × Int × Int × Int × Gd × Int) : RtL := (.exit 0, [.int .i64 (y.1), .bool false, .int .i64 (y.2.1), .ptr 0 0, .ptr 1 0, .ptr 2 0, .int .i64 (y.2.2.2.2.2.2.2.2.2)], [some (.abs (.arena (y.2.2.1)) []), some (.cells [.int .i64 (y.2.2.2.1), .int .i64 (y.2.2.2.2.1), .int .i64 (y.2.2.2.2.2.1), .int .i64 (y.2.2.2.2.2.2.1), .int .i64 (y.2.2.2.2.2.2.2.1)] 25), some (.abs (.guard (y.2.2.2.2.2.2.2.2.1)) [])])
noncomputable def EL3b0 : List (FuncId × Summ Kd) := [(15, S15), (17, S17), (19, S19), (18, S18), (20, S20), (21, S21), (22, S22)]
def mL3b0 (n : Int) (th : Int) (a : Ar) (pw : Int) (ph : Int) (pl : Int) (pg : Int) (pc : Int) (g : Gd) (i : Int) : Option ((Int × Int × Ar × Int × Int × Int × Int × Int × Gd × Int) ⊕ ((Int × Int × Ar × Int × Int × Int × Int × Int × Gd × Int))) :=
    (Option.bind (m15 n (90 : Int)) fun y1 =>
      (cond (decide (i ≤ y1))
        (Option.bind (m17 a pw ph pl pg pc (1 : Int)) fun y2 =>
          (cond (y2.fst == (0 : Int))
            none
            (bind2 (m19 g y2.snd (1 : Int) y2.fst) (fun y3 =>
              (Option.bind (m20 y3.fst (1 : Int)) fun y4 =>
                (cond (th == (0 : Int))
                  none
                  (cond ((↑y4.fst : Int) != i.tmod th)
                    none
                    (Option.bind (m20 y4.snd (0 : Int)) fun y5 =>
                      (cond ((↑y5.fst : Int) != (0 : Int))
                        none
                        (cond (th == (0 : Int))
                          none
                          (cond (((m18n y3.snd).getD default).nRetired != w64 ((8 : Int) * i.tmod th))
                            none
                            (cond (th == (0 : Int))
                              none
                              (cond (!(((m18n y3.snd).getD default).state y2.fst == (0 : Int)) == (i.tmod th == (0 : Int)))
                                none
                                (some (Sum.inl ((n), (th), (y3.2), (pw), (ph), (pl), (pg), (pc), (y5.2), (w64 (i + (1 : Int)))))))))))))))) (fun y3 =>
              (Option.bind (m18l y3.snd.snd y3.snd.fst y3.fst) fun y4 =>
                (Option.bind (m20 y4.snd.snd (1 : Int)) fun y5 =>
                  (cond (th == (0 : Int))
                    none
                    (cond ((↑y5.fst : Int) != i.tmod th)
                      none
                      (Option.bind (m20 y5.snd (0 : Int)) fun y6 =>
                        (cond ((↑y6.fst : Int) != (0 : Int))
                          none
                          (cond (th == (0 : Int))
                            none
                            (cond (y4.snd.fst.nRetired != w64 ((8 : Int) * i.tmod th))
                              none
                              (cond (th == (0 : Int))
                                none
                                (cond (!(y4.snd.fst.state y2.fst == (0 : Int)) == (i.tmod th == (0 : Int)))
                                  none
                                  (some (Sum.inl ((n), (th), (y4.snd.1), (pw), (ph), (pl), (pg), (pc), (y6.2), (w64 (i + (1 : Int))))))))))))))))))))
        (some (Sum.inr ((n), (th), (a), (pw), (ph), (pl), (pg), (pc), (g), (i))))))
theorem treeL3b0 (n : Int) (th : Int) (a : Ar) (pw : Int) (ph : Int) (pl : Int) (pg : Int) (pc : Int) (g : Gd) (i : Int) : ∀ r, (mL3b0 n th a pw ph pl pg pc g i).map (Sum.elim (fun s' => (Ex.normal, ag3b0 s', cg3b0 s')) en3b0) = some r → (derB2 body (mkEnv EL3b0 (lpOf [])) (theLoop 0 Try.f3) [1, 4, 5, 6, 7, 8, 9] [] 84 (fun _ => []) 3 [.int .i64 n, .bool false, .int .i64 th, .ptr 0 0, .ptr 1 0, .ptr 2 0, .int .i64 i] [some (.abs (.arena a) []), some (.cells [.int .i64 pw, .int .i64 ph, .int .i64 pl, .int .i64 pg, .int .i64 pc] 25), some (.abs (.guard g) [])]).eval = some r := fun r h => Eq.trans (by kernel_rfl) ((le_bind fun y1 => (le_cond (le_bind fun y2 => (le_cond (le_no ((.ret, ([.int .i64 (n), .bool false, .int .i64 (th), .ptr 0 0, .ptr 1 0, .ptr 2 0, .int .i64 (i)], [(some (.abs (Kd.arena y2.snd) [])), (some (.cells [.int .i64 (pw), .int .i64 (ph), .int .i64 (pl), .int .i64 (pg), .int .i64 (pc)] 25)), (some (.abs (Kd.guard g) []))])))) (le_bind2 (fun y3 => (le_bind fun y4 => (le_cond le_none (le_cond (le_no ((.ret, ([.int .i64 (n), .bool false, .int .i64 (th), .ptr 0 0, .ptr 1 0, .ptr 2 0, .int .i64 (i)], [(some (.abs (Kd.arena ((m18n y3.snd).getD default)) [])), (some (.cells [.int .i64 (pw), .int .i64 (ph), .int .i64 (pl), .int .i64 (pg), .int .i64 (pc)] 25)), (some (.abs (Kd.guard y4.snd) []))])))) (le_bind fun y5 => (le_cond (le_no ((.ret, ([.int .i64 (n), .bool false, .int .i64 (th), .ptr 0 0, .ptr 1 0, .ptr 2 0, .int .i64 (i)], [(some (.abs (Kd.arena ((m18n y3.snd).getD default)) [])), (some (.cells [.int .i64 (pw), .int .i64 (ph), .int .i64 (pl), .int .i64 (pg), .int .i64 (pc)] 25)), (some (.abs (Kd.guard y5.snd) []))])))) (le_cond le_none (le_cond (le_no ((.ret, ([.int .i64 (n), .bool false, .int .i64 (th), .ptr 0 0, .ptr 1 0, .ptr 2 0, .int .i64 (i)], [(some (.abs (Kd.arena ((m18n y3.snd).getD default)) [])), (some (.cells [.int .i64 (pw), .int .i64 (ph), .int .i64 (pl), .int .i64 (pg), .int .i64 (pc)] 25)), (some (.abs (Kd.guard y5.snd) []))])))) (le_cond le_none (le_cond (le_no ((.ret, ([.int .i64 (n), .bool false, .int .i64 (th), .ptr 0 0, .ptr 1 0, .ptr 2 0, .int .i64 (i)], [(some (.abs (Kd.arena ((m18n y3.snd).getD default)) [])), (some (.cells [.int .i64 (pw), .int .i64 (ph), .int .i64 (pl), .int .i64 (pg), .int .i64 (pc)] 25)), (some (.abs (Kd.guard y5.snd) []))])))) le_some)))))))))) (fun y3 => (le_bind fun y4 => (le_bind fun y5 => (le_cond le_none (le_cond (le_no ((.ret, ([.int .i64 (n), .bool false, .int .i64 (th), .ptr 0 0, .ptr 1 0, .ptr 2 0, .int .i64 (i)], [(some (.abs (Kd.arena y4.snd.fst) [])), (some (.cells [.int .i64 (pw), .int .i64 (ph), .int .i64 (pl), .int .i64 (pg), .int .i64 (pc)] 25)), (some (.abs (Kd.guard y5.snd) []))])))) (le_bind fun y6 => (le_cond (le_no ((.ret, ([.int .i64 (n), .bool false, .int .i64 (th), .ptr 0 0, .ptr 1 0, .ptr 2 0, .int .i64 (i)], [(some (.abs (Kd.arena y4.snd.fst) [])), (some (.cells [.int .i64 (pw), .int .i64 (ph), .int .i64 (pl), .int .i64 (pg), .int .i64 (pc)] 25)), (some (.abs (Kd.guard y6.snd) []))])))) (le_cond le_none (le_cond (le_no ((.ret, ([.int .i64 (n), .bool false, .int .i64 (th), .ptr 0 0, .ptr 1 0, .ptr 2 0, .int .i64 (i)], [(some (.abs (Kd.arena y4.snd.fst) [])), (some (.cells [.int .i64 (pw), .int .i64 (ph), .int .i64 (pl), .int .i64 (pg), .int .i64 (pc)] 25)), (some (.abs (Kd.guard y6.snd) []))])))) (le_cond le_none (le_cond (le_no ((.ret, ([.int .i64 (n), .bool false, .int .i64 (th), .ptr 0 0, .ptr 1 0, .ptr 2 0, .int .i64 (i)], [(some (.abs (Kd.arena y4.snd.fst) [])), (some (.cells [.int .i64 (pw), .int .i64 (ph), .int .i64 (pl), .int .i64 (pg), .int .i64 (pc)] 25)), (some (.abs (Kd.guard y6.snd) []))])))) le_some)))))))))))))) le_some)) r h)
def w3b0 (s : Int × Int × Ar × Int × Int × Int × Int × Int × Gd × Int) : Option ((Int × Int × Ar × Int × Int × Int × Int × Int × Gd × Int)) := whileM (fun s => mL3b0 s.1 s.2.1 s.2.2.1 s.2.2.2.1 s.2.2.2.2.1 s.2.2.2.2.2.1 s.2.2.2.2.2.2.1 s.2.2.2.2.2.2.2.1 s.2.2.2.2.2.2.2.2.1 s.2.2.2.2.2.2.2.2.2) 6000 s
def L3b0 : LSumm Kd := fun args cs => match args, cs with
  | [.int .i64 n, .bool false, .int .i64 th, .ptr 0 0, .ptr 1 0, .ptr 2 0, .int .i64 i], [some (.abs (.arena a) []), some (.cells [.int .i64 pw, .int .i64 ph, .int .i64 pl, .int .i64 pg, .int .i64 pc] 25), some (.abs (.guard g) [])] => ans (w3b0 (n, th, a, pw, ph, pl, pg, pc, g, i)) (fun y => (fixE 0 (en3b0 y).1, (en3b0 y).2))
  | _, _ => .bad 0
theorem ok3b0 : ∃ c, Try.f3.body = some c ∧ occ 0 c = [.loop (theLoop 0 Try.f3)] ∧ SxOk Try.prog body (fun Q => (Code.block 0 (.loop (theLoop 0 Try.f3))).wp Try.prog Q) (loopL2 [1, 4, 5, 6, 7, 8, 9] [] 84 L3b0) :=
  lp_ok2 (l := EL3b0) (lps := []) ⟨fact15, fact17, fact19, fact18, fact20, fact21, fact22, trivial⟩ rfl (by kernel_rfl) no_lps (by decide) (by decide) (fun v x h => absurd h (List.not_mem_nil)) (by
    intro args cs e vs post h
    unfold L3b0 at h
    split at h
    · have h := eval_ans h
      obtain ⟨t, ht, he⟩ := Option.map_eq_some_iff.1 h
      cases he
      exact ⟨_, iter_while ag3b0 cg3b0 en3b0 (fun s => mL3b0 s.1 s.2.1 s.2.2.1 s.2.2.2.1 s.2.2.2.2.1 s.2.2.2.2.2.1 s.2.2.2.2.2.2.1 s.2.2.2.2.2.2.2.1 s.2.2.2.2.2.2.2.2.1 s.2.2.2.2.2.2.2.2.2) (fun s r h => treeL3b0 s.1 s.2.1 s.2.2.1 s.2.2.2.1 s.2.2.2.2.1 s.2.2.2.2.2.1 s.2.2.2.2.2.2.1 s.2.2.2.2.2.2.2.1 s.2.2.2.2.2.2.2.2.1 s.2.2.2.2.2.2.2.2.2 r h) (fun s s' => rfl) (fun t h => by cases h) _ _ t ht, rfl⟩
    · cases h)
noncomputable def lps3 : Lps := [(0, loopL2 [1, 4, 5, 6, 7, 8, 9] [] 84 L3b0)]
theorem lps3_ok : LpsOk Try.f3 lps3 := ⟨ok3b0, trivial⟩
noncomputable def E3 : List (FuncId × Summ Kd) := [(15, S15), (16, S16), (23, S23), (24, S24)]
def m3 (t : Int) (n : Int) : Option ((Bool)) :=
    (Option.bind (m15 t (20 : Int)) fun y1 =>
      (Option.bind (w3b0 (n, w64 ((1 : Int) + y1), ((m16 (2 : Int) (100 : Int) false (w64 ((1 : Int) + y1))).getD default).fst, ((m16 (2 : Int) (100 : Int) false (w64 ((1 : Int) + y1))).getD default).snd.fst, ((m16 (2 : Int) (100 : Int) false (w64 ((1 : Int) + y1))).getD default).snd.snd.fst, ((m16 (2 : Int) (100 : Int) false (w64 ((1 : Int) + y1))).getD default).snd.snd.snd.fst, ((m16 (2 : Int) (100 : Int) false (w64 ((1 : Int) + y1))).getD default).snd.snd.snd.snd.fst, ((m16 (2 : Int) (100 : Int) false (w64 ((1 : Int) + y1))).getD default).snd.snd.snd.snd.snd.fst, ((m16 (2 : Int) (100 : Int) false (w64 ((1 : Int) + y1))).getD default).snd.snd.snd.snd.snd.snd, (1 : Int))) fun y2 =>
        (cond (!y2.snd.snd.fst.fault)
          (some (true))
          (some (false)))))
def sh3  (y : Bool) : LV × List (Option (LO Kd)) := (.bool y, [])
theorem tree3 (t : Int) (n : Int) : ∀ r, (m3 t n).map sh3 = some r → (derS body (mkEnv E3 (lpOf lps3)) Try.f3 [] (fun _ => []) [.int .i64 t, .int .i64 n] []).eval = some r := fun r h => Eq.trans (by kernel_rfl) ((le_bind fun y1 => (le_bind fun y2 => (le_cond le_some le_some))) r h)
def S3 : Summ Kd := fun args cs => match args, cs with
  | [.int .i64 t, .int .i64 n], [] => ans (m3 t n) sh3
  | _, _ => .bad 0
theorem fact3 : Fact 3 S3 := fact_loops (l := E3) ⟨fact15, fact16, fact23, fact24, trivial⟩ lps3_ok Try.func3 rfl Try.call3 (opens := []) (shuts := (fun _ => [])) (fun v x h => by cases h) (by
  intro args cs r h
  unfold S3 at h
  split at h
  · exact tree3 _ _ _ (eval_ans h)
  · cases h)
def ag4b0 (s : Int × Ar × Int × Int × Int × Int × Int × Gd × Int × Int) : List LV := [.bool false, .int .i64 (s.1), .ptr 0 0, .ptr 1 0, .ptr 2 0, .int .i64 (s.2.2.2.2.2.2.2.2.1), .int .i64 (s.2.2.2.2.2.2.2.2.2)]
def cg4b0 (s : Int × Ar × Int × Int × Int × Int × Int × Gd × Int × Int) : List (Option (LO Kd)) := [some (.abs (.arena (s.2.1)) []), some (.cells [.int .i64 (s.2.2.1), .int .i64 (s.2.2.2.1), .int .i64 (s.2.2.2.2.1), .int .i64 (s.2.2.2.2.2.1), .int .i64 (s.2.2.2.2.2.2.1)] 25), some (.abs (.guard (s.2.2.2.2.2.2.2.1)) [])]
def en4b0 (y : Int × Ar × Int × Int × Int × Int × Int × Gd × Int × Int) : RtL := (.exit 0, [.bool false, .int .i64 (y.1), .ptr 0 0, .ptr 1 0, .ptr 2 0, .int .i64 (y.2.2.2.2.2.2.2.2.1), .int .i64 (y.2.2.2.2.2.2.2.2.2)], [some (.abs (.arena (y.2.1)) []), some (.cells [.int .i64 (y.2.2.1), .int .i64 (y.2.2.2.1), .int .i64 (y.2.2.2.2.1), .int .i64 (y.2.2.2.2.2.1), .int .i64 (y.2.2.2.2.2.2.1)] 25), some (.abs (.guard (y.2.2.2.2.2.2.2.1)) [])])
noncomputable def EL4b0 : List (FuncId × Summ Kd) := [(17, S17), (19, S19), (18, S18), (22, S22)]
def mL4b0 (w : Int) (a : Ar) (pw : Int) (ph : Int) (pl : Int) (pg : Int) (pc : Int) (g : Gd) (k : Int) (i : Int) : Option ((Int × Ar × Int × Int × Int × Int × Int × Gd × Int × Int) ⊕ ((Int × Ar × Int × Int × Int × Int × Int × Gd × Int × Int))) :=
    (cond (decide (i < k))
      (Option.bind (m17 a pw ph pl pg pc (w64 (w - (1 : Int)))) fun y1 =>
        (cond (y1.fst == (0 : Int))
          none
          (bind2 (m19 g y1.snd (w64 (w - (1 : Int))) y1.fst) (fun y2 =>
            (cond (((m18n y2.snd).getD default).state y1.fst != (2 : Int))
              none
              (some (Sum.inl ((w), (y2.2), (pw), (ph), (pl), (pg), (pc), (y2.1), (k), (w64 (i + (1 : Int)))))))) (fun y2 =>
            (Option.bind (m18l y2.snd.snd y2.snd.fst y2.fst) fun y3 =>
              (cond (y3.snd.fst.state y1.fst != (2 : Int))
                none
                (some (Sum.inl ((w), (y3.snd.1), (pw), (ph), (pl), (pg), (pc), (y3.snd.2), (k), (w64 (i + (1 : Int))))))))))))
      (some (Sum.inr ((w), (a), (pw), (ph), (pl), (pg), (pc), (g), (k), (i)))))
theorem treeL4b0 (w : Int) (a : Ar) (pw : Int) (ph : Int) (pl : Int) (pg : Int) (pc : Int) (g : Gd) (k : Int) (i : Int) : ∀ r, (mL4b0 w a pw ph pl pg pc g k i).map (Sum.elim (fun s' => (Ex.normal, ag4b0 s', cg4b0 s')) en4b0) = some r → (derB2 body (mkEnv EL4b0 (lpOf [])) (theLoop 0 Try.f4) [6, 7, 8, 9, 10, 11, 12] [] 118 (fun _ => []) 3 [.bool false, .int .i64 w, .ptr 0 0, .ptr 1 0, .ptr 2 0, .int .i64 k, .int .i64 i] [some (.abs (.arena a) []), some (.cells [.int .i64 pw, .int .i64 ph, .int .i64 pl, .int .i64 pg, .int .i64 pc] 25), some (.abs (.guard g) [])]).eval = some r := fun r h => Eq.trans (by kernel_rfl) ((le_cond (le_bind fun y1 => (le_cond (le_no ((.ret, ([.bool false, .int .i64 (w), .ptr 0 0, .ptr 1 0, .ptr 2 0, .int .i64 (k), .int .i64 (i)], [(some (.abs (Kd.arena y1.snd) [])), (some (.cells [.int .i64 (pw), .int .i64 (ph), .int .i64 (pl), .int .i64 (pg), .int .i64 (pc)] 25)), (some (.abs (Kd.guard g) []))])))) (le_bind2 (fun y2 => (le_cond (le_no ((.ret, ([.bool false, .int .i64 (w), .ptr 0 0, .ptr 1 0, .ptr 2 0, .int .i64 (k), .int .i64 (i)], [(some (.abs (Kd.arena ((m18n y2.snd).getD default)) [])), (some (.cells [.int .i64 (pw), .int .i64 (ph), .int .i64 (pl), .int .i64 (pg), .int .i64 (pc)] 25)), (some (.abs (Kd.guard y2.fst) []))])))) le_some)) (fun y2 => (le_bind fun y3 => (le_cond (le_no ((.ret, ([.bool false, .int .i64 (w), .ptr 0 0, .ptr 1 0, .ptr 2 0, .int .i64 (k), .int .i64 (i)], [(some (.abs (Kd.arena y3.snd.fst) [])), (some (.cells [.int .i64 (pw), .int .i64 (ph), .int .i64 (pl), .int .i64 (pg), .int .i64 (pc)] 25)), (some (.abs (Kd.guard y3.snd.snd) []))])))) le_some)))))) le_some) r h)
def w4b0 (s : Int × Ar × Int × Int × Int × Int × Int × Gd × Int × Int) : Option ((Int × Ar × Int × Int × Int × Int × Int × Gd × Int × Int)) := whileM (fun s => mL4b0 s.1 s.2.1 s.2.2.1 s.2.2.2.1 s.2.2.2.2.1 s.2.2.2.2.2.1 s.2.2.2.2.2.2.1 s.2.2.2.2.2.2.2.1 s.2.2.2.2.2.2.2.2.1 s.2.2.2.2.2.2.2.2.2) 6000 s
def L4b0 : LSumm Kd := fun args cs => match args, cs with
  | [.bool false, .int .i64 w, .ptr 0 0, .ptr 1 0, .ptr 2 0, .int .i64 k, .int .i64 i], [some (.abs (.arena a) []), some (.cells [.int .i64 pw, .int .i64 ph, .int .i64 pl, .int .i64 pg, .int .i64 pc] 25), some (.abs (.guard g) [])] => ans (w4b0 (w, a, pw, ph, pl, pg, pc, g, k, i)) (fun y => (fixE 0 (en4b0 y).1, (en4b0 y).2))
  | _, _ => .bad 0
theorem ok4b0 : ∃ c, Try.f4.body = some c ∧ occ 0 c = [.loop (theLoop 0 Try.f4)] ∧ SxOk Try.prog body (fun Q => (Code.block 0 (.loop (theLoop 0 Try.f4))).wp Try.prog Q) (loopL2 [6, 7, 8, 9, 10, 11, 12] [] 118 L4b0) :=
  lp_ok2 (l := EL4b0) (lps := []) ⟨fact17, fact19, fact18, fact22, trivial⟩ rfl (by kernel_rfl) no_lps (by decide) (by decide) (fun v x h => absurd h (List.not_mem_nil)) (by
    intro args cs e vs post h
    unfold L4b0 at h
    split at h
    · have h := eval_ans h
      obtain ⟨t, ht, he⟩ := Option.map_eq_some_iff.1 h
      cases he
      exact ⟨_, iter_while ag4b0 cg4b0 en4b0 (fun s => mL4b0 s.1 s.2.1 s.2.2.1 s.2.2.2.1 s.2.2.2.2.1 s.2.2.2.2.2.1 s.2.2.2.2.2.2.1 s.2.2.2.2.2.2.2.1 s.2.2.2.2.2.2.2.2.1 s.2.2.2.2.2.2.2.2.2) (fun s r h => treeL4b0 s.1 s.2.1 s.2.2.1 s.2.2.2.1 s.2.2.2.2.1 s.2.2.2.2.2.1 s.2.2.2.2.2.2.1 s.2.2.2.2.2.2.2.1 s.2.2.2.2.2.2.2.2.1 s.2.2.2.2.2.2.2.2.2 r h) (fun s s' => rfl) (fun t h => by cases h) _ _ t ht, rfl⟩
    · cases h)
noncomputable def lps4 : Lps := [(0, loopL2 [6, 7, 8, 9, 10, 11, 12] [] 118 L4b0)]
theorem lps4_ok : LpsOk Try.f4 lps4 := ⟨ok4b0, trivial⟩
noncomputable def E4 : List (FuncId × Summ Kd) := [(15, S15), (16, S16), (25, S25), (18, S18), (20, S20), (21, S21), (23, S23), (24, S24)]
def m4 (work : Int) (n : Int) (ep : Bool) : Option ((Bool)) :=
    (Option.bind (m15 work (4 : Int)) fun y1 =>
      (Option.bind (m16 (w64 ((1 : Int) + y1)) (40 : Int) ep (64 : Int)) fun y2 =>
        (bind2 (m25 y2.snd.snd.snd.snd.snd.snd (w64 (w64 ((1 : Int) + y1) - (1 : Int)))) (fun y3 =>
          (Option.bind (m15 n (30 : Int)) fun y4 =>
            (Option.bind (w4b0 (w64 ((1 : Int) + y1), y2.fst, y2.snd.fst, y2.snd.snd.fst, y2.snd.snd.snd.fst, y2.snd.snd.snd.snd.fst, y2.snd.snd.snd.snd.snd.fst, y3, y4, (0 : Int))) fun y5 =>
              (Option.bind (m20 y5.snd.snd.snd.snd.snd.snd.snd.fst (w64 (y5.fst - (1 : Int)))) fun y6 =>
                (cond ((↑y6.fst : Int) != y5.snd.snd.snd.snd.snd.snd.snd.snd.fst)
                  (some (false))
                  (cond (y5.snd.fst.nRetired != w64 ((8 : Int) * y5.snd.snd.snd.snd.snd.snd.snd.snd.fst))
                    (some (false))
                    (bind2 (m25 y6.snd (w64 (y5.fst - (1 : Int)))) (fun y7 =>
                      (Option.bind (m20 y7 (w64 (y5.fst - (1 : Int)))) fun y8 =>
                        (cond ((↑y8.fst : Int) == (0 : Int))
                          (cond (((m18n y5.snd.fst).getD default).nRetired == (0 : Int))
                            (cond (((m18n y5.snd.fst).getD default).nFree == w64 ((8 : Int) * y5.snd.snd.snd.snd.snd.snd.snd.snd.fst))
                              (cond (!((m18n y5.snd.fst).getD default).fault)
                                (some (true))
                                (some (false)))
                              (some (false)))
                            (some (false)))
                          (some (false))))) (fun y7 =>
                      (Option.bind (m18l y7.snd y5.snd.fst y7.fst) fun y8 =>
                        (Option.bind (m20 y8.snd.snd (w64 (y5.fst - (1 : Int)))) fun y9 =>
                          (cond ((↑y9.fst : Int) == (0 : Int))
                            (cond (y8.snd.fst.nRetired == (0 : Int))
                              (cond (y8.snd.fst.nFree == w64 ((8 : Int) * y5.snd.snd.snd.snd.snd.snd.snd.snd.fst))
                                (cond (!y8.snd.fst.fault)
                                  (some (true))
                                  (some (false)))
                                (some (false)))
                              (some (false)))
                            (some (false))))))))))))) (fun y3 =>
          (some (false))))))
def sh4  (y : Bool) : LV × List (Option (LO Kd)) := (.bool y, [])
theorem tree4 (work : Int) (n : Int) (ep : Bool) : ∀ r, (m4 work n ep).map sh4 = some r → (derS body (mkEnv E4 (lpOf lps4)) Try.f4 [] (fun _ => []) [.int .i64 work, .int .i64 n, .bool ep] []).eval = some r := fun r h => Eq.trans (by kernel_rfl) ((le_bind fun y1 => (le_bind fun y2 => (le_bind2 (fun y3 => (le_bind fun y4 => (le_bind fun y5 => (le_bind fun y6 => (le_cond le_some (le_cond le_some (le_bind2 (fun y7 => (le_bind fun y8 => (le_cond (le_cond (le_cond (le_cond le_some le_some) le_some) le_some) le_some))) (fun y7 => (le_bind fun y8 => (le_bind fun y9 => (le_cond (le_cond (le_cond (le_cond le_some le_some) le_some) le_some) le_some))))))))))) (fun y3 => le_some)))) r h)
def S4 : Summ Kd := fun args cs => match args, cs with
  | [.int .i64 work, .int .i64 n, .bool ep], [] => ans (m4 work n ep) sh4
  | _, _ => .bad 0
theorem fact4 : Fact 4 S4 := fact_loops (l := E4) ⟨fact15, fact16, fact25, fact18, fact20, fact21, fact23, fact24, trivial⟩ lps4_ok Try.func4 rfl Try.call4 (opens := []) (shuts := (fun _ => [])) (fun v x h => by cases h) (by
  intro args cs r h
  unfold S4 at h
  split at h
  · exact tree4 _ _ _ _ (eval_ans h)
  · cases h)
end Go.Sx

/- GuardLeft: its round. No condition. -/
set_option linter.unusedVariables false
set_option linter.unusedSimpArgs false
namespace Go.Sx

/-- What holds at the head of a round: of so many that were retired the last few wait. -/
structure GL (G : Geo) (hz : Nat) (th : Nat) (a : Ar) (g : Gd) (j : Nat) : Prop where
  ex : ∃ (h : Gh) (us : List Nat) (gl : Int → List (Int × Int)), Inv G a h j ∧ Tid G a h ∧ g = gdH G hz th gl ∧ gl 1 = us.map (fun u => (a.hdl u, (0 : Int))) ∧ gl 0 = [] ∧ us.Nodup ∧ (∀ u, a.stt u ≠ 0 ↔ u ∈ us) ∧ (∀ u ∈ us, a.stt u = 2) ∧ us.length = j % th ∧ a.nRetired = 8 * (us.length : Nat)
  zero : ∀ i, i < 2 * G.W → a.rg (hz + i) = 0
  uses : 0 ≤ a.uses ∧ a.uses ≤ 10000 * j

theorem gl_round {G : Geo} {hz th : Nat} {a : Ar} {g : Gd} {j : Nat} (hG : GL G hz th a g j) (hW : 2 ≤ G.W ∧ G.W ≤ 30) (hz1 : G.carve < hz) (hz2 : hz + 2 * G.W ≤ G.R) (hN : G.N = 800) (hth : 1 ≤ th ∧ th ≤ 20) (hj : j < 1000) (n : Int) (hn : ((j + 1 : Nat) : Int) ≤ place n 90) :
    ∃ a' g', mL3b0 n (th : Nat) a G.pl.work G.pl.heads G.pl.links G.pl.gens G.pl.carved g ((j + 1 : Nat) : Int) = some (Sum.inl (n, ((th : Nat) : Int), a', G.pl.work, G.pl.heads, G.pl.links, G.pl.gens, G.pl.carved, g', ((j + 1 + 1 : Nat) : Int))) ∧ GL G hz th a' g' (j + 1) := by
  obtain ⟨⟨h, us, gl, hI, hT, rfl, hg1, hg0, hnd, hiff, hst, hlen, hret⟩, hzero, hu⟩ := hG
  have hmod := Nat.mod_lt j (show 0 < th by omega)
  obtain ⟨m, x', a1, e1, e2, e3, e4⟩ := one_run hI (by omega) (by omega) (show 1 < G.W by omega) (by omega)
  have h15 : m15 n 90 = some (place n 90) := m15_eq n (by decide)
  rcases e4 with hno | ⟨u, h1, t1, t2⟩
  · exact absurd (hT.room (fun u hu => (hiff u).1 hu) (by rw [hN]; omega) hno) id
  have hT1 := hT.take t1 t2
  have hI1 := t2.inv
  obtain ⟨c, _, _, _, _, _, _, _, o8, o9⟩ := hI1.opened (by omega) (u := u) (by rw [t2.live]; decide)
  have hun : u ∉ us := fun hm => by have := hst u hm; rw [t2.was] at this; exact absurd this (by decide)
  have hst1 : ∀ v, v ≠ u → a1.stt v = a.stt v := fun v hv => by unfold Ar.stt; rw [t2.slots v hv]
  have hh1 : ∀ v, v ≠ u → a1.hdl v = a.hdl v := fun v hv => by unfold Ar.hdl; rw [t2.slots v hv]
  -- it is retired
  obtain ⟨r1, r2, r3, r4, r5, r6, r7, r8⟩ := hI1.retires (by omega) t2.live
  generalize ha2 : a1.retire (a1.hdl u) = a2 at *
  have hst2 : ∀ v, a2.stt v = if v = u then 2 else a1.stt v := fun v => by unfold Ar.stt; rw [r2]; split <;> rfl
  have hh2 : ∀ v, a2.hdl v = a1.hdl v := fun v => by
    unfold Ar.hdl; rw [r2]
    by_cases e : v = u
    · subst e; rw [if_pos rfl]; rfl
    · rw [if_neg e]
  have hT2 : Tid G a2 h1 := hT1.same fun v hv => by rw [hst2]; split; decide; exact hv
  have hsz : Sx.siz h1 u = 8 := hT1.siz hI1 (by rw [t2.live]; decide)
  have hret2 : a2.nRetired = 8 * ((us.length + 1 : Nat) : Int) := by rw [r8, t2.ret, hret, hsz]; omega
  have hzero2 : ∀ i, i < 2 * G.W → a2.rg (hz + i) = 0 := fun i hi => by
    have : a2.rg (hz + i) = a1.rg (hz + i) := by unfold Ar.rg; rw [r3]
    rw [this, e3.far _ (by omega)]; exact hzero i hi
  have huse2 : a2.uses = a.uses + m := by rw [r4, e3.uses]
  have hlenl : (gl 1).length = us.length := by rw [hg1]; simp
  have h19 := m19_haz (G := G) (hz := hz) (th := (th : Nat)) (gl := gl) (a := a1) (wk := 1) (h := a1.hdl u) (by show (gl 1).length < 1000; omega) (by omega)
  have hmap : (gl 1 ++ [(a1.hdl u, (0 : Int))] : List (Int × Int)) = (us ++ [u]).map fun v => (a2.hdl v, (0 : Int)) := by
    rw [hg1, List.map_append, List.map_cons, List.map_nil, hh2]
    congr 1
    exact List.map_congr_left fun v hv => by rw [hh2, hh1 v (fun e => hun (e ▸ hv))]
  have hnd2 : (us ++ [u]).Nodup := by
    rw [List.nodup_append]
    exact ⟨hnd, by simp, fun x hx y hy => by simp at hy; subst hy; exact fun e => hun (e ▸ hx)⟩
  have hiff2 : ∀ v, a2.stt v ≠ 0 ↔ v ∈ us ++ [u] := fun v => by
    rw [hst2]
    by_cases e : v = u
    · subst e; simp
    · rw [if_neg e, hst1 v e, hiff]; simp [e]
  have hst2' : ∀ v ∈ us ++ [u], a2.stt v = 2 := fun v hv => by
    rw [hst2]
    by_cases e : v = u
    · rw [if_pos e]
    · rw [if_neg e, hst1 v e]
      simp [e] at hv
      exact hst v hv
  have htm : (((j + 1 : Nat) : Int)).tmod (th : Nat) = (((j + 1) % th : Nat) : Int) := by
    rw [Int.tmod_eq_emod_of_nonneg (by omega)]; omega
  have hw : w64 (((j + 1 : Nat) : Int) + 1) = ((j + 1 + 1 : Nat) : Int) := w64_id (by omega) (by omega)
  have hthz : (((th : Nat) : Int) == 0) = false := by rw [beq_eq_false_iff_ne]; omega
  have hp : G.pl = ⟨G.pl.work, G.pl.heads, G.pl.links, G.pl.gens, G.pl.carved⟩ := rfl
  rw [show ((1 : Nat) : Int) = 1 from rfl] at e2 h19
  rw [hlenl, ha2, hmap] at h19
  by_cases hc : ((us.length + 1 : Nat) : Int) ≥ (th : Nat)
  · -- it is looked at
    rw [if_pos hc] at h19
    have hmod0 : (j + 1) % th = 0 := by
      have : us.length + 1 = th := by omega
      rw [Nat.add_mod, ← hlen]
      rcases Nat.lt_or_ge 1 th with h1 | h1
      · rw [Nat.mod_eq_of_lt h1, this, Nat.mod_self]
      · have : th = 1 := by omega
        rw [this, Nat.mod_one]
    obtain ⟨n1, s', a3, h3, q1, q2, q3, q4, q5⟩ := scan_goes (G := G) (a := a2) (h := h1) (hz := hz) (wk := 1) (k := j + 1) r1 (by omega) (by omega) hz2 (us := us ++ [u]) (by simp; omega) hnd2 hst2' (by rw [huse2]; omega)
    have hseen : ∀ v ∈ us ++ [u], seenN a2 hz (2 * G.W) (a2.hdl v) = false := fun v hv => by
      cases hs : seenN a2 hz (2 * G.W) (a2.hdl v) with
      | false => rfl
      | true =>
        obtain ⟨i, i1, i2⟩ := (seenN_iff _ _ _ _).1 hs
        rw [hzero2 i i1] at i2
        obtain ⟨_, _, _, _, _, _, _, _, _, z⟩ := r1.opened (by omega) (u := v) (by rw [hst2' v hv]; decide)
        exact absurd i2.symm z
    have hgo : (us ++ [u]).filter (fun v => !seenN a2 hz (2 * G.W) (a2.hdl v)) = us ++ [u] := List.filter_eq_self.2 fun v hv => by rw [hseen v hv]; rfl
    have hkp : (us ++ [u]).filter (fun v => seenN a2 hz (2 * G.W) (a2.hdl v)) = [] := List.filter_eq_nil_iff.2 fun v hv => by rw [hseen v hv]; decide
    rw [hgo] at q4
    rw [hkp] at q5
    have hlk := look_scan (G := G) (hz := hz) (th := (th : Nat)) (gl := upf gl 1 ((us ++ [u]).map fun v => (a2.hdl v, (0 : Int)))) (wk := 1) (L := []) (by simp) q2 q5
    have hWle : n1 ≤ 3000 := by simp at q1; omega
    have hrun := look_run hlk hWle (by show 0 ≤ a2.uses; rw [huse2]; omega) (by show a2.uses + _ < _; rw [huse2]; omega)
    have hst3 : ∀ v, a3.stt v = 0 := fun v => by
      unfold Ar.stt; rw [q4.slots]
      by_cases e : v ∈ us ++ [u]
      · rw [if_pos e]
      · rw [if_neg e]
        by_cases z : a2.stt v = 0
        · exact z
        · exact absurd ((hiff2 v).1 z) e
    have hret3 : a3.nRetired = 0 := by
      rw [q4.ret, hret2, sizes8 hT2 r1 _ (fun v hv => by rw [hst2' v hv]; decide)]
      simp
    have hstate : a3.state (a1.hdl u) = 0 := by
      have hs3 := q4.slots u
      rw [if_pos (by simp)] at hs3
      unfold Ar.state
      obtain ⟨_, _, _, _, p4, p5, _⟩ := hI1.opened (by omega) (u := u) (by rw [t2.live]; decide)
      rw [p4, p5, hs3]; simp
    refine ⟨a3, gdH G hz (th : Nat) (upf (upf gl 1 ((us ++ [u]).map fun v => (a2.hdl v, (0 : Int)))) 1 []), ?_, ⟨⟨h3, [], _, ?_, hT2.freed q4, rfl, by simp, by rw [upf_ne _ _ (by decide), upf_ne _ _ (by decide)]; exact hg0, by simp, fun v => by rw [hst3]; simp, by simp, by simp [hmod0], by rw [hret3]; rfl⟩, ?_, ?_⟩⟩
    · unfold mL3b0
      rw [h15]
      simp only [Option.bind_some]
      rw [decide_eq_true hn]
      simp only [cond_true]
      rw [e2]
      simp only [Option.bind_some]
      rw [t2.hdl, show (a1.hdl u == 0) = false by rw [beq_eq_false_iff_ne]; exact o9, h19]
      simp only [cond_false, bind2]
      have hrun' : m18l (lkS 1 (scRd G hz 1 0 (((us ++ [u]).map fun v => (a2.hdl v, (0 : Int))).map (·.1)) fun _ => false)) a2 (gdH G hz (th : Nat) (upf gl 1 ((us ++ [u]).map fun v => (a2.hdl v, (0 : Int))))) = some (lkN 1, a3, gdH G hz (th : Nat) (upf (upf gl 1 ((us ++ [u]).map fun v => (a2.hdl v, (0 : Int)))) ((1 : Nat) : Int) (([] : List Int).map fun h => (h, (0 : Int))))) := by
        rw [List.map_map]; exact hrun
      rw [hrun']
      simp only [Option.bind_some, m20_eq]
      simp only [hthz, htm, hmod0, cond_false, hret3, hstate, hw]
      have w00 : w64 0 = 0 := by decide
      simp [gdH, upf, hg0, w00]
    · exact q4.inv
    · intro i hi
      rw [q3.far _ (by omega)]; exact hzero2 i hi
    · have := q3.uses
      rw [huse2] at this
      simp at q1
      omega
  · -- it waits
    rw [if_neg hc] at h19
    have hmod1 : (j + 1) % th = us.length + 1 := by
      rw [Nat.add_mod, ← hlen, Nat.mod_eq_of_lt (show 1 < th by omega), Nat.mod_eq_of_lt (by omega)]
    have hstate : a2.state (a1.hdl u) = 2 := by
      obtain ⟨_, _, _, _, _, _, _, _, p8, _⟩ := r1.opened (by omega) (u := u) (by rw [hst2, if_pos rfl]; decide)
      rw [← hh2 u, p8, hst2, if_pos rfl]
    refine ⟨a2, gdH G hz (th : Nat) (upf gl 1 ((us ++ [u]).map fun v => (a2.hdl v, (0 : Int)))), ?_, ⟨⟨h1, us ++ [u], _, r1, hT2, rfl, by simp, by rw [upf_ne _ _ (by decide)]; exact hg0, hnd2, hiff2, hst2', by simp [hmod1], by rw [hret2]; simp⟩, hzero2, by rw [huse2]; omega⟩⟩
    unfold mL3b0
    rw [h15]
    simp only [Option.bind_some]
    rw [decide_eq_true hn]
    simp only [cond_true]
    rw [e2]
    simp only [Option.bind_some]
    rw [t2.hdl, show (a1.hdl u == 0) = false by rw [beq_eq_false_iff_ne]; exact o9, h19]
    simp only [cond_false, bind2, Option.bind_some, m20_eq, m18n, Option.getD_some]
    have hw8 : w64 (8 * (((us.length + 1 : Nat)) : Int)) = 8 * ((us.length + 1 : Nat) : Int) := w64_id (by omega) (by omega)
    simp only [hthz, htm, hmod1, cond_false, hret2, hstate, hw, hw8]
    have hz0 : ((us.length : Int) + 1 == 0) = false := by rw [beq_eq_false_iff_ne]; omega
    simp [gdH, upf, hg0, hz0]

/-- The loop. -/
theorem gl_loop {G : Geo} {hz th : Nat} (hW : 2 ≤ G.W ∧ G.W ≤ 30) (hz1 : G.carve < hz) (hz2 : hz + 2 * G.W ≤ G.R) (hN : G.N = 800) (hth : 1 ≤ th ∧ th ≤ 20) (n : Int) : ∀ (m j : Nat) (a : Ar) (g : Gd) (fuel : Nat), (place n 90 - j).toNat = m → GL G hz th a g j → m + 1 ≤ fuel →
    ∃ a' g' i', whileM (fun s : Int × Int × Ar × Int × Int × Int × Int × Int × Gd × Int => mL3b0 s.1 s.2.1 s.2.2.1 s.2.2.2.1 s.2.2.2.2.1 s.2.2.2.2.2.1 s.2.2.2.2.2.2.1 s.2.2.2.2.2.2.2.1 s.2.2.2.2.2.2.2.2.1 s.2.2.2.2.2.2.2.2.2) fuel (n, ((th : Nat) : Int), a, G.pl.work, G.pl.heads, G.pl.links, G.pl.gens, G.pl.carved, g, ((j + 1 : Nat) : Int)) =
      some (n, ((th : Nat) : Int), a', G.pl.work, G.pl.heads, G.pl.links, G.pl.gens, G.pl.carved, g', i') ∧ a'.fault = false
  | m, j, a, g, 0, hm, hG, hf => by omega
  | 0, j, a, g, fuel + 1, hm, hG, hf => by
    have hp := place_range n (n := 90) (by decide) (by decide)
    refine ⟨a, g, ((j + 1 : Nat) : Int), ?_, ?_⟩
    · simp only [whileM, mL3b0, m15_eq n (show (90 : Int) ≠ 0 by decide), Option.bind_some]
      rw [decide_eq_false (by omega)]
      rfl
    · obtain ⟨⟨h, us, gl, hI, _⟩, _, _⟩ := hG
      exact hI.flt
  | m + 1, j, a, g, fuel + 1, hm, hG, hf => by
    have hp := place_range n (n := 90) (by decide) (by decide)
    obtain ⟨a1, g1, e1, e2⟩ := gl_round hG hW hz1 hz2 hN hth (by omega) n (by omega)
    obtain ⟨a', g', i', e3, e4⟩ := gl_loop hW hz1 hz2 hN hth n m (j + 1) a1 g1 fuel (by omega) e2 (by omega)
    refine ⟨a', g', i', ?_, e4⟩
    simp only [whileM]
    rw [e1]
    exact e3
theorem guardLeft_true (t n : Int) : m3 t n = some true := by
  have hp := place_range t (n := 20) (by decide) (by decide)
  obtain ⟨k, hk⟩ : ∃ k : Nat, place t 20 = k := ⟨(place t 20).toNat, by omega⟩
  have hw : w64 ((1 : Int) + (k : Nat)) = ((k + 1 : Nat) : Int) := by rw [w64_id (by omega) (by omega)]; omega
  have h16 := m16_haz (W := 2) (S := 100) (by decide) (by decide) ((k + 1 : Nat) : Int)
  have hth : thOf ((k + 1 : Nat) : Int) = ((k + 1 : Nat) : Int) := by
    unfold thOf
    rw [if_neg (show ¬ (64 : Int) < ((k + 1 : Nat) : Int) by omega)]
    split <;> omega
  rw [hth] at h16
  let G := geo1 2 100 4 (by decide) (by decide) (by decide)
  have hG0 : GL G 209 (k + 1) (arNew G.R G.N) (gdH G 209 ((k + 1 : Nat) : Int) fun _ => []) 0 := by
    refine ⟨⟨ghNew, [], _, inv_new G, tid_new G, rfl, rfl, rfl, List.nodup_nil, fun u => ?_, fun u hu => absurd hu (List.not_mem_nil), by simp, rfl⟩, ?_, ?_⟩
    · exact ⟨fun h => absurd rfl h, fun h => absurd h (List.not_mem_nil)⟩
    · intro i hi
      unfold Ar.rg arNew
      simp only [List.getD_eq_getElem?_getD, List.getElem?_replicate]
      split <;> rfl
    · exact ⟨Int.le_refl _, by show (0 : Int) ≤ _; omega⟩
  obtain ⟨a', g', i', e1, e2⟩ := gl_loop (G := G) (hz := 209) (th := k + 1) (by decide) (by decide) (by decide) rfl (by omega) n _ 0 _ _ 6000 rfl hG0 (by
    have := place_range n (n := 90) (by decide) (by decide)
    omega)
  unfold m3
  rw [m15_eq t (by decide), hk]
  simp only [Option.bind_some, hw]
  have h16' : m16 (2 : Int) (100 : Int) false ((k + 1 : Nat) : Int) = _ := h16
  rw [h16']
  simp only [Option.getD_some]
  unfold w3b0
  have e1' : whileM (fun s : Int × Int × Ar × Int × Int × Int × Int × Int × Gd × Int => mL3b0 s.1 s.2.1 s.2.2.1 s.2.2.2.1 s.2.2.2.2.1 s.2.2.2.2.2.1 s.2.2.2.2.2.2.1 s.2.2.2.2.2.2.2.1 s.2.2.2.2.2.2.2.2.1 s.2.2.2.2.2.2.2.2.2) 6000 (n, ((k + 1 : Nat) : Int), arNew (4 * 2 + 2 * 100 + 1 + 2 * 2) (8 * 100), ((2 : Nat) : Int), (0 : Int), ((4 * 2 : Nat) : Int), ((4 * 2 + 100 : Nat) : Int), ((4 * 2 + 2 * 100 : Nat) : Int), gdH (geo1 2 100 (2 * 2) (by decide) (by decide) (by decide)) (4 * 2 + 2 * 100 + 1) ((k + 1 : Nat) : Int) fun _ => [], (1 : Int)) = _ := e1
  rw [e1']
  simp only [Option.bind_some, e2]
  rfl
end Go.Sx

/- The example of the laws of guards. No condition. -/
namespace Go.Sx
theorem awake14 : m24 = some true := by kernel_rfl
end Go.Sx

/- From a contract to a statement. No condition. -/
set_option linter.unusedVariables false
namespace Go.Sx
open Go.Proofs Go.ChangeShapes Go.WideShapes Go.ChangeAt Go.RowKit

/-- What was there is there. -/
def Old (w w' : World) : Prop := w.keptBut w' (fun _ => False) ∧ (∀ a, a.block < w.heap.size → w'.frozen? a = w.frozen? a) ∧ w.heap.size ≤ w'.heap.size

theorem old_of {w w' : World} (he : w'.os = w.os) (ho : w'.output = w.output) (h : ∀ (b : Nat) (o : Obj), w.heap[b]? = some o → w'.heap[b]? = some o) : Old w w' := by
  refine ⟨⟨he, ho, fun i hi => ?_⟩, fun a ha => ?_, ?_⟩
  · have h1 : w.heap[i]? = some w.heap[i] := Array.getElem?_eq_getElem hi
    have h2 := h i _ h1
    rw [h1, h2]
    generalize w.heap[i] = o
    cases o with
    | cells c t fr => exact ⟨rfl, rfl, rfl, fun _ _ => rfl⟩
    | map es clock => exact .inr ⟨rfl, rfl⟩
    | _ => rfl
  · have h1 : w.heap[a.block]? = some w.heap[a.block] := Array.getElem?_eq_getElem ha
    have h2 := h _ _ h1
    simp only [World.frozen?, h1, h2]
  · rcases Nat.lt_or_ge w'.heap.size w.heap.size with hlt | hge
    · have h1 : w.heap[w'.heap.size]? = some w.heap[w'.heap.size] := Array.getElem?_eq_getElem hlt
      have h2 := h _ _ h1
      rw [Array.getElem?_eq_none (Nat.le_refl _)] at h2
      cases h2
    · exact hge

theorem walk_of {f : FuncId} {S : Summ Kd} (h : Fact f S) {args : List LV} (hok : okL (lt 0) args = true) (hS : (S args []).eval = some (.bool true, [])) (ρ : Nat → Bk) (w : World) :
    Calls Try.prog f (denL ρ args).toArray w fun e w' => e = .returned (.bool true) ∧ Old w w' := by
  have hsat : Sat body ⟨w, fun b => w.heap[b]?, fun _ => none⟩ (lget []) (lt ([] : List (Option (LO Kd))).length) ρ w := by
    refine ⟨fun _ => Hp.none, ?_, ?_, ?_, ?_, ?_, ?_, ?_, ?_⟩
    · intro n c hn; simp [lget] at hn
    · intro n hn b; rfl
    · intro n m b hnm hb; rfl
    · intro n b hb; exact absurd rfl hb
    · intro n b o hb; cases hb
    · intro b o hb; exact hb
    · intro b o hb; cases hb
    · exact ⟨rfl, rfl, rfl⟩
  refine (h.keeps args [] _ _ hS hok _ ρ w hsat).mono fun e w' => ?_
  rintro ⟨ρ', _, _, he, pt, hs⟩
  refine ⟨he, old_of hs.env.1 hs.env.2.2 hs.old⟩

theorem post_of_old {P : Program} {H : Type} {enc : TypeId × Value → H} {f : Func} {s : ChangeSpec} {apart fresh handsOn again : Bool} {W W' : World} {args : Array Value} {v : Value} {ds gs : List (DataW H)} {before pa pv : List MemPlace}
    (hW : DataW.Whole enc P f.params.toList s.vars apart W args.toList ds gs before)
    (hres : ∀ (b : Nat) (sp : Nat → Bool) (hd : Bool), DataW.TrodAll enc P W' b sp hd f.resultTypes.toList (v.resultList f.resultTypes.size) (s.fn H (ds ++ gs)).results [])
    (hargs : ∀ sp : Nat → Bool, (∀ p ∈ before, sp p.block = true) → DataW.TrodAll enc P W' 0 sp true f.params.toList args.toList (s.fn H (ds ++ gs)).args pa)
    (hvars : ∀ sp : Nat → Bool, (∀ p ∈ before, sp p.block = true) → DataW.TrodVars enc P W' sp s.vars (s.fn H (ds ++ gs)).vars pv)
    (hps : before = pa ++ pv) (hold : Old W W')
    (hok : ∀ (j : Nat) (t : TypeId) (r : Value), f.resultTypes[j]? = some t → (v.resultList f.resultTypes.size)[j]? = some r → Value.okWide P W' .any 0 t r) :
    s.post enc P f apart fresh handsOn again W args v W' := by
  have hold' : ∀ p ∈ before, (fun b => decide (b < W.heap.size)) p.block = true := fun p hp => by simpa using hW.lt p hp
  have hW0 := hW
  refine ⟨ds, gs, before, [], pa, pv, hW, hres _ _ _, hargs _ hold', hvars _ hold', World.keptBut_mono (fun p hp => hp.elim) hold.1, fun _ => ?_⟩
  obtain ⟨_, _, _, _, _, hz, hn⟩ := hW
  refine ⟨hok, _, _, ([] ++ pa) ++ pv, ⟨[] ++ pa, pv, trodAll_append (hargs _ (fun _ _ => rfl)) (hres _ _ _), hvars _ (fun _ _ => rfl), rfl, ?_, ?_⟩, ?_⟩
  · intro b off hp
    have hp' : MemPlace.cell b off ∈ before := by rw [hps]; simpa using hp
    rw [hold.2.1 _ (hW0.lt _ hp')]
    exact hz b off hp'
  · intro ha
    have := hn ha
    rw [hps] at this
    simpa using this
  · intro p hp _
    rw [hps]
    simpa using hp
end Go.Sx
