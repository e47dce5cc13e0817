/- laws of cell: CellApart -/
import Derived.Test.YtleaahajkncnpaaDoorCg
namespace Go.Proofs.YtleaahajkncnpaaDoor
open Go.RowKit M
set_option linter.unusedVariables false
/-- the two cells, behind the crash -/
theorem apart_facts {s t : Bytes} {f g n : Int} {ks : List Int} (hf : 0 ≤ f ∧ f < 16) (hg : 0 ≤ g ∧ g < 16) (hne : f ≠ g) (hs : s.length ≤ 400) :
    openE newD f = 0 ∧ openC newD f = newC f ∧ openE newD g = 0 ∧ openC newD g = newC g ∧ (setR newD (newC f) s).e = 0 ∧ (setR newD (newC f) s).C.slot ≤ 2 ∧
    (∀ R, R = setR (armD (setR newD (newC f) s).D n ks) (newC g) t → openE (startD (crashD R.D ks)) f = 0 ∧ openE (startD (crashD R.D ks)) g = 0 ∧ (∃ sf, sf ≠ 0 ∧ openC (startD (crashD R.D ks)) f = ⟨f, sf, s, false⟩) ∧ ∃ sg v, openC (startD (crashD R.D ks)) g = ⟨g, sg, v, false⟩ ∧ (sg ≠ 0 → v = t) ∧ (R.e = 0 → sg ≠ 0)) := by
  obtain ⟨a1, a2, a3, _⟩ := Good.begin (f := f) (P := fun _ _ => True) hf trivial
  obtain ⟨b1, b2, b3, _⟩ := Good.begin (f := g) (P := fun sl v => sl = 0 ∨ v = t) hg (.inl rfl)
  obtain ⟨c1, c2, c3, c4, _⟩ := calm_new.set (f := f) (C := newC f) (s := s) a3.up rfl (by simp [newC]) (by omega)
  obtain ⟨d1, d2, d3, d4, d5, _⟩ := (a3.set s (fun _ _ => trivial)).2 c1
  have e1 : Good (setR newD (newC f) s).D f (setR newD (newC f) s).C (fun sl v => sl ≠ 0 ∧ v = s) := d1.narrow d2 ⟨by omega, d4⟩
  have e2 : OkSt (setR newD (newC f) s).D g (newC g) (fun sl v => sl = 0 ∨ v = t) := OkSt.set_other (.inl b3) hne s
  refine ⟨a1, a2, b1, b2, c1, by rw [c4]; have := other_12 (newC f); show other (newC f) ≤ 2; omega, fun R hR => ?_⟩
  have f1 : OkSt R.D f (setR newD (newC f) s).C (fun sl v => sl ≠ 0 ∧ v = s) := by rw [hR]; exact OkSt.set_other (C2 := newC g) (OkSt.arm (.inl e1) n ks) (Ne.symm hne) t
  have f2 := (e2.arm n ks).set t (fun sl _ => .inr rfl)
  rw [← hR] at f2
  obtain ⟨g1, sf, vf, g2, _, g3, _⟩ := f1.again ks
  obtain ⟨h1, sg, vg, h2, _, h3, _⟩ := f2.1.again ks
  refine ⟨g1, h1, ⟨sf, g3.1, by rw [g2, g3.2]⟩, sg, vg, h2, fun q => h3.resolve_left q, fun he => ?_⟩
  obtain ⟨i1, i2, _, i4, i5, _⟩ := f2.2 he
  obtain ⟨_, sg2, vg2, j2, _, j3, _⟩ := OkSt.again (.inl (i1.narrow (P' := fun sl _ => sl ≠ 0) i2 (by omega))) ks
  rw [h2] at j2
  have : sg = sg2 := by injection j2
  rw [this]; exact j3
set_option maxRecDepth 100000 in
set_option maxHeartbeats 1000000 in
theorem apart_law {w : World} {F : Th} (hS : Sat w [F]) (hG : Ent F (Glob 0)) (s t : Bytes) (f g n : Int) (hn : n ≤ 9223372036854775807) {kv : Value} {ks : List Int} (hK : Ent F (RdI kv ks)) :
    Calls Tryd.prog 5 #[strV s, strV t, intV f, intV g, intV n, kv] w (Ret fun v w' => v = .bool true ∧ Sat w' [F]) := by
  obtain ⟨aok, capk, rfl, hkm⟩ := (hK.sat hS 0 rfl).shape
  refine calls_enter Tryd.func5 rfl Tryd.ntmps5 rfl ?_
  refine wc_seq ?_
  refine wc_region ?_
  refine wl_assign rfl rfl ?_
  refine wl_nil ?_
  refine qs_seq ?_
  refine wc_seq ?_
  refine wc_region ?_
  have hC1 := hS.split [] [false] rfl; dsimp only [selF, pickA, nthA, List.cons_append, List.nil_append] at hC1
  refine wl_call cal_8 rfl (small_sp hC1 (hG.starL 0 rfl)) rfl ?_
  rintro e w1 ⟨_, rfl, rfl, hS1⟩; refine ⟨_, rfl, ?_⟩
  replace hS1 := hS1.join rfl; dsimp only [List.dropLast, List.cons_append, List.nil_append] at hS1; clear hC1
  refine wl_assign rfl rfl ?_
  refine wl_nil ?_
  refine qs_seq ?_
  refine wc_seq ?_
  refine wc_seq ?_
  refine wc_region ?_
  refine wl_move rfl rfl ?_
  refine wl_lenS Tryd.underlying9 rfl rfl ?_
  refine wl_gtr rfl rfl rfl ?_
  refine wl_move rfl rfl ?_
  refine wl_splitD 28 rfl (fun h2 => ?_) (fun h2 => ?_)
  · skip
    refine wl_unwanted rfl rfl (decide_eq_true h2) rfl ?_
    refine wl_unwanted rfl rfl (decide_eq_true h2) rfl ?_
    refine wl_unwanted rfl rfl (decide_eq_true h2) rfl ?_
    refine wl_pickT rfl (decide_eq_true h2) rfl rfl ?_
    refine wl_move rfl rfl ?_
    refine wl_unwanted rfl rfl rfl rfl ?_
    refine wl_unwanted rfl rfl rfl rfl ?_
    refine wl_pickT rfl rfl rfl rfl ?_
    refine wl_move rfl rfl ?_
    refine wl_unwanted rfl rfl rfl rfl ?_
    refine wl_unwanted rfl rfl rfl rfl ?_
    refine wl_pickT rfl rfl rfl rfl ?_
    refine wl_move rfl rfl ?_
    refine wl_unwanted rfl rfl rfl rfl ?_
    refine wl_unwanted rfl rfl rfl rfl ?_
    refine wl_pickT rfl rfl rfl rfl ?_
    refine wl_move rfl rfl ?_
    refine wl_unwanted rfl rfl rfl rfl ?_
    refine wl_unwanted rfl rfl rfl rfl ?_
    refine wl_pickT rfl rfl rfl rfl ?_
    refine wl_move rfl rfl ?_
    refine wl_unwanted rfl rfl rfl rfl ?_
    refine wl_unwanted rfl rfl rfl rfl ?_
    refine wl_unwanted rfl rfl rfl rfl ?_
    refine wl_pickT rfl rfl rfl rfl ?_
    refine wl_move rfl rfl ?_
    refine wl_unwanted rfl rfl rfl rfl ?_
    refine wl_unwanted rfl rfl rfl rfl ?_
    refine wl_unwanted rfl rfl rfl rfl ?_
    refine wl_pickT rfl rfl rfl rfl ?_
    refine wl_nil ?_
    refine qs_seq ?_
    refine wc_sub (L' := [(58, _), (13, _), (12, _), (0, _), (1, _), (2, _), (3, _), (4, _), (5, _)]) (.cons rfl (.cons rfl (.cons rfl (.cons rfl (.cons rfl (.cons rfl (.cons rfl (.cons rfl (.cons rfl .nil))))))))) ?_
    refine wc_condT rfl ?_
    refine wc_seq ?_
    refine wc_region ?_
    refine wl_move rfl rfl ?_
    refine wl_assign rfl rfl ?_
    refine wl_nil ?_
    refine qs_seq ?_
    refine wc_ret ?_
    refine qs_then_ret ?_
    refine fin1 (.inr rfl) rfl rfl ?_
    exact ⟨_, rfl, rfl, hS1.pick [0] rfl⟩
  · skip
    refine wl_guard rfl rfl (decide_eq_false h2) ?_
    refine wl_move rfl rfl ?_
    refine wl_guard rfl rfl (decide_eq_false h2) ?_
    refine wl_lenS Tryd.underlying9 rfl rfl ?_
    refine wl_guard rfl rfl (decide_eq_false h2) ?_
    refine wl_gtr rfl rfl rfl ?_
    refine wl_pickF rfl (decide_eq_false h2) rfl rfl ?_
    refine wl_move rfl rfl ?_
    refine wl_splitD 33 rfl (fun h3 => ?_) (fun h3 => ?_)
    · skip
      refine wl_unwanted rfl rfl (decide_eq_true h3) rfl ?_
      refine wl_unwanted rfl rfl (decide_eq_true h3) rfl ?_
      refine wl_pickT rfl (decide_eq_true h3) rfl rfl ?_
      refine wl_move rfl rfl ?_
      refine wl_unwanted rfl rfl rfl rfl ?_
      refine wl_unwanted rfl rfl rfl rfl ?_
      refine wl_pickT rfl rfl rfl rfl ?_
      refine wl_move rfl rfl ?_
      refine wl_unwanted rfl rfl rfl rfl ?_
      refine wl_unwanted rfl rfl rfl rfl ?_
      refine wl_pickT rfl rfl rfl rfl ?_
      refine wl_move rfl rfl ?_
      refine wl_unwanted rfl rfl rfl rfl ?_
      refine wl_unwanted rfl rfl rfl rfl ?_
      refine wl_pickT rfl rfl rfl rfl ?_
      refine wl_move rfl rfl ?_
      refine wl_unwanted rfl rfl rfl rfl ?_
      refine wl_unwanted rfl rfl rfl rfl ?_
      refine wl_unwanted rfl rfl rfl rfl ?_
      refine wl_pickT rfl rfl rfl rfl ?_
      refine wl_move rfl rfl ?_
      refine wl_unwanted rfl rfl rfl rfl ?_
      refine wl_unwanted rfl rfl rfl rfl ?_
      refine wl_unwanted rfl rfl rfl rfl ?_
      refine wl_pickT rfl rfl rfl rfl ?_
      refine wl_nil ?_
      refine qs_seq ?_
      refine wc_sub (L' := [(58, _), (13, _), (12, _), (0, _), (1, _), (2, _), (3, _), (4, _), (5, _)]) (.cons rfl (.cons rfl (.cons rfl (.cons rfl (.cons rfl (.cons rfl (.cons rfl (.cons rfl (.cons rfl .nil))))))))) ?_
      refine wc_condT rfl ?_
      refine wc_seq ?_
      refine wc_region ?_
      refine wl_move rfl rfl ?_
      refine wl_assign rfl rfl ?_
      refine wl_nil ?_
      refine qs_seq ?_
      refine wc_ret ?_
      refine qs_then_ret ?_
      refine fin1 (.inr rfl) rfl rfl ?_
      exact ⟨_, rfl, rfl, hS1.pick [0] rfl⟩
    · skip
      refine wl_guard rfl rfl (decide_eq_false h3) ?_
      refine wl_move rfl rfl ?_
      refine wl_guard rfl rfl (decide_eq_false h3) ?_
      refine wl_lss rfl rfl rfl ?_
      refine wl_pickF rfl (decide_eq_false h3) rfl rfl ?_
      refine wl_move rfl rfl ?_
      refine wl_splitD 37 rfl (fun h4 => ?_) (fun h4 => ?_)
      · skip
        refine wl_unwanted rfl rfl (decide_eq_true h4) rfl ?_
        refine wl_unwanted rfl rfl (decide_eq_true h4) rfl ?_
        refine wl_pickT rfl (decide_eq_true h4) rfl rfl ?_
        refine wl_move rfl rfl ?_
        refine wl_unwanted rfl rfl rfl rfl ?_
        refine wl_unwanted rfl rfl rfl rfl ?_
        refine wl_pickT rfl rfl rfl rfl ?_
        refine wl_move rfl rfl ?_
        refine wl_unwanted rfl rfl rfl rfl ?_
        refine wl_unwanted rfl rfl rfl rfl ?_
        refine wl_pickT rfl rfl rfl rfl ?_
        refine wl_move rfl rfl ?_
        refine wl_unwanted rfl rfl rfl rfl ?_
        refine wl_unwanted rfl rfl rfl rfl ?_
        refine wl_unwanted rfl rfl rfl rfl ?_
        refine wl_pickT rfl rfl rfl rfl ?_
        refine wl_move rfl rfl ?_
        refine wl_unwanted rfl rfl rfl rfl ?_
        refine wl_unwanted rfl rfl rfl rfl ?_
        refine wl_unwanted rfl rfl rfl rfl ?_
        refine wl_pickT rfl rfl rfl rfl ?_
        refine wl_nil ?_
        refine qs_seq ?_
        refine wc_sub (L' := [(58, _), (13, _), (12, _), (0, _), (1, _), (2, _), (3, _), (4, _), (5, _)]) (.cons rfl (.cons rfl (.cons rfl (.cons rfl (.cons rfl (.cons rfl (.cons rfl (.cons rfl (.cons rfl .nil))))))))) ?_
        refine wc_condT rfl ?_
        refine wc_seq ?_
        refine wc_region ?_
        refine wl_move rfl rfl ?_
        refine wl_assign rfl rfl ?_
        refine wl_nil ?_
        refine qs_seq ?_
        refine wc_ret ?_
        refine qs_then_ret ?_
        refine fin1 (.inr rfl) rfl rfl ?_
        exact ⟨_, rfl, rfl, hS1.pick [0] rfl⟩
      · skip
        refine wl_guard rfl rfl (decide_eq_false h4) ?_
        refine wl_move rfl rfl ?_
        refine wl_guard rfl rfl (decide_eq_false h4) ?_
        refine wl_gtr rfl rfl rfl ?_
        refine wl_pickF rfl (decide_eq_false h4) rfl rfl ?_
        refine wl_move rfl rfl ?_
        refine wl_splitD 41 rfl (fun h5 => ?_) (fun h5 => ?_)
        · skip
          refine wl_unwanted rfl rfl (decide_eq_true h5) rfl ?_
          refine wl_unwanted rfl rfl (decide_eq_true h5) rfl ?_
          refine wl_pickT rfl (decide_eq_true h5) rfl rfl ?_
          refine wl_move rfl rfl ?_
          refine wl_unwanted rfl rfl rfl rfl ?_
          refine wl_unwanted rfl rfl rfl rfl ?_
          refine wl_pickT rfl rfl rfl rfl ?_
          refine wl_move rfl rfl ?_
          refine wl_unwanted rfl rfl rfl rfl ?_
          refine wl_unwanted rfl rfl rfl rfl ?_
          refine wl_unwanted rfl rfl rfl rfl ?_
          refine wl_pickT rfl rfl rfl rfl ?_
          refine wl_move rfl rfl ?_
          refine wl_unwanted rfl rfl rfl rfl ?_
          refine wl_unwanted rfl rfl rfl rfl ?_
          refine wl_unwanted rfl rfl rfl rfl ?_
          refine wl_pickT rfl rfl rfl rfl ?_
          refine wl_nil ?_
          refine qs_seq ?_
          refine wc_sub (L' := [(58, _), (13, _), (12, _), (0, _), (1, _), (2, _), (3, _), (4, _), (5, _)]) (.cons rfl (.cons rfl (.cons rfl (.cons rfl (.cons rfl (.cons rfl (.cons rfl (.cons rfl (.cons rfl .nil))))))))) ?_
          refine wc_condT rfl ?_
          refine wc_seq ?_
          refine wc_region ?_
          refine wl_move rfl rfl ?_
          refine wl_assign rfl rfl ?_
          refine wl_nil ?_
          refine qs_seq ?_
          refine wc_ret ?_
          refine qs_then_ret ?_
          refine fin1 (.inr rfl) rfl rfl ?_
          exact ⟨_, rfl, rfl, hS1.pick [0] rfl⟩
        · skip
          refine wl_guard rfl rfl (decide_eq_false h5) ?_
          refine wl_move rfl rfl ?_
          refine wl_guard rfl rfl (decide_eq_false h5) ?_
          refine wl_lss rfl rfl rfl ?_
          refine wl_pickF rfl (decide_eq_false h5) rfl rfl ?_
          refine wl_move rfl rfl ?_
          refine wl_splitD 45 rfl (fun h6 => ?_) (fun h6 => ?_)
          · skip
            refine wl_unwanted rfl rfl (decide_eq_true h6) rfl ?_
            refine wl_unwanted rfl rfl (decide_eq_true h6) rfl ?_
            refine wl_pickT rfl (decide_eq_true h6) rfl rfl ?_
            refine wl_move rfl rfl ?_
            refine wl_unwanted rfl rfl rfl rfl ?_
            refine wl_unwanted rfl rfl rfl rfl ?_
            refine wl_unwanted rfl rfl rfl rfl ?_
            refine wl_pickT rfl rfl rfl rfl ?_
            refine wl_move rfl rfl ?_
            refine wl_unwanted rfl rfl rfl rfl ?_
            refine wl_unwanted rfl rfl rfl rfl ?_
            refine wl_unwanted rfl rfl rfl rfl ?_
            refine wl_pickT rfl rfl rfl rfl ?_
            refine wl_nil ?_
            refine qs_seq ?_
            refine wc_sub (L' := [(58, _), (13, _), (12, _), (0, _), (1, _), (2, _), (3, _), (4, _), (5, _)]) (.cons rfl (.cons rfl (.cons rfl (.cons rfl (.cons rfl (.cons rfl (.cons rfl (.cons rfl (.cons rfl .nil))))))))) ?_
            refine wc_condT rfl ?_
            refine wc_seq ?_
            refine wc_region ?_
            refine wl_move rfl rfl ?_
            refine wl_assign rfl rfl ?_
            refine wl_nil ?_
            refine qs_seq ?_
            refine wc_ret ?_
            refine qs_then_ret ?_
            refine fin1 (.inr rfl) rfl rfl ?_
            exact ⟨_, rfl, rfl, hS1.pick [0] rfl⟩
          · skip
            refine wl_guard rfl rfl (decide_eq_false h6) ?_
            refine wl_move rfl rfl ?_
            refine wl_guard rfl rfl (decide_eq_false h6) ?_
            refine wl_gtr rfl rfl rfl ?_
            refine wl_pickF rfl (decide_eq_false h6) rfl rfl ?_
            refine wl_move rfl rfl ?_
            refine wl_splitD 49 rfl (fun h7 => ?_) (fun h7 => ?_)
            · skip
              refine wl_unwanted rfl rfl (decide_eq_true h7) rfl ?_
              refine wl_unwanted rfl rfl (decide_eq_true h7) rfl ?_
              refine wl_unwanted rfl rfl (decide_eq_true h7) rfl ?_
              refine wl_pickT rfl (decide_eq_true h7) rfl rfl ?_
              refine wl_move rfl rfl ?_
              refine wl_unwanted rfl rfl rfl rfl ?_
              refine wl_unwanted rfl rfl rfl rfl ?_
              refine wl_unwanted rfl rfl rfl rfl ?_
              refine wl_pickT rfl rfl rfl rfl ?_
              refine wl_nil ?_
              refine qs_seq ?_
              refine wc_sub (L' := [(58, _), (13, _), (12, _), (0, _), (1, _), (2, _), (3, _), (4, _), (5, _)]) (.cons rfl (.cons rfl (.cons rfl (.cons rfl (.cons rfl (.cons rfl (.cons rfl (.cons rfl (.cons rfl .nil))))))))) ?_
              refine wc_condT rfl ?_
              refine wc_seq ?_
              refine wc_region ?_
              refine wl_move rfl rfl ?_
              refine wl_assign rfl rfl ?_
              refine wl_nil ?_
              refine qs_seq ?_
              refine wc_ret ?_
              refine qs_then_ret ?_
              refine fin1 (.inr rfl) rfl rfl ?_
              exact ⟨_, rfl, rfl, hS1.pick [0] rfl⟩
            · skip
              refine wl_guard rfl rfl (decide_eq_false h7) ?_
              refine wl_move rfl rfl ?_
              refine wl_guard rfl rfl (decide_eq_false h7) ?_
              refine wl_move rfl rfl ?_
              refine wl_guard rfl rfl (decide_eq_false h7) ?_
              refine wl_eql rfl rfl rfl ?_
              refine wl_pickF rfl (decide_eq_false h7) rfl rfl ?_
              refine wl_move rfl rfl ?_
              refine wl_splitD 54 rfl (fun h8 => ?_) (fun h8 => ?_)
              · skip
                refine wl_unwanted rfl rfl (decide_eq_true h8) rfl ?_
                refine wl_unwanted rfl rfl (decide_eq_true h8) rfl ?_
                refine wl_unwanted rfl rfl (decide_eq_true h8) rfl ?_
                refine wl_pickT rfl (decide_eq_true h8) rfl rfl ?_
                refine wl_nil ?_
                refine qs_seq ?_
                refine wc_sub (L' := [(58, _), (13, _), (12, _), (0, _), (1, _), (2, _), (3, _), (4, _), (5, _)]) (.cons rfl (.cons rfl (.cons rfl (.cons rfl (.cons rfl (.cons rfl (.cons rfl (.cons rfl (.cons rfl .nil))))))))) ?_
                refine wc_condT rfl ?_
                refine wc_seq ?_
                refine wc_region ?_
                refine wl_move rfl rfl ?_
                refine wl_assign rfl rfl ?_
                refine wl_nil ?_
                refine qs_seq ?_
                refine wc_ret ?_
                refine qs_then_ret ?_
                refine fin1 (.inr rfl) rfl rfl ?_
                exact ⟨_, rfl, rfl, hS1.pick [0] rfl⟩
              · skip
                refine wl_guard rfl rfl (decide_eq_false h8) ?_
                refine wl_move rfl rfl ?_
                refine wl_guard rfl rfl (decide_eq_false h8) ?_
                refine wl_lenL Tryd.underlying39 rfl rfl ?_
                refine wl_guard rfl rfl (decide_eq_false h8) ?_
                refine wl_gtr rfl rfl rfl ?_
                refine wl_pickF rfl (decide_eq_false h8) rfl rfl ?_
                refine wl_nil ?_
                refine qs_seq ?_
                refine wc_sub (L' := [(58, _), (13, _), (12, _), (0, _), (1, _), (2, _), (3, _), (4, _), (5, _)]) (.cons rfl (.cons rfl (.cons rfl (.cons rfl (.cons rfl (.cons rfl (.cons rfl (.cons rfl (.cons rfl .nil))))))))) ?_
                refine wc_condD rfl (fun h9 => ?_) (fun h9 => ?_)
                · skip
                  refine wc_seq ?_
                  refine wc_region ?_
                  refine wl_move rfl rfl ?_
                  refine wl_assign rfl rfl ?_
                  refine wl_nil ?_
                  refine qs_seq ?_
                  refine wc_ret ?_
                  refine qs_then_ret ?_
                  refine fin1 (.inr rfl) rfl rfl ?_
                  exact ⟨_, rfl, rfl, hS1.pick [0] rfl⟩
                · skip
                  obtain ⟨o1, o2, o3, o4, o5, o6, o7⟩ := apart_facts (n := n) (ks := ks) (t := t) (show 0 ≤ f ∧ f < 16 by omega) (show 0 ≤ g ∧ g < 16 by omega) (by assumption) (show s.length ≤ 400 by omega)
                  refine wc_skip ?_
                  refine qs_seq ?_
                  refine wc_seq ?_
                  refine wc_region ?_
                  have hC10 := hS1.split [] [false] rfl; dsimp only [selF, pickA, nthA, List.cons_append, List.nil_append] at hC10
                  refine wl_call cal_9 rfl (new_sp hC10) rfl ?_
                  rintro e w10 ⟨_, rfl, p, rfl, hS10⟩; refine ⟨_, rfl, ?_⟩
                  replace hS10 := hS10.join rfl; dsimp only [List.dropLast, List.cons_append, List.nil_append] at hS10; clear hC10
                  clear hS1
                  replace hS10 := dT_new hS10
                  refine wl_assign rfl rfl ?_
                  refine wl_nil ?_
                  refine qs_seq ?_
                  refine wc_seq ?_
                  refine wc_seq ?_
                  refine wc_region ?_
                  refine wl_move rfl rfl ?_
                  refine wl_eqlNil Tryd.underlying23 rfl rfl rfl ?_
                  refine wl_nil ?_
                  refine qs_seq ?_
                  refine wc_sub (L' := [(62, _), (14, _), (13, _), (12, _), (0, _), (1, _), (2, _), (3, _), (4, _), (5, _)]) (.cons rfl (.cons rfl (.cons rfl (.cons rfl (.cons rfl (.cons rfl (.cons rfl (.cons rfl (.cons rfl (.cons rfl .nil)))))))))) ?_
                  refine wc_condF rfl ?_
                  refine wc_skip ?_
                  refine qs_seq ?_
                  refine wc_seq ?_
                  refine wc_region ?_
                  refine wl_move rfl rfl ?_
                  refine wl_move rfl rfl ?_
                  have hC11 := hS10.split [0] [true, false] rfl; dsimp only [selF, pickA, nthA, List.cons_append, List.nil_append] at hC11
                  refine wl_call cal_13 rfl (open0_sp hC11 (hG.starL 0 rfl) f o1) rfl ?_
                  rintro e w11 ⟨_, rfl, a, rfl, hS11⟩; refine ⟨_, rfl, ?_⟩
                  replace hS11 := hS11.join rfl; dsimp only [List.dropLast, List.cons_append, List.nil_append] at hS11; clear hC11
                  clear hS10
                  rw [o2] at hS11
                  refine wl_move rfl rfl ?_
                  refine wl_extract rfl rfl rfl ?_
                  refine wl_extract rfl rfl rfl ?_
                  refine wl_assign rfl rfl ?_
                  refine wl_assign rfl rfl ?_
                  refine wl_nil ?_
                  refine qs_seq ?_
                  refine wc_sub (L' := [(16, _), (15, _), (14, _), (13, _), (12, _), (0, _), (1, _), (2, _), (3, _), (4, _), (5, _)]) (.cons rfl (.cons rfl (.cons rfl (.cons rfl (.cons rfl (.cons rfl (.cons rfl (.cons rfl (.cons rfl (.cons rfl (.cons rfl .nil))))))))))) ?_
                  refine wc_seq ?_
                  refine wc_region ?_
                  refine wl_move rfl rfl ?_
                  refine wl_move rfl rfl ?_
                  have hC12 := hS11.split [1] [false, true, false] rfl; dsimp only [selF, pickA, nthA, List.cons_append, List.nil_append] at hC12
                  refine wl_call cal_13 rfl (open0_sp hC12 (hG.starL 1 rfl) g o3) rfl ?_
                  rintro e w12 ⟨_, rfl, b, rfl, hS12⟩; refine ⟨_, rfl, ?_⟩
                  replace hS12 := hS12.join rfl; dsimp only [List.dropLast, List.cons_append, List.nil_append] at hS12; clear hC12
                  clear hS11
                  rw [o4] at hS12
                  refine wl_move rfl rfl ?_
                  refine wl_extract rfl rfl rfl ?_
                  refine wl_extract rfl rfl rfl ?_
                  refine wl_assign rfl rfl ?_
                  refine wl_assign rfl rfl ?_
                  refine wl_nil ?_
                  refine qs_seq ?_
                  refine wc_sub (L' := [(18, _), (17, _), (16, _), (15, _), (14, _), (13, _), (12, _), (0, _), (1, _), (2, _), (3, _), (4, _), (5, _)]) (.cons rfl (.cons rfl (.cons rfl (.cons rfl (.cons rfl (.cons rfl (.cons rfl (.cons rfl (.cons rfl (.cons rfl (.cons rfl (.cons rfl (.cons rfl .nil))))))))))))) ?_
                  refine wc_seq ?_
                  refine wc_seq ?_
                  refine wc_region ?_
                  refine wl_move rfl rfl ?_
                  refine wl_eqlNil Tryd.underlying29 rfl rfl rfl ?_
                  refine wl_move rfl rfl ?_
                  refine wl_guard rfl rfl rfl ?_
                  refine wl_move rfl rfl ?_
                  refine wl_guard rfl rfl rfl ?_
                  refine wl_eqlNil Tryd.underlying29 rfl rfl rfl ?_
                  refine wl_pickF rfl rfl rfl rfl ?_
                  refine wl_move rfl rfl ?_
                  refine wl_guard rfl rfl rfl ?_
                  refine wl_move rfl rfl ?_
                  refine wl_guard rfl rfl rfl ?_
                  refine wl_neq rfl rfl rfl ?_
                  refine wl_pickF rfl rfl rfl rfl ?_
                  refine wl_move rfl rfl ?_
                  refine wl_splitD 85 rfl (fun h13 => ?_) (fun h13 => ?_)
                  · skip
                    exact absurd rfl h13
                  · skip
                    refine wl_guard rfl rfl (decide_eq_false h13) ?_
                    refine wl_move rfl rfl ?_
                    refine wl_guard rfl rfl (decide_eq_false h13) ?_
                    refine wl_neq rfl rfl rfl ?_
                    refine wl_pickF rfl (decide_eq_false h13) rfl rfl ?_
                    refine wl_nil ?_
                    refine qs_seq ?_
                    refine wc_sub (L' := [(88, _), (18, _), (17, _), (16, _), (15, _), (14, _), (13, _), (12, _), (0, _), (1, _), (2, _), (3, _), (4, _), (5, _)]) (.cons rfl (.cons rfl (.cons rfl (.cons rfl (.cons rfl (.cons rfl (.cons rfl (.cons rfl (.cons rfl (.cons rfl (.cons rfl (.cons rfl (.cons rfl (.cons rfl .nil)))))))))))))) ?_
                    refine wc_condD rfl (fun h14 => ?_) (fun h14 => ?_)
                    · skip
                      exact absurd rfl h14
                    · skip
                      refine wc_skip ?_
                      refine qs_seq ?_
                      refine wc_seq ?_
                      refine wc_seq ?_
                      refine wc_region ?_
                      refine wl_move rfl rfl ?_
                      refine wl_move rfl rfl ?_
                      have hC15 := hS12.split [2, 1] [false, true, true, false] rfl; dsimp only [selF, pickA, nthA, List.cons_append, List.nil_append] at hC15
                      refine wl_call cal_18 rfl (set_sp hC15 (hG.starL 1 rfl) (by show (0 : Nat) ≤ 2; decide) s) rfl ?_
                      rintro e w15 ⟨_, rfl, hv15, hS15⟩; refine ⟨_, rfl, ?_⟩
                      replace hS15 := hS15.join rfl; dsimp only [List.dropLast, List.cons_append, List.nil_append] at hS15; clear hC15
                      clear hS12
                      replace hv15 := hv15.trans (congrArg intV o5); subst hv15
                      refine wl_neq rfl rfl rfl ?_
                      refine wl_nil ?_
                      refine qs_seq ?_
                      refine wc_sub (L' := [(92, _), (18, _), (17, _), (16, _), (15, _), (14, _), (13, _), (12, _), (0, _), (1, _), (2, _), (3, _), (4, _), (5, _)]) (.cons rfl (.cons rfl (.cons rfl (.cons rfl (.cons rfl (.cons rfl (.cons rfl (.cons rfl (.cons rfl (.cons rfl (.cons rfl (.cons rfl (.cons rfl (.cons rfl .nil)))))))))))))) ?_
                      refine wc_condD rfl (fun h16 => ?_) (fun h16 => ?_)
                      · skip
                        exact absurd rfl h16
                      · skip
                        refine wc_skip ?_
                        refine qs_seq ?_
                        refine wc_seq ?_
                        refine wc_region ?_
                        refine wl_move rfl rfl ?_
                        refine wl_move rfl rfl ?_
                        refine wl_move rfl rfl ?_
                        have hC17 := hS15.split [1] [false, true, false, false] rfl; dsimp only [selF, pickA, nthA, List.cons_append, List.nil_append] at hC17
                        refine wl_call cal_21 rfl (armT hC17 n hn (hK.starL 2 rfl) (by omega)) rfl ?_
                        rintro e w17 ⟨_, rfl, rfl, hS17⟩; refine ⟨_, rfl, ?_⟩
                        replace hS17 := hS17.join rfl; dsimp only [List.dropLast, List.cons_append, List.nil_append] at hS17; clear hC17
                        clear hS15
                        refine wl_nil ?_
                        refine qs_seq ?_
                        refine wc_sub (L' := [(18, _), (17, _), (16, _), (15, _), (14, _), (13, _), (12, _), (0, _), (1, _), (2, _), (3, _), (5, _)]) (.cons rfl (.cons rfl (.cons rfl (.cons rfl (.cons rfl (.cons rfl (.cons rfl (.cons rfl (.cons rfl (.cons rfl (.cons rfl (.cons rfl .nil)))))))))))) ?_
                        refine wc_seq ?_
                        refine wc_region ?_
                        refine wl_move rfl rfl ?_
                        refine wl_move rfl rfl ?_
                        have hC18 := hS17.split [2, 0] [true, false, true, false] rfl; dsimp only [selF, pickA, nthA, List.cons_append, List.nil_append] at hC18
                        refine wl_call cal_18 rfl (set_sp hC18 (hG.starL 1 rfl) (by show (0 : Nat) ≤ 2; decide) t) rfl ?_
                        rintro e w18 ⟨_, rfl, rfl, hS18⟩; refine ⟨_, rfl, ?_⟩
                        replace hS18 := hS18.join rfl; dsimp only [List.dropLast, List.cons_append, List.nil_append] at hS18; clear hC18
                        clear hS17
                        refine wl_assign rfl rfl ?_
                        refine wl_nil ?_
                        obtain ⟨R, hR⟩ : ∃ R, R = setR (armD (setR newD (newC f) s).D n ks) (newC g) t := ⟨_, rfl⟩
                        rw [← hR] at hS18 ⊢
                        obtain ⟨p1, p2, ⟨sf, p3, p4⟩, sg, vg, p5, p6, p7⟩ := o7 R hR
                        refine qs_seq ?_
                        refine wc_sub (L' := [(19, _), (18, _), (17, _), (16, _), (15, _), (14, _), (13, _), (12, _), (0, _), (1, _), (2, _), (3, _), (5, _)]) (.cons rfl (.cons rfl (.cons rfl (.cons rfl (.cons rfl (.cons rfl (.cons rfl (.cons rfl (.cons rfl (.cons rfl (.cons rfl (.cons rfl (.cons rfl .nil))))))))))))) ?_
                        refine wc_seq ?_
                        refine wc_region ?_
                        refine wl_move rfl rfl ?_
                        refine wl_move rfl rfl ?_
                        have hC19 := hS18.split [1] [false, true, false, false] rfl; dsimp only [selF, pickA, nthA, List.cons_append, List.nil_append] at hC19
                        refine wl_call cal_22 rfl (crashT hC19 (hK.starL 2 rfl)) rfl ?_
                        rintro e w19 ⟨_, rfl, rfl, hS19⟩; refine ⟨_, rfl, ?_⟩
                        replace hS19 := hS19.join rfl; dsimp only [List.dropLast, List.cons_append, List.nil_append] at hS19; clear hC19
                        clear hS18
                        refine wl_nil ?_
                        refine qs_seq ?_
                        refine wc_sub (L' := [(19, _), (18, _), (17, _), (16, _), (15, _), (14, _), (13, _), (12, _), (0, _), (1, _), (2, _), (3, _)]) (.cons rfl (.cons rfl (.cons rfl (.cons rfl (.cons rfl (.cons rfl (.cons rfl (.cons rfl (.cons rfl (.cons rfl (.cons rfl (.cons rfl .nil)))))))))))) ?_
                        refine wc_seq ?_
                        refine wc_region ?_
                        refine wl_move rfl rfl ?_
                        have hC20 := hS19.split [0] [true, false, false, false] rfl; dsimp only [selF, pickA, nthA, List.cons_append, List.nil_append] at hC20
                        refine wl_call cal_23 rfl (startT hC20) rfl ?_
                        rintro e w20 ⟨_, rfl, rfl, hS20⟩; refine ⟨_, rfl, ?_⟩
                        replace hS20 := hS20.join rfl; dsimp only [List.dropLast, List.cons_append, List.nil_append] at hS20; clear hC20
                        clear hS19
                        refine wl_nil ?_
                        refine qs_seq ?_
                        refine wc_seq ?_
                        refine wc_region ?_
                        refine wl_move rfl rfl ?_
                        refine wl_move rfl rfl ?_
                        have hC21 := hS20.split [0] [true, false, false, false] rfl; dsimp only [selF, pickA, nthA, List.cons_append, List.nil_append] at hC21
                        refine wl_call cal_13 rfl (open0_sp hC21 (hG.starL 2 rfl) f p1) rfl ?_
                        rintro e w21 ⟨_, rfl, a9, rfl, hS21⟩; refine ⟨_, rfl, ?_⟩
                        replace hS21 := hS21.join rfl; dsimp only [List.dropLast, List.cons_append, List.nil_append] at hS21; clear hC21
                        clear hS20
                        rw [p4] at hS21
                        refine wl_move rfl rfl ?_
                        refine wl_extract rfl rfl rfl ?_
                        refine wl_extract rfl rfl rfl ?_
                        refine wl_assign rfl rfl ?_
                        refine wl_assign rfl rfl ?_
                        refine wl_nil ?_
                        refine qs_seq ?_
                        refine wc_sub (L' := [(16, _), (15, _), (19, _), (18, _), (17, _), (14, _), (13, _), (12, _), (0, _), (1, _), (3, _)]) (.cons rfl (.cons rfl (.cons rfl (.cons rfl (.cons rfl (.cons rfl (.cons rfl (.cons rfl (.cons rfl (.cons rfl (.cons rfl .nil))))))))))) ?_
                        refine wc_seq ?_
                        refine wc_region ?_
                        refine wl_move rfl rfl ?_
                        refine wl_move rfl rfl ?_
                        have hC22 := hS21.split [1] [false, true, false, false, false] rfl; dsimp only [selF, pickA, nthA, List.cons_append, List.nil_append] at hC22
                        refine wl_call cal_13 rfl (open0_sp hC22 (hG.starL 3 rfl) g p2) rfl ?_
                        rintro e w22 ⟨_, rfl, b9, rfl, hS22⟩; refine ⟨_, rfl, ?_⟩
                        replace hS22 := hS22.join rfl; dsimp only [List.dropLast, List.cons_append, List.nil_append] at hS22; clear hC22
                        clear hS21
                        rw [p5] at hS22
                        refine wl_move rfl rfl ?_
                        refine wl_extract rfl rfl rfl ?_
                        refine wl_extract rfl rfl rfl ?_
                        refine wl_assign rfl rfl ?_
                        refine wl_assign rfl rfl ?_
                        refine wl_nil ?_
                        refine qs_seq ?_
                        refine wc_sub (L' := [(18, _), (17, _), (16, _), (15, _), (19, _), (13, _), (12, _), (0, _), (1, _)]) (.cons rfl (.cons rfl (.cons rfl (.cons rfl (.cons rfl (.cons rfl (.cons rfl (.cons rfl (.cons rfl .nil))))))))) ?_
                        refine wc_seq ?_
                        refine wc_seq ?_
                        refine wc_region ?_
                        refine wl_move rfl rfl ?_
                        refine wl_eqlNil Tryd.underlying29 rfl rfl rfl ?_
                        refine wl_move rfl rfl ?_
                        refine wl_guard rfl rfl rfl ?_
                        refine wl_move rfl rfl ?_
                        refine wl_guard rfl rfl rfl ?_
                        refine wl_eqlNil Tryd.underlying29 rfl rfl rfl ?_
                        refine wl_pickF rfl rfl rfl rfl ?_
                        refine wl_move rfl rfl ?_
                        refine wl_guard rfl rfl rfl ?_
                        refine wl_move rfl rfl ?_
                        refine wl_guard rfl rfl rfl ?_
                        refine wl_neq rfl rfl rfl ?_
                        refine wl_pickF rfl rfl rfl rfl ?_
                        refine wl_move rfl rfl ?_
                        refine wl_splitD 127 rfl (fun h23 => ?_) (fun h23 => ?_)
                        · skip
                          exact absurd rfl h23
                        · skip
                          refine wl_guard rfl rfl (decide_eq_false h23) ?_
                          refine wl_move rfl rfl ?_
                          refine wl_guard rfl rfl (decide_eq_false h23) ?_
                          refine wl_neq rfl rfl rfl ?_
                          refine wl_pickF rfl (decide_eq_false h23) rfl rfl ?_
                          refine wl_nil ?_
                          refine qs_seq ?_
                          refine wc_sub (L' := [(130, _), (17, _), (15, _), (19, _), (13, _), (12, _), (0, _), (1, _)]) (.cons rfl (.cons rfl (.cons rfl (.cons rfl (.cons rfl (.cons rfl (.cons rfl (.cons rfl .nil)))))))) ?_
                          refine wc_condD rfl (fun h24 => ?_) (fun h24 => ?_)
                          · skip
                            exact absurd rfl h24
                          · skip
                            refine wc_skip ?_
                            refine qs_seq ?_
                            refine wc_seq ?_
                            refine wc_region ?_
                            refine wl_move rfl rfl ?_
                            have hC25 := hS22.split [2] [false, false, true, false, false, false] rfl; dsimp only [selF, pickA, nthA, List.cons_append, List.nil_append] at hC25
                            refine wl_call cal_15 rfl (get_sp hC25) rfl ?_
                            rintro e w25 ⟨_, rfl, rfl, hS25⟩; refine ⟨_, rfl, ?_⟩
                            replace hS25 := hS25.join rfl; dsimp only [List.dropLast, List.cons_append, List.nil_append] at hS25; clear hC25
                            clear hS22
                            refine wl_move rfl rfl ?_
                            refine wl_extract rfl rfl rfl ?_
                            refine wl_extract rfl rfl rfl ?_
                            refine wl_assign rfl rfl ?_
                            refine wl_assign rfl rfl ?_
                            refine wl_nil ?_
                            refine qs_seq ?_
                            refine wc_sub (L' := [(21, _), (20, _), (17, _), (19, _), (13, _), (12, _), (0, _), (1, _)]) (.cons rfl (.cons rfl (.cons rfl (.cons rfl (.cons rfl (.cons rfl (.cons rfl (.cons rfl .nil)))))))) ?_
                            refine wc_seq ?_
                            refine wc_region ?_
                            refine wl_move rfl rfl ?_
                            have hC26 := hS25.split [1] [false, true, false, false, false, false] rfl; dsimp only [selF, pickA, nthA, List.cons_append, List.nil_append] at hC26
                            refine wl_call cal_15 rfl (get_sp hC26) rfl ?_
                            rintro e w26 ⟨_, rfl, rfl, hS26⟩; refine ⟨_, rfl, ?_⟩
                            replace hS26 := hS26.join rfl; dsimp only [List.dropLast, List.cons_append, List.nil_append] at hS26; clear hC26
                            clear hS25
                            refine wl_move rfl rfl ?_
                            refine wl_extract rfl rfl rfl ?_
                            refine wl_extract rfl rfl rfl ?_
                            refine wl_assign rfl rfl ?_
                            refine wl_assign rfl rfl ?_
                            refine wl_nil ?_
                            refine qs_seq ?_
                            refine wc_sub (L' := [(23, _), (22, _), (21, _), (20, _), (19, _), (13, _), (12, _), (0, _), (1, _)]) (.cons rfl (.cons rfl (.cons rfl (.cons rfl (.cons rfl (.cons rfl (.cons rfl (.cons rfl (.cons rfl .nil))))))))) ?_
                            refine wc_seq ?_
                            refine wc_region ?_
                            refine wl_move rfl rfl ?_
                            refine wl_move rfl rfl ?_
                            refine wl_guard rfl rfl rfl ?_
                            refine wl_move rfl rfl ?_
                            refine wl_guard rfl rfl rfl ?_
                            refine wl_move rfl rfl ?_
                            refine wl_guard rfl rfl rfl ?_
                            refine wl_eqlS rfl rfl rfl ?_
                            refine wl_pickT rfl rfl rfl rfl ?_
                            refine wl_move rfl rfl ?_
                            refine wl_splitD 147 rfl (fun h27 => ?_) (fun h27 => ?_)
                            · skip
                              refine wl_guard rfl rfl (decide_eq_true h27) ?_
                              refine wl_move rfl rfl ?_
                              refine wl_pickT rfl (decide_eq_true h27) rfl rfl ?_
                              refine wl_move rfl rfl ?_
                              refine wl_split 150 rfl (fun h28 => ?_) (fun h28 => ?_)
                              · skip
                                refine wl_guard rfl rfl h28 ?_
                                refine wl_move rfl rfl ?_
                                refine wl_guard rfl rfl h28 ?_
                                refine wl_neq rfl rfl rfl ?_
                                refine wl_guard rfl rfl h28 ?_
                                refine wl_move rfl rfl ?_
                                refine wl_splitD 153 rfl (fun h29 => ?_) (fun h29 => ?_)
                                · skip
                                  refine wl_unwanted rfl rfl (decide_eq_true h29) rfl ?_
                                  refine wl_unwanted rfl rfl (decide_eq_true h29) rfl ?_
                                  refine wl_unwanted rfl rfl (decide_eq_true h29) rfl ?_
                                  refine wl_unwanted rfl rfl (decide_eq_true h29) rfl ?_
                                  refine wl_unguarded rfl rfl rfl ?_
                                  refine wl_unwanted rfl rfl (decide_eq_true h29) rfl ?_
                                  refine wl_guard rfl rfl h28 ?_
                                  refine wl_pickT rfl (decide_eq_true h29) rfl rfl ?_
                                  refine wl_pickT rfl h28 rfl rfl ?_
                                  refine wl_move rfl rfl ?_
                                  refine wl_guard rfl rfl rfl ?_
                                  refine wl_move rfl rfl ?_
                                  refine wl_guard rfl rfl rfl ?_
                                  refine wl_not rfl rfl ?_
                                  refine wl_guard rfl rfl rfl ?_
                                  refine wl_move rfl rfl ?_
                                  refine wl_split 165 rfl (fun h30 => ?_) (fun h30 => ?_)
                                  · skip
                                    refine wl_unwanted rfl rfl h30 rfl ?_
                                    refine wl_unwanted rfl rfl h30 rfl ?_
                                    refine wl_unwanted rfl rfl h30 rfl ?_
                                    refine wl_guard rfl rfl rfl ?_
                                    refine wl_pickT rfl h30 rfl rfl ?_
                                    refine wl_pickT rfl rfl rfl rfl ?_
                                    refine wl_assign rfl rfl ?_
                                    refine wl_nil ?_
                                    refine qs_seq ?_
                                    refine wc_sub (L' := [(12, _)]) (.cons rfl .nil) ?_
                                    refine wc_ret ?_
                                    refine fin1 (.inr rfl) rfl rfl ?_
                                    exact ⟨_, rfl, (by refine congrArg Value.bool ?_; by_cases q : sg = 0 <;> simp_all <;> omega), hS26.pick [5] rfl⟩
                                  · skip
                                    refine wl_guard rfl rfl h30 ?_
                                    refine wl_move rfl rfl ?_
                                    refine wl_guard rfl rfl h30 ?_
                                    refine wl_move rfl rfl ?_
                                    refine wl_guard rfl rfl h30 ?_
                                    refine wl_eqlS rfl rfl rfl ?_
                                    refine wl_guard rfl rfl rfl ?_
                                    refine wl_pickF rfl h30 rfl rfl ?_
                                    refine wl_pickT rfl rfl rfl rfl ?_
                                    refine wl_assign rfl rfl ?_
                                    refine wl_nil ?_
                                    refine qs_seq ?_
                                    refine wc_sub (L' := [(12, _)]) (.cons rfl .nil) ?_
                                    refine wc_ret ?_
                                    refine fin1 (.inr rfl) rfl rfl ?_
                                    exact ⟨_, rfl, (by refine congrArg Value.bool ?_; by_cases q : sg = 0 <;> simp_all <;> omega), hS26.pick [5] rfl⟩
                                · skip
                                  refine wl_guard rfl rfl (decide_eq_false h29) ?_
                                  refine wl_move rfl rfl ?_
                                  refine wl_guard rfl rfl (decide_eq_false h29) ?_
                                  refine wl_move rfl rfl ?_
                                  refine wl_guard rfl rfl (decide_eq_false h29) ?_
                                  refine wl_eqlS rfl rfl rfl ?_
                                  refine wl_guard rfl rfl (decide_eq_false h29) ?_
                                  refine wl_move rfl rfl ?_
                                  refine wl_splitD 157 rfl (fun h31 => ?_) (fun h31 => ?_)
                                  · skip
                                    refine wl_guard rfl rfl (decide_eq_true h31) ?_
                                    refine wl_move rfl rfl ?_
                                    refine wl_guard rfl rfl (decide_eq_false h29) ?_
                                    refine wl_pickT rfl (decide_eq_true h31) rfl rfl ?_
                                    refine wl_guard rfl rfl h28 ?_
                                    refine wl_pickF rfl (decide_eq_false h29) rfl rfl ?_
                                    refine wl_pickT rfl h28 rfl rfl ?_
                                    refine wl_move rfl rfl ?_
                                    refine wl_split 162 rfl (fun h32 => ?_) (fun h32 => ?_)
                                    · skip
                                      refine wl_guard rfl rfl h32 ?_
                                      refine wl_move rfl rfl ?_
                                      refine wl_guard rfl rfl h32 ?_
                                      refine wl_not rfl rfl ?_
                                      refine wl_guard rfl rfl h32 ?_
                                      refine wl_move rfl rfl ?_
                                      refine wl_split 165 rfl (fun h33 => ?_) (fun h33 => ?_)
                                      · skip
                                        refine wl_unwanted rfl rfl h33 rfl ?_
                                        refine wl_unwanted rfl rfl h33 rfl ?_
                                        refine wl_unwanted rfl rfl h33 rfl ?_
                                        refine wl_guard rfl rfl h32 ?_
                                        refine wl_pickT rfl h33 rfl rfl ?_
                                        refine wl_pickT rfl h32 rfl rfl ?_
                                        refine wl_assign rfl rfl ?_
                                        refine wl_nil ?_
                                        refine qs_seq ?_
                                        refine wc_sub (L' := [(12, _)]) (.cons rfl .nil) ?_
                                        refine wc_ret ?_
                                        refine fin1 (.inr rfl) rfl rfl ?_
                                        exact ⟨_, rfl, (by refine congrArg Value.bool ?_; by_cases q : sg = 0 <;> simp_all <;> omega), hS26.pick [5] rfl⟩
                                      · skip
                                        refine wl_guard rfl rfl h33 ?_
                                        refine wl_move rfl rfl ?_
                                        refine wl_guard rfl rfl h33 ?_
                                        refine wl_move rfl rfl ?_
                                        refine wl_guard rfl rfl h33 ?_
                                        refine wl_eqlS rfl rfl rfl ?_
                                        refine wl_guard rfl rfl h32 ?_
                                        refine wl_pickF rfl h33 rfl rfl ?_
                                        refine wl_pickT rfl h32 rfl rfl ?_
                                        refine wl_assign rfl rfl ?_
                                        refine wl_nil ?_
                                        refine qs_seq ?_
                                        refine wc_sub (L' := [(12, _)]) (.cons rfl .nil) ?_
                                        refine wc_ret ?_
                                        refine fin1 (.inr rfl) rfl rfl ?_
                                        exact ⟨_, rfl, (by refine congrArg Value.bool ?_; by_cases q : sg = 0 <;> simp_all <;> omega), hS26.pick [5] rfl⟩
                                    · skip
                                      refine wl_unwanted rfl rfl h32 rfl ?_
                                      refine wl_unwanted rfl rfl h32 rfl ?_
                                      refine wl_unwanted rfl rfl h32 rfl ?_
                                      refine wl_unguarded rfl rfl rfl ?_
                                      refine wl_unguarded rfl rfl rfl ?_
                                      refine wl_unguarded rfl rfl rfl ?_
                                      refine wl_unwanted rfl rfl h32 rfl ?_
                                      refine wl_pickF rfl h32 rfl rfl ?_
                                      refine wl_assign rfl rfl ?_
                                      refine wl_nil ?_
                                      refine qs_seq ?_
                                      refine wc_sub (L' := [(12, _)]) (.cons rfl .nil) ?_
                                      refine wc_ret ?_
                                      refine fin1 (.inr rfl) rfl rfl ?_
                                      exact ⟨_, rfl, (by refine congrArg Value.bool ?_; by_cases q : sg = 0 <;> simp_all <;> omega), hS26.pick [5] rfl⟩
                                  · skip
                                    refine wl_unwanted rfl rfl (decide_eq_false h31) rfl ?_
                                    refine wl_guard rfl rfl (decide_eq_false h29) ?_
                                    refine wl_pickF rfl (decide_eq_false h31) rfl rfl ?_
                                    refine wl_guard rfl rfl h28 ?_
                                    refine wl_pickF rfl (decide_eq_false h29) rfl rfl ?_
                                    refine wl_pickT rfl h28 rfl rfl ?_
                                    refine wl_move rfl rfl ?_
                                    refine wl_unwanted rfl rfl rfl rfl ?_
                                    refine wl_unwanted rfl rfl rfl rfl ?_
                                    refine wl_unwanted rfl rfl rfl rfl ?_
                                    refine wl_unguarded rfl rfl rfl ?_
                                    refine wl_unguarded rfl rfl rfl ?_
                                    refine wl_unguarded rfl rfl rfl ?_
                                    refine wl_unwanted rfl rfl rfl rfl ?_
                                    refine wl_pickF rfl rfl rfl rfl ?_
                                    refine wl_assign rfl rfl ?_
                                    refine wl_nil ?_
                                    refine qs_seq ?_
                                    refine wc_sub (L' := [(12, _)]) (.cons rfl .nil) ?_
                                    refine wc_ret ?_
                                    refine fin1 (.inr rfl) rfl rfl ?_
                                    exact ⟨_, rfl, (by refine congrArg Value.bool ?_; by_cases q : sg = 0 <;> simp_all <;> omega), hS26.pick [5] rfl⟩
                              · skip
                                exact absurd h28 (by simp; omega)
                            · skip
                              exact absurd rfl h27

theorem apart_row {W : World} (hG : Glob 0 W) {s t : ByteArray} {f g n : Int} {v5 : Value} {l5 : List Int} (_h0 : s.size ≤ 9223372036854775807) (_h1 : t.size ≤ 9223372036854775807) (hn : (Lit.int .i64 n).wf = true) (h5 : SliceRd intC.rd intC.size W v5 l5) :
    Calls Tryd.prog 5 #[.string s, .string t, .int .i64 f, .int .i64 g, .int .i64 n, v5] W fun e W' => e = .returned (.bool true) ∧ Below W.heap.size W W' := by
  rw [strV_of, strV_of]
  have hn' : n ≤ 9223372036854775807 := by
    simp [Lit.wf, IntKind.min, IntKind.max, IntKind.signed, IntKind.bits] at hn; omega
  exact (apart_law (Sat.start W) hG.frame s.data.toList t.data.toList f g n hn' (Ent.frame (rdI_of h5))).mono fun e W' ⟨v, h4, h5, h6⟩ => ⟨by rw [h4, h5], below_of h6⟩
end Go.Proofs.YtleaahajkncnpaaDoor
