/- Walks of functions of the program: what each computes. Conditions: those that each contract names. -/
import Derived.Test.YtoccddagjnebbaaGreatW8T
import Derived.Test.YtoccddagjnebbaaGreatW8s0
import Derived.Test.YtoccddagjnebbaaGreatW8s1
import Derived.Test.YtoccddagjnebbaaGreatW8s2
namespace Fw
open Go Go.Proofs
set_option linter.unusedSimpArgs false
set_option maxRecDepth 100000
noncomputable def F13 : Fun := ⟨[.pair Y34 Y55, .pair Y66 Y37, .slice (.slice (.int .i64)), .int .i64, .pair (.int .i64) Y48], [.pure Y24], fun x => (fun (_ : Frame) (e : Evidence) (_ : List (List Int)) (_ : Int) (_ : Sig) => Sm big20 Y71 e ∧ ((cellsC Y66 e.1 : Nat) : Int) ≤ 2000000000) x.1 x.2.1 x.2.2.1 x.2.2.2.1 x.2.2.2.2.1, fun x => (judgeF x.1 x.2.1 x.2.2.1 x.2.2.2.1 x.2.2.2.2.1, ())⟩
set_option maxHeartbeats 2000000 in
theorem F13_ok : Meets Tryz.prog 13 F13 := by
 refine mV (C := mkC 120 [10] [0,1,2,3,4,5,6,9,10,11,12,13,14,15,16,17,18,19,26,58,72,81,89,96,104] [⟨50, _, F50_ok⟩, ⟨52, _, F52_ok⟩, ⟨51, _, F51_ok⟩, ⟨53, _, F53_ok⟩, ⟨54, _, F54_ok⟩, ⟨55, _, F55_ok⟩, ⟨56, _, F56_ok⟩, ⟨57, _, F57_ok⟩, ⟨58, _, F58_ok⟩, ⟨59, _, F59_ok⟩, ⟨60, _, F60_ok⟩, ⟨61, _, F61_ok⟩, ⟨63, _, F63_ok⟩, ⟨62, _, F62_ok⟩]) (mkC_ok _ _ _ _) (fnOf_ok _) Tryz.func13 rfl rfl rfl (by decide) rfl ?_
 rintro ⟨a0, a1, a2, (a3 : Int), a4, _⟩ hwf hpre ⟨P, C, B, X, w0, M0, pv⟩ hG rfl rfl
 show Vc _ _ [(0, ⟨0, 0, .c Z67 a0⟩), (1, ⟨0, 0, .c Z72 a1⟩), (2, ⟨0, 0, .c Z7 a2⟩), (3, ⟨0, 0, .c (.pure (.int .i64)) a3⟩), (4, ⟨0, 0, .c Z52 a4⟩)] _
 have hS : Sm big20 Y66 a1.1 := hpre.1.1
 have hT : Sm big20 (.slice (.slice TStamp)) a1.2 := hpre.1.2
 have hc : ((cellsC Y66 a1.1 : Nat) : Int) ≤ 2000000000 := hpre.2
 refine Vq (Vr hG rfl (by trivial) (Vq (Vr hG rfl (by trivial) ?_)))
 refine Vq (Vq (Vr hG rfl (by trivial) ?_))
 refine Vk rfl (fun h0 => ?_) (fun h0 => ?_)
 · refine Vq (Vr hG rfl (by trivial) (Vt ?_))
   refine ⟨?_, trivial⟩
   exact juA h0
 · have k0 := foKey (bneI h0)
   refine Vs (Vq ?_)
   refine VrD mixed hG rfl (by kernel_rfl) ?_ ?_
   · exact ⟨trivial, hS⟩
   refine Vq ?_
   refine VrD mixed hG rfl (by kernel_rfl) ?_ ?_
   · exact ⟨trivial, findRange k0⟩
   refine Vq (Vq ?_)
   refine Vr hG rfl ?_ ?_
   · repeat' (first | exact trivial | refine And.intro ?_ ?_ | intro _)
   refine Vk rfl (fun h1 => ?_) (fun h1 => ?_)
   · have g1 : pick2 (decide (evBoundF a0 a1 a2 (signPieceF a4) ≥ brkKeyF a0 a4.1)) true (decide (evBoundF a0 a1 a2 (signPieceF a4) ≥ breakF a0.2.2.1 a4.2.2.1)) = true := by rw [← bk1 k0]; exact h1
     refine Vq (Vr hG rfl (by trivial) (Vt ?_))
     refine ⟨?_, trivial⟩
     exact (boA g1).trans (juC h0)
   · have g1 : pick2 (decide (evBoundF a0 a1 a2 (signPieceF a4) ≥ brkKeyF a0 a4.1)) true (decide (evBoundF a0 a1 a2 (signPieceF a4) ≥ breakF a0.2.2.1 a4.2.2.1)) = false := by rw [← bk1 k0]; exact h1
     refine Vs (Vq ?_)
     refine Vr hG rfl ?_ ?_
     · exact ⟨hS, hc⟩
     refine Vq (Vr hG rfl (by trivial) (Vq (Vq ?_)))
     refine Vr hG rfl (by trivial) ?_
     refine Vk rfl (fun h2 => ?_) (fun h2 => ?_)
     · refine Vq (Vr hG rfl (by trivial) (Vt ?_))
       refine ⟨?_, trivial⟩
       exact ((ceA h2).trans (boB g1)).trans (juC h0)
     · refine Vs (Vq ?_)
       refine Vr hG rfl ?_ ?_
       · exact hT
       refine Vq (Vq (Vr hG rfl (by trivial) ?_))
       refine Vk rfl (fun h3 => ?_) (fun h3 => ?_)
       · refine Vq (Vr hG rfl (by trivial) (Vt ?_))
         refine ⟨?_, trivial⟩
         exact ((ceB h2 h3).trans (boB g1)).trans (juC h0)
       · refine Vs (Vq (Vr hG rfl (by trivial) (Vq ?_)))
         refine Vr hG rfl ?_ ?_
         · exact usPieceLen hc
         refine Vq (Vb (Vq (Vr hG rfl (by trivial) ?_)))
         refine Vk rfl (fun h4 => ?_) (fun h4 => ?_)
         · refine Vq (Vr hG rfl (by trivial) (Vt ?_))
           refine ⟨?_, trivial⟩
           exact (((enA h4).trans (ceC h2 h3)).trans (boB g1)).trans (juC h0)
         · refine Vq (Vr hG rfl (by trivial) ?_)
           refine Vk rfl (fun h5 => ?_) (fun h5 => ?_)
           · refine Vq (Vr hG rfl (by trivial) (Vt ?_))
             refine ⟨?_, trivial⟩
             exact (((enB h4 h5).trans (ceC h2 h3)).trans (boB g1)).trans (juC h0)
           · refine Vq ?_
             refine VrD mixed hG rfl (by kernel_rfl) ?_ ?_
             · exact ⟨usPieceLen hc, mandW (usPieceLen hc)⟩
             refine Vk rfl (fun h6 => ?_) (fun h6 => ?_)
             · refine Vq (Vr hG rfl (by trivial) (Vt ?_))
               refine ⟨?_, trivial⟩
               exact (((enC h4 h5 h6).trans (ceC h2 h3)).trans (boB g1)).trans (juC h0)
             · refine Vs (Vq (Vr hG rfl (by trivial) (Vt ?_)))
               refine ⟨?_, trivial⟩
               exact (((enD h4 h5 h6).trans (ceC h2 h3)).trans (boB g1)).trans (juC h0)
noncomputable def F24 : Fun := ⟨[.pair Y34 Y55, .pair Y66 Y37, .pair (.int .i64) Y13, .pair (.int .i64) Y48], [.pure Y24], fun x => (fun (_ : Frame) (e : Evidence) (_ : Doc) (_ : Sig) => Sm big20 Y71 e ∧ ((cellsC Y66 e.1 : Nat) : Int) ≤ 2000000000) x.1 x.2.1 x.2.2.1 x.2.2.2.1, fun x => (judgeDocF x.1 x.2.1 x.2.2.1 x.2.2.2.1, ())⟩
theorem F24_ok : Meets Tryz.prog 24 F24 := by
 refine mV (C := mkC 20 [8] [0,1,2,3,4,5,6,7,8] [⟨96, _, F96_ok⟩, ⟨97, _, F97_ok⟩, ⟨13, _, F13_ok⟩]) (mkC_ok _ _ _ _) (fnOf_ok _) Tryz.func24 rfl rfl rfl (by decide) rfl ?_
 rintro ⟨a0, a1, a2, a3, _⟩ hwf hpre ⟨P, C, B, X, w0, M0, pv⟩ hG rfl rfl
 show Vc _ _ [(0, ⟨0, 0, .c Z67 a0⟩), (1, ⟨0, 0, .c Z72 a1⟩), (2, ⟨0, 0, .c Z25 a2⟩), (3, ⟨0, 0, .c Z52 a3⟩)] _
 have hS : Sm big20 Y66 a1.1 := hpre.1.1
 have hT : Sm big20 (.slice (.slice TStamp)) a1.2 := hpre.1.2
 have hc : ((cellsC Y66 a1.1 : Nat) : Int) ≤ 2000000000 := hpre.2
 refine Vq (Vr hG rfl (by trivial) (Vq ?_))
 refine VrD mixed hG rfl (by kernel_rfl) ?_ ?_
 · exact ⟨hS, trivial, hpre⟩
 refine Vt ?_
 refine ⟨?_, trivial⟩
 all_goals exact rfl
noncomputable def F38 : Fun := ⟨[.pair Y34 Y55, .pair Y66 Y37, .pair Y66 Y37, .pair (.int .i64) Y13, .pair (.int .i64) Y48], [.pure Y24], fun x => (fun (_ : Frame) (a b : Evidence) (_ : Doc) (_ : Sig) => Sm big20 Y71 a ∧ Sm big20 Y71 b ∧ Sm big20 Y71 (joinEvF a b) ∧ ((cellsC Y66 (joinEvF a b).1 : Nat) : Int) ≤ 2000000000) x.1 x.2.1 x.2.2.1 x.2.2.2.1 x.2.2.2.2.1, fun x => (judgeBothF x.1 x.2.1 x.2.2.1 x.2.2.2.1 x.2.2.2.2.1, ())⟩
theorem F38_ok : Meets Tryz.prog 38 F38 := by
 refine mV (C := mkC 18 [10] [0,1,2,3,4,5,6,7,8,9,10] [⟨115, _, F115_ok⟩, ⟨24, _, F24_ok⟩]) (mkC_ok _ _ _ _) (fnOf_ok _) Tryz.func38 rfl rfl rfl (by decide) rfl ?_
 rintro ⟨a0, a1, a2, a3, a4, _⟩ hwf hpre ⟨P, C, B, X, w0, M0, pv⟩ hG rfl rfl
 show Vc _ _ [(0, ⟨0, 0, .c Z67 a0⟩), (1, ⟨0, 0, .c Z72 a1⟩), (2, ⟨0, 0, .c Z72 a2⟩), (3, ⟨0, 0, .c Z25 a3⟩), (4, ⟨0, 0, .c Z52 a4⟩)] _
 have hp := hpre
 refine Vq (Vr hG rfl (by trivial) (Vq ?_))
 refine VrD mixed hG rfl (by kernel_rfl) ?_ ?_
 · exact ⟨⟨hp.1, hp.2.1⟩, hp.2.2⟩
 refine Vt ?_
 refine ⟨?_, trivial⟩
 all_goals exact rfl
noncomputable def F40 : Fun := ⟨[.pair Y34 Y55, .pair Y66 Y37, .pair Y66 Y37, .pair (.int .i64) Y13, .pair (.int .i64) Y48], [.pure (.int .i64)], fun x => (fun (_ : Frame) (a b : Evidence) (_ : Doc) (_ : Sig) => ((cellsC Y66 a.1 : Nat) : Int) ≤ 2000000000 ∧ ((cellsC Y66 b.1 : Nat) : Int) ≤ 2000000000 ∧ Sm big20 Y71 a ∧ Sm big20 Y71 b ∧ Sm big20 Y71 (joinEvF a b) ∧ ((cellsC Y66 (joinEvF a b).1 : Nat) : Int) ≤ 2000000000) x.1 x.2.1 x.2.2.1 x.2.2.2.1 x.2.2.2.2.1, fun x => (enoughF x.1 x.2.1 x.2.2.1 x.2.2.2.1 x.2.2.2.2.1, ())⟩
theorem F40_ok : Meets Tryz.prog 40 F40 := by
 refine mV (C := mkC 45 [10] [0,1,2,3,4,5,6,7,8,9,10,11,12,21,30,41] [⟨38, _, F38_ok⟩, ⟨24, _, F24_ok⟩]) (mkC_ok _ _ _ _) (fnOf_ok _) Tryz.func40 rfl rfl rfl (by decide) rfl ?_
 rintro ⟨a0, a1, a2, a3, a4, _⟩ hwf hpre ⟨P, C, B, X, w0, M0, pv⟩ hG rfl rfl
 show Vc _ _ [(0, ⟨0, 0, .c Z67 a0⟩), (1, ⟨0, 0, .c Z72 a1⟩), (2, ⟨0, 0, .c Z72 a2⟩), (3, ⟨0, 0, .c Z25 a3⟩), (4, ⟨0, 0, .c Z52 a4⟩)] _
 have hp := hpre
 refine Vq (Vr hG rfl (by trivial) (Vq ?_))
 refine Vr hG rfl ?_ ?_
 · exact hp.2.2
 refine Vq (Vq (Vr hG rfl (by trivial) ?_))
 refine Vk rfl (fun h0 => ?_) (fun h0 => ?_)
 · refine Vq (Vr hG rfl (by trivial) (Vt ?_))
   refine ⟨?_, trivial⟩
   exact eno0 h0
 · refine Vs (Vq (Vr hG rfl (by trivial) (Vq ?_)))
   refine Vq ?_
   refine VrD mixed hG rfl (by kernel_rfl) ?_ ?_
   · exact ⟨hp.2.2.1, hp.1⟩
   refine Vk rfl (fun h1 => ?_) (fun h1 => ?_)
   · refine Vr hG rfl (by trivial) (Vq (Vq ?_))
     refine VrD mixed hG rfl (by kernel_rfl) ?_ ?_
     · exact ⟨hp.2.2.2.1, hp.2.1⟩
     refine Vk rfl (fun h2 => ?_) (fun h2 => ?_)
     · refine Vr hG rfl (by trivial) (Vq (Vr hG rfl (by trivial) (Vt ?_)))
       refine ⟨?_, trivial⟩
       exact enoYY h0 h1 h2
     · refine Vs (Vq (Vr hG rfl (by trivial) (Vt ?_)))
       refine ⟨?_, trivial⟩
       exact enoYN h0 h1 h2
   · refine Vs (Vq (Vq ?_))
     refine VrD mixed hG rfl (by kernel_rfl) ?_ ?_
     · exact ⟨hp.2.2.2.1, hp.2.1⟩
     refine Vk rfl (fun h3 => ?_) (fun h3 => ?_)
     · refine Vr hG rfl (by trivial) (Vq (Vr hG rfl (by trivial) (Vt ?_)))
       refine ⟨?_, trivial⟩
       exact enoNY h0 h1 h3
     · refine Vs (Vq (Vr hG rfl (by trivial) (Vt ?_)))
       refine ⟨?_, trivial⟩
       exact enoNN h0 h1 h3
end Fw
