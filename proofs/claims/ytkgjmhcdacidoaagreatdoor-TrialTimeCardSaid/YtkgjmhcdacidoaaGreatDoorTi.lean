/- laws of trials: how the arguments read -/
import Derived.Test.YtkgjmhcdacidoaaGreatDoorTr14
import Derived.Test.YtkgjmhcdacidoaaGreatDoorLv1
set_option linter.unusedVariables false
namespace Go.Proofs.YtkgjmhcdacidoaaGreatDoor
open Go.RowKit M Proofs.Tryz
theorem ent_gt {W:World} (h:GT W):Ent (GU W) GT:=Ent.frame fun w hb j hj=>(hb.cell (block_lt_of_cell (h j hj))).trans (h j hj)
theorem Sa {W w:World} (h:Sat w [GU W]):Below W.heap.size W w:=h.below 0 U
def qintC:Cod prog 3 Int:=Cod.int .i64 underlying3 (by kernel_rfl)
theorem ints_of {W:World} {v:Value} {l:List Int} (h:Gm qintC.rd qintC.size W v l): ∀w,Below W.heap.size W w→RdL inC v l w:= by
  obtain⟨ao,cap,h1,h2,h3,h4⟩:=h
  refine fun w hb=>⟨ao,cap,h1, by omega, fun i a hi=> ?_⟩
  obtain⟨b,off,cs,e1,e2,e3,e4⟩:=h4 i a hi
  obtain⟨rfl,_⟩:=e4
  refine⟨b,off,e1, fun j u hu=> ?_⟩
  refine(hb.cell (p:=⟨b,off+i*1+j,none⟩) e2).trans (e3 j u ?_)
  simpa [inC]using hu
theorem ST {W:World} {a b c:Int} {v1:Value} {l1:List Int} (hG:GT W) (h1:Gm qintC.rd qintC.size W v1 l1):
    Calls prog 3 #[.int .i64 a,.int .i64 b,v1,.int .i64 c] W fun e W'=>e= .returned (.bool true)∧Below W.heap.size W W':=
  (SU (Sat.start W) (ent_gt hG) a b c (Ent.frame (ints_of h1))).mono fun e W' ⟨v,h5,h6,h7⟩=>⟨by rw[h5,h6],Sa h7⟩
