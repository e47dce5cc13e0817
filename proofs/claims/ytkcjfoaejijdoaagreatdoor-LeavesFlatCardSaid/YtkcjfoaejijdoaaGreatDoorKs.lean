/-
  DERIVED:THE SHELF's CONTRACTS AT THIS DUMP,IN PLAIN WORDS (tools/lay-plain.mjs out of 'TryzKs.lean',which tools/lay-shelf.mjs wrote):THE SAME DECLARATIONS UNDER THE SAME NAMES: 'import', 'namespace', 'open', 'def', 'theorem' AND NOTHING ELSE:no command of the shelf's:FOR A HAND-IN. Each laying:the table of numbers ('.._ren') and one theorem,a field a fact of the dump's own or the kernel's comparison;each contract:ONE APPLICATION.
-/
import Derived.Shelf.SlLaysF0
import Derived.Ground.SlsfProg
import Derived.Test.YtkcjfoaejijdoaaGreatDoorProg
import Derived.Test.YtkcjfoaejijdoaaGreatDoorWa
import Derived.Test.YtkcjfoaejijdoaaGreatDoorDl
import Derived.Test.YtkcjfoaejijdoaaGreatDoorLv14
set_option linter.unusedVariables false
set_option maxRecDepth 100000
set_option maxHeartbeats 80000000000
namespace Go.Proofs
open Go.Shelf
def Tryz.sortKeys_ren:Go.Shelf.Ren:=⟨fun | 6=>162 | 15=>168 | 14=>190 | 28=>201 | 29=>202 | 20=>224 | 21=>225 | 22=>226 | 23=>227 | 24=>228 | 25=>229 | 26=>230 | 27=>231 | 46=>245 | 47=>233 | 48=>234 | 49=>246 | 50=>247 | 57=>255 | n=>n, fun | 22=>98 | 24=>76 | 25=>178 | 3=>3 | 39=>31 | 0=>0 | 53=>252 | 55=>22 | 4=>4 | 46=>245 | 45=>244 | 50=>63 | 5=>5 | 9=>9 | 66=>274 | 70=>132 | 76=>285 | 77=>286 | n=>n, fun | n=>n⟩
theorem Tryz.sortKeys:Go.Proofs.SlLaysF0.n6 Tryz.prog Tryz.sortKeys_ren:={
  mixed:= by kernel_rfl
  f6:=⟨Tryz.f162.name, by decide,Tryz.func162.trans (congrArg some (by kernel_rfl))⟩
  f14:=⟨Tryz.f190.name, by decide,Tryz.func190.trans (congrArg some (by kernel_rfl))⟩
  f15:=Tryz.func168.trans (congrArg some (by kernel_rfl))
  f20:=⟨Tryz.f224.name, by decide,Tryz.func224.trans (congrArg some (by kernel_rfl))⟩
  f21:=⟨Tryz.f225.name, by decide,Tryz.func225.trans (congrArg some (by kernel_rfl))⟩
  f22:=⟨Tryz.f226.name, by decide,Tryz.func226.trans (congrArg some (by kernel_rfl))⟩
  f23:=⟨Tryz.f227.name, by decide,Tryz.func227.trans (congrArg some (by kernel_rfl))⟩
  f24:=⟨Tryz.f228.name, by decide,Tryz.func228.trans (congrArg some (by kernel_rfl))⟩
  f25:=⟨Tryz.f229.name, by decide,Tryz.func229.trans (congrArg some (by kernel_rfl))⟩
  f26:=⟨Tryz.f230.name, by decide,Tryz.func230.trans (congrArg some (by kernel_rfl))⟩
  f27:=⟨Tryz.f231.name, by decide,Tryz.func231.trans (congrArg some (by kernel_rfl))⟩
  f28:=Tryz.func201.trans (congrArg some (by kernel_rfl))
  f29:=Tryz.func202.trans (congrArg some (by kernel_rfl))
  f46:=⟨Tryz.f245.name, by decide,Tryz.func245.trans (congrArg some (by kernel_rfl))⟩
  f47:=Tryz.func233.trans (congrArg some (by kernel_rfl))
  f48:=Tryz.func234.trans (congrArg some (by kernel_rfl))
  f49:=⟨Tryz.f246.name, by decide,Tryz.func246.trans (congrArg some (by kernel_rfl))⟩
  f50:=⟨Tryz.f247.name, by decide,Tryz.func247.trans (congrArg some (by kernel_rfl))⟩
  f57:=⟨Tryz.f255.name, by decide,Tryz.func255.trans (congrArg some (by kernel_rfl))⟩
  t0:=Tryz.underlying0
  a0:=Tryz.isAgg0
  z0:=Tryz.sizeOf0
  v0:=Tryz.zeroValue0
  t3:=Tryz.underlying3
  a3:=Tryz.isAgg3
  z3:=Tryz.sizeOf3
  v3:=Tryz.zeroValue3
  t4:=Tryz.underlying4
  a4:=Tryz.isAgg4
  z4:=Tryz.sizeOf4
  v4:=Tryz.zeroValue4
  t5:=Tryz.underlying5
  a5:=Tryz.isAgg5
  z5:=Tryz.sizeOf5
  v5:=Tryz.zeroValue5
  t9:=Tryz.underlying9
  a9:=Tryz.isAgg9
  z9:=Tryz.sizeOf9
  v9:=Tryz.zeroValue9
  t22:=Tryz.underlying98
  a22:=Tryz.isAgg98
  z22:=Tryz.sizeOf98
  v22:=Tryz.zeroValue98
  t25:=Tryz.underlying178
  a25:=Tryz.isAgg178
  z25:=Tryz.sizeOf178
  v25:=Tryz.zeroValue178
  t39:=Tryz.underlying31
  a39:=Tryz.isAgg31
  z39:=Tryz.sizeOf31
  v39:=Tryz.zeroValue31
  t45:=Tryz.underlying244
  a45:=Tryz.isAgg244
  z45:=Tryz.sizeOf244
  v45:=Tryz.zeroValue244
  t46:=Tryz.underlying245
  a46:=Tryz.isAgg245
  z46:=Tryz.sizeOf245
  v46:=Tryz.zeroValue245
  t50:=Tryz.underlying63
  a50:=Tryz.isAgg63
  z50:=Tryz.sizeOf63
  v50:=Tryz.zeroValue63
  t53:=Tryz.underlying252
  a53:=Tryz.isAgg252
  z53:=Tryz.sizeOf252
  v53:=Tryz.zeroValue252
  t55:=Tryz.underlying22
  a55:=Tryz.isAgg22
  z55:=Tryz.sizeOf22
  v55:=Tryz.zeroValue22
  t66:=Tryz.underlying274
  a66:=Tryz.isAgg274
  z66:=Tryz.sizeOf274
  v66:=Tryz.zeroValue274
  t70:=Tryz.underlying132
  a70:=Tryz.isAgg132
  z70:=Tryz.sizeOf132
  v70:=Tryz.zeroValue132
  t76:=Tryz.underlying285
  a76:=Tryz.isAgg285
  z76:=Tryz.sizeOf285
  v76:=Tryz.zeroValue285
  t77:=Tryz.underlying286
  a77:=Tryz.isAgg286
  z77:=Tryz.sizeOf286
  v77:=Tryz.zeroValue286}
end Go.Proofs
namespace Go.Proofs.YtkcjfoaejijdoaaGreatDoor
open Go.RowKit M
def ItI (g:Int→Option Value) (gf:Nat) (caps:List Value) (It:Th):Prop:= ∀(l:Nat) (J:List Int→Th) (X:Th) (w:World),Sat w [J [],It,X]→Ua Tryz.prog l Xf (okC g) J→Calls Tryz.prog gf (.func (.yield l) #[] #[]::caps).toArray w (Ret fun _ w'=> ∃ks,AllC g ks∧Sat w' [J ks,It,X])
def JI (l D b:Nat) (rec:Loop) (ks:List Int):Th:=CG fun v:Value=>starL [Js l rec,Ws D,QF b [v],rowT inC v ks]
theorem appI {w:World} {g:Int→Option Value} {It F:Th} {gf:Nat} {caps:List Value} (hS:Sat w [It,F]) (hcal:QH Tryz.prog gf=true) (hIt:ItI g gf caps It) (hlen: ∀ks,Came g ks→ks.length≤100000000000):
    Calls Tryz.prog 173 [.slice none 0 0,.func (.func gf) #[] caps.toArray].toArray w (Ret fun v w'=> ∃ks,AllC g ks∧Sat w' [rowT inC v ks,It,F]):= by
 refine Hl Tryz.func173 rfl Tryz.ntmps173 rfl ?_
 refine Qd (Qa (XU hS rfl rfl rfl ?_))
 intro b1 w1 hS1
 refine Qe rfl rfl (Qf (Qc (Qd (Qd (Qa (Qb rfl rfl (Qf (Qc (Qw (Hg (caps:=caps) rfl hcal ?_))))))))))
 intro rec hr1 hr2 hr3 hr4 hr5 htn htf
 have hE:=((hS1.enter_loop rec).row_nil inC)
 have hE2:=hE.sp [1,2,3,0] rfl
 have hJ0:=Sat.ex_intro (f:= fun v:Value=>starL [Js _ _,Ws _,QF _ [v],rowT inC v []]) _ (Sat.fold (As:=[Js _ _,Ws _,QF _ [_],rowT inC _ []]) hE2)
 refine(hIt _ (JI _ _ _ _) _ _ (hJ0.join rfl) ?_).mono ?_
 ·intro ks k R w2 hok hw2
  obtain⟨v,hw3⟩:=hw2.ex
  have hw4:=hw3.flat; dsimp only[Ds,Dr]at hw4
  have hl1:=hlen _ hok
  simp only[List.length_append,List.length_cons,List.length_nil]at hl1
  refine Dv (hw4.loop 0 rfl) hr1 hr2 hr3 hr4 hr5 htn htf rfl (by intro o ho c; simp at ho; subst ho; simp) (by intro o ho c; simp at ho; rcases ho with rfl | rfl | rfl | rfl | rfl<;> simp) ?_
  intro QA hA
  refine Qe rfl rfl (Qf (hA _ _ (hw4.loop 0 rfl) ?_))
  intro QB hB
  have h1v:v.oneCell'=true:=hw4.own_one 3 rfl
  have hw5:=hw4.loop_put 0 rfl (rec':={rec with state:= .busy}); dsimp only[List.set]at hw5
  refine Qo rfl YX (hw5.cell 2 rfl rfl) rfl (Qb rfl rfl (Z4 inC [k] hw5 rfl Tryz.underlying47 Vi rfl rfl rfl rfl (by rfl) rfl ?_))
  intro b3 w3 hw6
  refine W3 inC 4 hw6 rfl rfl rfl (hw6.rd 0 rfl (by simp)) Tryz.underlying47 Tryz.underlying47 (by intro k hk; cases hk) KE rfl (by simp;omega) rfl (by simp;omega) ?_
  intro v4 w4 hw7; dsimp only[List.set]at hw7
  have h1v4:v4.oneCell'=true:=hw7.own_one 4 rfl
  refine QL hw7 rfl rfl Rz h1v4 (i:=3) rfl (by simp) ?_
  intro w5 hw8; dsimp only[List.set]at hw8
  refine Qf (hB _ _ (hw8.loop 1 rfl) ?_)
  have hw9:=hw8.loop_put 1 rfl (rec':=rec); dsimp only[List.set]at hw9
  exact(Sat.ex_intro (f:= fun v:Value=>starL [Js _ _,Ws _,QF _ [v],rowT inC v (ks++[k])]) v4 (Sat.fold (As:=[Js _ _,Ws _,QF _ [_],rowT inC _ _]) (hw9.pick [1,2,3,4,5] rfl)))
 ·rintro e w3 ⟨v0,rfl,ks,hall,hw3⟩
  obtain⟨v,hw4⟩:=hw3.ex
  have hw5:=hw4.flat; dsimp only[Ds,Dr]at hw5
  refine⟨⟨v0,rfl⟩,rec,hw5.loop 0 rfl, by rw[hr1]; simp,hr2, ?_⟩
  intro a ha1 ha2
  have hw6:=hw5.loop_put 0 rfl (rec':={rec with state:= .exhausted}); dsimp only[List.set]at hw6
  obtain⟨hD,hw7⟩:=hw6.defer_put (o:= .deferred none) 1 rfl
  dsimp only[List.eraseIdx]at hw7
  refine DE (n:=13) (by rw[ha1]; exact htn) (by rw[ha1]; exact htf) ha2 rfl YX (hw6.cell 2 rfl rfl) hD rfl rfl rfl ?_
  exact⟨_,rfl,ks,hall,hw7.pick [2,3,4] rfl⟩
theorem Came.of_all {κ:Type} {g:κ→Option Value} {ks:List κ} (h:AllC g ks):Came g ks:=⟨h.nodup, fun k hk=>(h.mem k).1 hk⟩
theorem colI {w:World} {g:Int→Option Value} {It F:Th} {gf:Nat} {caps:List Value} (hS:Sat w [It,F]) (hcal:QH Tryz.prog gf=true) (hIt:ItI g gf caps It) (hlen: ∀ks,Came g ks→ks.length≤100000000000):
    Calls Tryz.prog 121 #[.func (.func gf) #[] caps.toArray] w (Ret fun v w'=> ∃ks,AllC g ks∧Sat w' [rowT inC v ks,It,F]):= by
 refine Qq Tryz.func121 rfl Tryz.ntmps121 rfl ?_
 refine Qd (Qa (Qe rfl rfl (Qf (Qc (Qd (Qa (Qb rfl rfl (Qv cal_173 rfl (appI (hS.sp [0] rfl) hcal hIt hlen) rfl ?_))))))))
 rintro _ w1 ⟨ks,hks,hS1⟩
 replace hS1:=hS1.jn rfl rfl
 have h1v:=hS1.own_one 0 rfl
 exact Qe rfl rfl (Qf (Qc (Qu (QQ (.inr rfl) rfl rfl (⟨_,rfl,ks,hks,hS1⟩)))))
set_option linter.unusedSectionVars false
variable [Inhabited SlW]
theorem PU (x y:KD):qam x y=cfK x y:=rfl
theorem NX (w:World):Sat w []:=⟨fun _=>False,rfl⟩
theorem sortL0 {w:World} {v:Value} {l:List KD} {F:Th} (hS:Sat w [rowT kC v l,F]) (hl:l.length<4611686018427387904):Calls Tryz.prog 162 #[v,.func (.func 111) #[] #[]] w (Ret fun u w'=>u= .tuple #[]∧Sat w' [rowT kC v (QP l),F]):=
  B5 (fun blk off cap ss w hH hb hz=>AnyQ.slices_SortFunc_total Tryz.sortKeys 2 Tryz.isAgg76 Tryz.sizeOf76 kC.enc (fun _=>rfl) (fun x v hv=> by simp [kC]at hv; rcases hv with rfl | rfl<;>rfl) cfK swoK 111 #[] blk off cap ss.toArray w (enters_of Tryz.func111 (by kernel_rfl) rfl)
    (fun m os dk _ x y=> by
      rw[Array.append_empty]
      exact(cmpL_sp (NX _).emp_intro x y).mono fun e w' h=> by
        obtain⟨v,rfl,rfl,h⟩:=h
        exact⟨by rw[PU],h⟩) hH hb (by simpa using hz) totK)
    (fun p cap w=>AnyF.slices_SortFunc_none Tryz.sortKeys p cap _ w) hS hl
theorem sortP0 {w:World} {v:Value} {l:List KD} {F:Th} (hS:Sat w [rowT kC v l,F]) (hl:l.length<4611686018427387904):Calls Tryz.prog 162 #[v,.func (.func 126) #[] #[]] w (Ret fun u w'=>u= .tuple #[]∧Sat w' [rowT kC v (QP l),F]):=
  B5 (fun blk off cap ss w hH hb hz=>AnyQ.slices_SortFunc_total Tryz.sortKeys 2 Tryz.isAgg76 Tryz.sizeOf76 kC.enc (fun _=>rfl) (fun x v hv=> by simp [kC]at hv; rcases hv with rfl | rfl<;>rfl) cfK swoK 126 #[] blk off cap ss.toArray w (enters_of Tryz.func126 (by kernel_rfl) rfl)
    (fun m os dk _ x y=> by
      rw[Array.append_empty]
      exact(cmpI_sp (NX _).emp_intro x y).mono fun e w' h=> by
        obtain⟨v,rfl,rfl,h⟩:=h
        exact⟨by rw[PU],h⟩) hH hb (by simpa using hz) totK)
    (fun p cap w=>AnyF.slices_SortFunc_none Tryz.sortKeys p cap _ w) hS hl
theorem S3 {w:World} {g:KD→Option Value} {It F:Th} {gf:Nat} {caps:List Value} (hS:Sat w [It,F]) (hcal:QH Tryz.prog gf=true) (hIt:ItK g gf caps It) (hlen: ∀ks,Came g ks→ks.length≤100000000000):
    Calls Tryz.prog 109 #[.func (.func gf) #[] caps.toArray,.func (.func 111) #[] #[]] w (Ret fun v w'=> ∃ks,AllC g ks∧Sat w' [rowT kC v (QP ks),It,F]):= by
 refine Qq Tryz.func109 rfl Tryz.ntmps109 rfl ?_
 refine Qd (Qa (Qe rfl rfl (Qf (Qc (Qd (Qa (Qb rfl rfl (Qv Lv rfl (colK (hS.sp [0] rfl) hcal hIt hlen) rfl ?_))))))))
 rintro _ w1 ⟨ks,hks,hS1⟩
 replace hS1:=hS1.jn rfl rfl
 have h1v:=hS1.own_one 0 rfl
 have hln:=hlen _ (Came.of_all hks)
 refine Qe rfl rfl (Qf (Qc (Qd (Qa (Qb rfl rfl (Qb rfl rfl (Qv Lu rfl (sortL0 (hS1.sp [0] rfl) (by omega)) rfl ?_)))))))
 rintro _ w2 ⟨rfl,hS2⟩
 replace hS2:=hS2.jn rfl rfl
 clear hS1
 exact Qf (Qc (Qd (Qa (Qb rfl rfl (Qe rfl rfl (Qf (Qc (Qu (QQ (.inr rfl) rfl rfl (⟨_,rfl,ks,hks,hS2⟩))))))))))
theorem Sz {w:World} {g:KD→Option Value} {It F:Th} {gf:Nat} {caps:List Value} (hS:Sat w [It,F]) (hcal:QH Tryz.prog gf=true) (hIt:ItK g gf caps It) (hlen: ∀ks,Came g ks→ks.length≤100000000000):
    Calls Tryz.prog 109 #[.func (.func gf) #[] caps.toArray,.func (.func 126) #[] #[]] w (Ret fun v w'=> ∃ks,AllC g ks∧Sat w' [rowT kC v (QP ks),It,F]):= by
 refine Qq Tryz.func109 rfl Tryz.ntmps109 rfl ?_
 refine Qd (Qa (Qe rfl rfl (Qf (Qc (Qd (Qa (Qb rfl rfl (Qv Lv rfl (colK (hS.sp [0] rfl) hcal hIt hlen) rfl ?_))))))))
 rintro _ w1 ⟨ks,hks,hS1⟩
 replace hS1:=hS1.jn rfl rfl
 have h1v:=hS1.own_one 0 rfl
 have hln:=hlen _ (Came.of_all hks)
 refine Qe rfl rfl (Qf (Qc (Qd (Qa (Qb rfl rfl (Qb rfl rfl (Qv Lu rfl (sortP0 (hS1.sp [0] rfl) (by omega)) rfl ?_)))))))
 rintro _ w2 ⟨rfl,hS2⟩
 replace hS2:=hS2.jn rfl rfl
 clear hS1
 exact Qf (Qc (Qd (Qa (Qb rfl rfl (Qe rfl rfl (Qf (Qc (Qu (QQ (.inr rfl) rfl rfl (⟨_,rfl,ks,hks,hS2⟩))))))))))
theorem Mr {w:World} {b:Nat} {g:KD→Option Value} {F:Th} (hS:Sat w [Q3 Xy b g,F]) (hlen: ∀ks,Came g ks→ks.length≤100000000000):
    Calls Tryz.prog 49 #[.map (some b)] w (Ret fun v w'=> ∃ks,AllC g ks∧Sat w' [rowT kC v (QP ks),Q3 Xy b g,F]):= by
 refine Qq Tryz.func49 rfl Tryz.ntmps49 rfl ?_
 refine Qd (Qa (Qe rfl rfl (Qf (Qc (Qd (Qa (Qb rfl rfl (Qv cal_110 rfl (kl_sp (hS.sp [] rfl) rfl) rfl ?_))))))))
 rintro _ w1 ⟨ck,rfl,hS1⟩
 replace hS1:=hS1.jn rfl rfl
 have hK:=Sat.fold (As:=[QF ck [.map (some b)],Q3 Xy b g]) (hS1.pick [0,1,2] rfl)
 have hC2:=hK.sp [0] rfl
 refine Qv L9 rfl (S3 hC2 cal_163 (itkl ck b g) hlen) rfl ?_
 rintro _ w2 ⟨ks,hks,hS2⟩
 replace hS2:=hS2.jn rfl rfl; clear hC2
 clear hK
 refine Qe rfl rfl (Qf (Qc (Qu (QQ (.inr rfl) rfl rfl ?_))))
 have hz:=(hS2.pick [1,0,2] rfl).flat; dsimp only[Ds,Dr]at hz
 exact⟨_,rfl,ks,hks,hz.pick [2,1,3] rfl⟩
theorem Mq {w:World} {b:Nat} {g:KD→Option Value} {F:Th} (hS:Sat w [Q3 Xy b g,F]) (hlen: ∀ks,Came g ks→ks.length≤100000000000):
    Calls Tryz.prog 71 #[.map (some b)] w (Ret fun v w'=> ∃ks,AllC g ks∧Sat w' [rowT kC v (QP ks),Q3 Xy b g,F]):= by
 refine Qq Tryz.func71 rfl Tryz.ntmps71 rfl ?_
 refine Qd (Qa (Qe rfl rfl (Qf (Qc (Qd (Qa (Qb rfl rfl (Qv cal_125 rfl (kp_sp (hS.sp [] rfl) rfl) rfl ?_))))))))
 rintro _ w1 ⟨ck,rfl,hS1⟩
 replace hS1:=hS1.jn rfl rfl
 have hK:=Sat.fold (As:=[QF ck [.map (some b)],Q3 Xy b g]) (hS1.pick [0,1,2] rfl)
 have hC2:=hK.sp [0] rfl
 refine Qv L9 rfl (Sz hC2 cal_175 (itkp ck b g) hlen) rfl ?_
 rintro _ w2 ⟨ks,hks,hS2⟩
 replace hS2:=hS2.jn rfl rfl; clear hC2
 clear hK
 refine Qe rfl rfl (Qf (Qc (Qu (QQ (.inr rfl) rfl rfl ?_))))
 have hz:=(hS2.pick [1,0,2] rfl).flat; dsimp only[Ds,Dr]at hz
 exact⟨_,rfl,ks,hks,hz.pick [2,1,3] rfl⟩
end Go.Proofs.YtkcjfoaejijdoaaGreatDoor
namespace Go.Proofs.YtkcjfoaejijdoaaGreatDoor
open Go.RowKit M
set_option linter.unusedSectionVars false
variable [Inhabited SlW]
open Classical in
noncomputable def W4 {κ α:Type} (P:κ→Prop) (z:α) (p:κ→α):κ→α:= fun j=> if P j then z else p j
theorem N5 {κ α:Type} {z:α} {p:κ→α}:W4 (fun _=>False) z p=p:= by funext j; simp [W4]
theorem Rn {κ α:Type} {P Q:κ→Prop} {z:α} {p:κ→α} (h: ∀j,P j↔Q j):W4 P z p=W4 Q z p:= by
  have :P=Q:=funext fun j=>propext (h j)
  rw[this]
def inD (l:List KD) (ob:Bs):KD→Prop:= fun j=>j∈l∧j.1=ob
theorem I1 {l:List KD} {i:Nat} {k:KD} (hk:l[i]? =some k) {ob:Bs} (h:k.1=ob) (j:KD):inD (l.take (i+1)) ob j↔(j=k∨inD (l.take i) ob j):= by
  unfold inD
  rw[List.take_add_one,hk]
  simp only[Option.toList_some,List.mem_append,List.mem_singleton]
  constructor
  · rintro⟨a | a,b⟩
    · exact .inr ⟨a,b⟩
    · exact .inl a
  · rintro(rfl | ⟨a,b⟩)
    · exact⟨.inr rfl,h⟩
    · exact⟨.inl a,b⟩
theorem I2 {l:List KD} {i:Nat} {k:KD} (hk:l[i]? =some k) {ob:Bs} (h:k.1≠ob) (j:KD):inD (l.take (i+1)) ob j↔inD (l.take i) ob j:= by
  unfold inD
  rw[List.take_add_one,hk]
  simp only[Option.toList_some,List.mem_append,List.mem_singleton]
  constructor
  · rintro⟨a | a,b⟩
    · exact⟨a,b⟩
    · subst a; exact absurd b h
  · rintro⟨a,b⟩; exact⟨.inl a,b⟩
theorem VW {κ α:Type} {P Q:κ→Prop} {z:α} {p:κ→α} {k:κ} (h: ∀j,Q j↔(j=k∨P j)):W4 Q z p=Vn (W4 P z p) k z:= by
  funext j
  by_cases e:j=k
  · subst e; rw[XG];unfold W4; rw[if_pos ((h j).2 (.inl rfl))]
  · rw[Zb e];unfold W4
    by_cases q:P j
    · rw[if_pos q,if_pos ((h j).2 (.inr q))]
    · rw[if_neg q,if_neg fun a=>((h j).1 a).elim e q]
theorem Em {p:KD→Int} {k:KD} {s:Int}:Zy p k s=Vn p k s:= by
  funext j
  by_cases e:j=k
  · subst e; rw[XG]; simp [Zy]
  · rw[Zb e]; simp [Zy,e]
noncomputable def dropP (A:LvA) (ob:Bs):LvA:={A with pres:=W4 (fun j=>j.1=ob) zer A.pres}
open Classical in
noncomputable def Zn (P:KD→Prop) (f:KD→Option LfA):KD→Option LfA:= fun j=> if P j then(f j).map fun x=>allX x zer else f j
noncomputable def U3 (A:LvA) (id:Int) (ob:Bs):LvA:= match A.tr id with | none=>A | some t=>{A with tr:=Xz A.tr id (some {t with lv:=Zn (fun j=>j.1=ob) t.lv,dr:=JD t.dr ob})}
theorem SV {f:KD→Option LfA} {ob:Bs}:Zn (inD [] ob) f=f:= by funext j; simp [Zn,inD]
theorem M9 {P Q:KD→Prop} {f:KD→Option LfA} (h: ∀j,f j≠none→(P j↔Q j)):Zn P f=Zn Q f:= by
  funext j
  unfold Zn
  cases q:f j with
  | none=> simp
  | some x=>
    have :=h j (by rw[q]; simp)
    by_cases e:P j
    · rw[if_pos e,if_pos (this.1 e)]
    · rw[if_neg e,if_neg fun a=>e (this.2 a)]
theorem Ae {P Q:KD→Prop} {f:KD→Option LfA} {k:KD} {x:LfA} (h: ∀j,Q j↔(j=k∨P j)) (hk:Zn P f k=some x):Zn Q f=Xz (Zn P f) k (some (allX x zer)):= by
  funext j
  by_cases e:j=k
  · subst e
    rw[Q1]
    unfold Zn at hk⊢
    rw[if_pos ((h j).2 (.inl rfl))]
    split at hk
    · cases q:f j with
      | none=> rw[q]at hk; cases hk
      | some y=> rw[q]at hk; simp only[Option.map_some,Option.some.injEq]at hk⊢; subst hk;rfl
    · rw[hk];rfl
  · rw[QI e]
    unfold Zn
    by_cases q:P j
    · rw[if_pos q,if_pos ((h j).2 (.inr q))]
    · rw[if_neg q,if_neg fun a=>((h j).1 a).elim e q]
theorem H7 {i:Int}: ∀{l:List KD},l.Nodup→(l.map fun k=>(i,k)).Nodup
  | [],_=>List.nodup_nil
  | a::l,h=> by
    rw[List.nodup_cons]at h
    rw[List.map_cons,List.nodup_cons]
    refine⟨fun q=> ?_,H7 h.2⟩
    obtain⟨b,hb,e⟩:=List.mem_map.1 q
    cases e
    exact h.1 hb
theorem SzLe.keysP {L:LvD} {c:Nat} (h:SzLe L c) {ks:List KD} (hc:Came (Zt L.pres) ks):ks.length≤c:= by
  obtain⟨l,a,b,d⟩:=h
  have :=W7 (H7 (i:=0) hc.nodup) (b:=l) fun x hx=> by
    obtain⟨k,hk,rfl⟩:=List.mem_map.1 hx
    exact b k fun q=>hc.has k hk (by unfold Zt; rw[if_pos q])
  simp at this;omega
theorem SzLe.keysL {L:LvD} {c:Nat} {i:Int} {t:TrD} (h:SzLe L c) (ht:L.tr i=some t) {ks:List KD} (hc:Came (Zj LfD.ad t.lv) ks):ks.length≤c:= by
  obtain⟨l,a,b,d⟩:=h
  have :=W7 (H7 (i:=i) hc.nodup) (b:=l) fun x hx=> by
    obtain⟨k,hk,rfl⟩:=List.mem_map.1 hx
    have h1:=hc.has k hk
    cases q:t.lv k with
    | none=> exact absurd (by unfold Zj; rw[q];rfl) h1
    | some x=> exact d i t k x ht q
  simp at this;omega
theorem SzLe.subP {L L':LvD} {c:Nat} (h:SzLe L c) (hp: ∀k,L'.pres k≠0→L.pres k≠0) (hT:L'.tr=L.tr):SzLe L' c:= by
  obtain⟨l,a,b,d⟩:=h
  exact⟨l,a, fun k hk=>b k (hp k hk), fun i t k x ht hx=>d i t k x (by rwa [hT]at ht) hx⟩
theorem allP {p:KD→Int} {ks:List KD} (h:AllC (Zt p) ks) (k:KD):k∈QP ks↔p k≠0:= by
  rw[(Y9 ks).mem_iff,h.mem]
  unfold Zt
  by_cases e:p k=0
  · simp [e]
  · simp [e]
theorem qbc {f:KD→Option LfD} {ks:List KD} (h:AllC (Zj LfD.ad f) ks) (k:KD):k∈QP ks↔f k≠none:= by
  rw[(Y9 ks).mem_iff,h.mem]
  unfold Zj
  cases f k<;> simp
theorem HP {ks:List KD} (h:ks.Nodup):(QP ks).Nodup:=(Y9 ks).nodup_iff.2 h
theorem F9 {L:LvD} {V:VS} {l:List KD} {ob:Bs} (h0:V 0=none) (hl: ∀k,k∈l↔L.pres k≠0):W4 (inD l ob) zer (Q8 L V).pres=W4 (fun j=>j.1=ob) zer (Q8 L V).pres:= by
  funext j
  unfold W4 inD
  by_cases e:j.1=ob
  · by_cases q:j∈l
    · rw[if_pos ⟨q,e⟩,if_pos e]
    · rw[if_neg fun a=>q a.1,if_pos e]
      have :L.pres j=0:=Classical.byContradiction fun a=>q ((hl j).2 a)
      show XT V (L.pres j)=zer
      rw[this,Wr h0]
  · rw[if_neg fun a=>e a.2,if_neg e]
theorem PL {w:World} {ex:Int→Int} {m:Nat} {b n Fr:Nat} {L:LvD} {V:VS} {F:Th} (hS:Sat w [ZY b L,Zq L.sp n Fr V,F]) {c:Nat} (hc:SzLe L c) (hn:n+2*c≤60000000000) (hI:LvX ex m L V) (hx:NN ex) (ob:Bs):
    Calls Tryz.prog 27 #[ptrV b 0,intV 0,strV ob] w (Ret fun v w'=> ∃L' V',StepX ex m L V ex m 0 0 L' V'∧Q8 L' V'=dropP (Q8 L V) ob∧OthK L L' 0 (fun _=>False)∧Sat w' [ZY b L',Zq L'.sp (n+2*c) Fr V',F]):= by
 replace hS:=XX hS
 refine Qq Tryz.func27 rfl Tryz.ntmps27 rfl ?_
 refine Qd (Qd (Qa (Qb rfl rfl (QX rfl rfl rfl (Qf (Qc (Qs rfl (fun h1=> ?_) (fun h1=> ?_))))))))
 ·refine Qd (Qd (Qa (Qb rfl rfl (Qk rfl rfl (Qg rfl UT rfl (Qo rfl B9 (hS.cell 0 rfl rfl) rfl ?_))))))
  refine Qv Fq rfl (Mq (hS.sp [1] rfl) (fun ks h=> by have :=hc.keysP h;omega)) rfl ?_
  rintro _ w2 ⟨ks,hks,hS2⟩
  replace hS2:=hS2.jn rfl rfl
  obtain⟨ar,cr,hvr,_⟩:=hS2.own_shape 0 rfl; obtain rfl:=hvr
  refine X5 Tryz.underlying98 rfl rfl (Qb rfl rfl (Qf (Qc (Qi [2,1,0,18,19,20] rfl (Qw ?_)))))
  have hz:=Xd (hS2.pick [2,1,3,4,5,0,6,7] rfl)
  have hlk:(QP ks).length≤c:= by rw[WF]; exact hc.keysP (Came.of_all hks)
  refine Xe (fun K0 E0 W0=> ∃(i:Nat) (L1:LvD) (V1:VS),K0=(QP ks).length -i∧E0=[(0,ptrV b 0),(2,strV ob),(18,.slice ar (QP ks).length cr),(19,intV ((QP ks).length:Int)),(20,intV (i:Int))]∧Sat W0 [ZY b L1,Zq L1.sp (n+i) Fr V1,rowT kC (.slice ar (QP ks).length cr) (QP ks),F]∧(i≤(QP ks).length)∧(LvX ex m L1 V1)∧(L1.sp=L.sp)∧(∀c,AliveLe V c→AliveLe V1 c)∧(Pgs V V1)∧(L1.pres=W4 (inD ((QP ks).take i) ob) 0 L.pres)∧(L1.tr=L.tr)∧(Q8 L1 V1={Q8 L V with pres:=W4 (inD ((QP ks).take i) ob) zer (Q8 L V).pres})) (L0:=[(0,_),(2,_),(18,_),(19,_),(20,_)]) ((QP ks).length) (VX rfl rfl rfl rfl rfl) ⟨0,L,V, by omega,rfl,hz.pick [0,2,1,3] rfl, by omega,hI,rfl, fun _ q=>q,.refl, by rw[Rn (Q:= fun _=>False) (by simp [inD]),N5],rfl, by rw[Rn (Q:= fun _=>False) (by simp [inD]),N5]⟩ ?_
  rintro _ _ w3 ⟨i,L1,V1,rfl,rfl,hS3,hi,hI1,hsp,hal,hpg,hp,hT,hab⟩
  refine Qd (Qa (Xb rfl rfl rfl (Qf (Qc (Qd (Qs rfl (fun h4=> ?_) (fun h4=> ?_)))))))
  ·obtain⟨k,hk⟩: ∃k,(QP ks)[i]? =some k:=⟨_,Zd (by omega)⟩
   refine Qr (Qc (Qd (Qw (Qd (Qa (Xu kC 2 i hS3 rfl rfl rfl (by first | rfl | omega) hk B2 rfl ?_))))))
   intro bx5 capx5 hvx5
   refine Wk 2 i hS3 rfl hvx5 rfl hk X9 Xh rfl rfl (Xg hS3 ZM rfl rfl ?_)
   intro kb wk6 hk6
   clear hS3
   refine QY hk6 rfl rfl Xh rfl (by rfl) (i:=0) rfl (by decide) ?_
   intro wk7 hk7; dsimp only[List.set]at hk7
   clear hk6
   replace hk7:=XM (k:=k) hk7
   refine Qf (Qc (Qd (Qa (Qg rfl Yx rfl (Qo rfl ZC (hk7.cell 0 rfl rfl) rfl (Qb rfl rfl (BH rfl rfl rfl (Qf (Qc (Qi [20,19,18,2,0,7,27] rfl (Qs rfl (fun h8=> ?_) (fun h8=> ?_))))))))))))
   ·have hob:k.1=ob:=h8
    refine Qa (Qb rfl rfl ?_)
    refine XA rfl X9 Xh (by first | exact hk7.blk 0 rfl) (by first | decide | exact Xn rfl | (simp;done) | omega) rfl rfl ?_
    have hC9:=hk7.sp [1,2] rfl
    refine Qv MH rfl (Cu hC9 (by omega) k 0) rfl ?_
    rintro _ w9 ⟨rfl,hS9⟩
    replace hS9:=hS9.jn rfl rfl; clear hC9
    clear hk7
    refine Qf (Ql (Qc (Qa (QK rfl rfl (by omega) (by omega) rfl ?_))))
    refine Qb rfl rfl (Qf ?_)
    obtain⟨hs1,hs2⟩:=Kg (s:=0) (k:=k) hI1 hx (fun q=>absurd rfl q) (Y1 V1 L1.sh (L1.pres k))
    have hI2:=hs1.inv.ext (ex':=ex) fun j hj=> by rw[Ju hj];omega
    exact Q6 (L1:=[(0,_),(2,_),(18,_),(19,_),(20,intV ((i+1:Nat):Int))]) (VX rfl rfl rfl rfl rfl) (k1:=(QP ks).length -(i+1)) (by omega) ⟨i+1,_,_, by omega,rfl,hS9.pick [0,1,3,4] rfl, by omega,hI2,hs1.sp.trans hsp, fun c q=>hs1.al c (hal c q),hpg.trans hs1.pg, by dsimp only; rw[hp,Em,VW (I1 hk hob)],hT, by rw[hs2,hab,VW (I1 hk hob),Wr hI1.zero]⟩
   have hob:k.1≠ob:=h8
   refine Qr (Ql (Qc (Qa (QK rfl rfl (by omega) (by omega) rfl ?_))))
   exact Qb rfl rfl (Qf (Q6 (L1:=[(0,_),(2,_),(18,_),(19,_),(20,intV ((i+1:Nat):Int))]) (VX rfl rfl rfl rfl rfl) (k1:=(QP ks).length -(i+1)) (by omega) ⟨i+1,L1,V1, by omega,rfl,(X1 (m:=n+(i+1)) (by omega) (hk7.pick [2,1,3,4] rfl)).reorder [1,0,2,3] rfl, by omega,hI1,hsp,hal,hpg, by rw[hp,Rn (I2 hk hob)],hT, by rw[hab,Rn (I2 hk hob)]⟩))
  refine QS (Qp (Qp (Qz (Qc (Qu (Qn (ZB (.inr rfl) rfl ?_)))))))
  have hil:i=(QP ks).length:= by omega
  rw[hil,List.take_length]at hp hab
  exact⟨_,rfl,L1,V1,⟨hI1,hsp, fun c q=>hal c q, fun c q=>q.subP (fun j hj=> by rw[hp]at hj;unfold W4 at hj;split at hj; exact absurd rfl hj; exact hj) hT,hpg⟩, by rw[hab,F9 hI.zero (allP hks)];rfl,SU (fun j hj=> by rw[hp]at hj;unfold W4 at hj;split at hj; exact absurd rfl hj; exact hj) hT,(X1 (m:=n+2*c) (by omega) (hS3.pick [1,0,3] rfl)).reorder [1,0,2] rfl⟩
 exact absurd rfl h1
end Go.Proofs.YtkcjfoaejijdoaaGreatDoor
namespace Go.Proofs.YtkcjfoaejijdoaaGreatDoor
open Go.RowKit M
set_option linter.unusedSectionVars false
variable [Inhabited SlW]
theorem YA {L:LvD} {id:Int} {t:TrD} {k:KD} {x:LfD} (ht:L.tr id=some t) (hx:t.lv k=some x):Zs L id t k x=L:= by
  unfold Zs
  rw[YP hx,YP ht]
def DrI (L L1:LvD) (V V1:VS) (id:Int) (t:TrD) (l:List KD) (ob:Bs):Prop:=
  ∃ g:KD→Option LfD,L1.tr=Xz L.tr id (some {t with lv:=g})∧L1.pres=L.pres∧(∀k,(g k=none↔t.lv k=none)∧ ∀x,g k=some x→ ∃y,t.lv k=some y∧y.ad=x.ad)∧
    Q8 L1 V1={Q8 L V with tr:=Xz (Q8 L V).tr id (some {ZD V t with lv:=Zn (inD l ob) (ZD V t).lv})}
theorem DrI.start {L:LvD} {V:VS} {id:Int} {t:TrD} {ob:Bs} (ht:L.tr id=some t):DrI L L V V id t [] ob:= by
  refine⟨t.lv,(YP ht).symm,rfl, fun k=>⟨Iff.rfl, fun x hx=>⟨x,hx,rfl⟩⟩, ?_⟩
  rw[SV]
  have :=YP (f:=(Q8 L V).tr) (k:=id) (Zv ht)
  show Q8 L V={Q8 L V with tr:=Xz (Q8 L V).tr id (some (ZD V t))}
  rw[this]
theorem DrI.F {L L1:LvD} {V V1:VS} {id:Int} {t:TrD} {l:List KD} {i:Nat} {k:KD} {ob:Bs} (h:DrI L L1 V V1 id t (l.take i) ob) (hk:l[i]? =some k) (hob:k.1≠ob):DrI L L1 V V1 id t (l.take (i+1)) ob:= by
  obtain⟨g,a,b,c,d⟩:=h
  refine⟨g,a,b,c, ?_⟩
  rw[d,M9 fun j _=>(I2 hk hob j).symm]
theorem DrI.T {L L1:LvD} {V V1 V2:VS} {id:Int} {t t1:TrD} {l:List KD} {i:Nat} {k:KD} {x y:LfD} {ob:Bs} {f:Int→Bool} (h:DrI L L1 V V1 id t (l.take i) ob) (hk:l[i]? =some k) (hob:k.1=ob) (ht1:L1.tr id=some t1) (hx:t1.lv k=some x) (hy:y.ad=x.ad)
    (hab:Q8 (Zs {L1 with sh:=f} id t1 k y) V2=ZA (Q8 L1 V1) id k (allX (Wy V1 x) zer)):DrI L (Zs {L1 with sh:=f} id t1 k y) V V2 id t (l.take (i+1)) ob:= by
  obtain⟨g,a,b,c,d⟩:=h
  rw[a,Q1]at ht1
  cases ht1
  dsimp only at hx
  refine⟨Xz g k (some y), ?_,b, fun j=> ?_, ?_⟩
  · show Xz L1.tr id _=_
    rw[a,YK]
  · by_cases e:j=k
    · subst e
      rw[Q1]
      obtain⟨z,hz,hza⟩:=(c j).2 x hx
      refine⟨⟨(fun q=> by cases q),(fun q=> by rw[hz]at q; cases q)⟩, fun w hw=> ?_⟩
      cases hw
      exact⟨z,hz,hza.trans hy.symm⟩
    · rw[QI e]; exact c j
  · have htA:(Q8 L1 V1).tr id=some {ZD V t with lv:=Zn (inD (l.take i) ob) (ZD V t).lv}:= by rw[d]; exact Q1
    have hxA:({ZD V t with lv:=Zn (inD (l.take i) ob) (ZD V t).lv}:TrA).lv k=some (Wy V1 x):= by
      have h1:=Zv (V:=V1) (show L1.tr id=some {t with lv:=g} by rw[a,Q1])
      rw[htA]at h1
      have h2:=ZI (V:=V1) (t:={t with lv:=g}) hx
      have h3:({ZD V t with lv:=Zn (inD (l.take i) ob) (ZD V t).lv}:TrA)=ZD V1 {t with lv:=g}:= by simpa using h1
      rw[h3]; exact h2
    rw[hab,ZS htA,d]
    simp only[YK]
    rw[Ae (I1 hk hob) hxA]
theorem Ab {V:VS} {t:TrD} {l:List KD} {ob:Bs} (hl: ∀k,k∈l↔t.lv k≠none):Zn (inD l ob) (ZD V t).lv=Zn (fun j=>j.1=ob) (ZD V t).lv:=
  M9 fun j hj=> by
    have :t.lv j≠none:= fun q=>hj (VV q)
    unfold inD
    rw[hl]; simp [this]
theorem Aa {ex:Int→Int} {m:Nat} {L L1:LvD} {V V1:VS} {id:Int} {t:TrD} {l:List KD} {ob:Bs} {g:KD→Option LfD} (hI1:LvX ex m L1 V1) (hsp:L1.sp=L.sp) (hal: ∀c,AliveLe V c→AliveLe V1 c) (hpg:Pgs V V1) (hdr:DrI L L1 V V1 id t l ob) (ht:L.tr id=some t) (hl: ∀k,k∈l↔t.lv k≠none)
    (hg1:L1.tr=Xz L.tr id (some {t with lv:=g})) (hg2:L1.pres=L.pres) (hg3: ∀k,(g k=none↔t.lv k=none)∧ ∀x,g k=some x→ ∃y,t.lv k=some y∧y.ad=x.ad)
    (hg4:Q8 L1 V1={Q8 L V with tr:=Xz (Q8 L V).tr id (some {ZD V t with lv:=Zn (inD l ob) (ZD V t).lv})}):
    StepX ex m L V ex m 0 0 {L1 with tr:=Xz L1.tr id (some {t with lv:=g,dr:=JD t.dr ob})} V1∧Q8 {L1 with tr:=Xz L1.tr id (some {t with lv:=g,dr:=JD t.dr ob})} V1=U3 (Q8 L V) id ob:= by
  have ht1:L1.tr id=some {t with lv:=g}:= by rw[hg1,Q1]
  generalize hL2:({L1 with tr:=Xz L1.tr id (some {t with lv:=g,dr:=JD t.dr ob})}:LvD)=L2
  have hP:L2.pres=L1.pres:= by subst hL2;rfl
  have hT:L2.tr=Xz L1.tr id (some {t with lv:=g,dr:=JD t.dr ob}):= by subst hL2;rfl
  have hf: ∀q,Xw L2 q=Xw L1 q:= fun q=> by
    cases q with
    | inl j=> simp [Xw,hP]
    | inr q=>
      obtain⟨i,j,o⟩:=q
      simp only[Xw,hT]
      by_cases e:i=id
      · subst e; rw[Q1,ht1]
      · rw[QI e]
  have e1:Q8 L2 V1=U3 (Q8 L V) id ob:= by
    have h2:Q8 L2 V1={Q8 L1 V1 with tr:=Xz (Q8 L1 V1).tr id (some (ZD V1 {t with lv:=g,dr:=JD t.dr ob}))}:= by
      unfold Q8
      rw[hP,hT]
      congr 1
      funext i
      by_cases e:i=id
      · subst e; rw[Q1,Q1];rfl
      · rw[QI e,QI e]
    have h3:ZD V1 {t with lv:=g}={ZD V t with lv:=Zn (inD l ob) (ZD V t).lv}:= by
      have h4:=Zv (V:=V1) ht1
      rw[hg4]at h4
      dsimp only at h4
      rw[Q1]at h4
      simpa using h4.symm
    have h5:ZD V1 {t with lv:=g,dr:=JD t.dr ob}={ZD V t with lv:=Zn (fun j=>j.1=ob) (ZD V t).lv,dr:=JD t.dr ob}:= by
      have h6:(ZD V1 {t with lv:=g,dr:=JD t.dr ob}).lv=(ZD V1 {t with lv:=g}).lv:=rfl
      show(⟨t.parent,(ZD V1 {t with lv:=g,dr:=JD t.dr ob}).lv,JD t.dr ob⟩:TrA)=_
      rw[h6,h3,Ab hl]
      rfl
    rw[h2,hg4,h5]
    unfold U3
    rw[Zv ht]
    dsimp only
    rw[YK]
    rfl
  refine⟨⟨⟨hI1.ref.fn hf, by rw[hT]; exact hI1.rank.same (WZ ht1 rfl), ?_⟩, by subst hL2; exact hsp,hal, fun c q=> ?_,hpg⟩,e1⟩
  · have h7:Q8 L2 V1={Q8 L1 V1 with tr:=Xz (Q8 L1 V1).tr id (some (ZD V1 {t with lv:=g,dr:=JD t.dr ob}))}:= by
      unfold Q8
      rw[hP,hT]
      congr 1
      funext i
      by_cases e:i=id
      · subst e; rw[Q1,Q1];rfl
      · rw[QI e,QI e]
    rw[h7]
    intro i u k x hi hk
    dsimp only at hi
    by_cases e:i=id
    · subst e; rw[Q1]at hi; cases hi; exact hI1.agree i _ k x (Zv ht1) hk
    · rw[QI e]at hi; exact hI1.agree i u k x hi hk
  · obtain⟨li,a,b,d⟩:=q
    refine⟨li,a, fun k hk=>b k (by rwa [hP,hg2]at hk), fun j u k x hj hk=> ?_⟩
    rw[hT,hg1,YK]at hj
    by_cases e:j=id
    · subst e
      rw[Q1]at hj
      cases hj
      obtain⟨y,hy,_⟩:=(hg3 k).2 x hk
      exact d j t k y ht hy
    · rw[QI e]at hj; exact d j u k x hj hk
theorem PK {w:World} {ex:Int→Int} {m:Nat} {b n Fr:Nat} {L:LvD} {V:VS} {F:Th} (hS:Sat w [ZY b L,Zq L.sp n Fr V,F]) {c:Nat} (hc:SzLe L c) (hn:n+2*c≤60000000000) (hI:LvX ex m L V) (hx:NN ex) {id:Int} {t:TrD} (ht:L.tr id=some t) (ob:Bs):
    Calls Tryz.prog 27 #[ptrV b 0,intV id,strV ob] w (Ret fun v w'=> ∃L' V',StepX ex m L V ex m 0 0 L' V'∧Q8 L' V'=U3 (Q8 L V) id ob∧OthK L L' id (fun _=>False)∧Sat w' [ZY b L',Zq L'.sp (n+2*c) Fr V',F]):= by
 have h0:id≠0:=hI.rank.none0 ht
 replace hS:=XX hS
 refine Qq Tryz.func27 rfl Tryz.ntmps27 rfl ?_
 refine Qd (Qd (Qa (Qb rfl rfl (QX rfl rfl rfl (Qf (Qc (Qs rfl (fun h1=> ?_) (fun h1=> ?_))))))))
 ·exact absurd h1 h0
 refine Qr (Qc (Qd (Qa (Qb rfl rfl (Qk rfl rfl (Qg rfl Wu rfl (Qo rfl Y4 (hS.cell 0 rfl rfl) rfl (Qb rfl rfl (X2 (k:=id) 2 hS keysInt Tryz.underlying82 rfl rfl rfl Hv (u:=ptrV t.ad 0) (Zg ht) rfl (Qe rfl rfl (Qf (Qc (Qi [2,0,8] rfl (Qd (Qd (Qa (Qb rfl rfl (ZJ Tryz.underlying94 rfl rfl rfl (Qf (Qc (QV rfl (Qr (Qc (Qd (Qd ?_)))))))))))))))))))))))))
 have hS2:=ZE (hS.pick [3,0,1,2,4,5,6] rfl) ht
 refine Qa (Qb rfl rfl (Qk rfl rfl (Qg rfl Wd rfl (Qo rfl JH (hS2.cell 0 rfl rfl) rfl ?_))))
 refine Qv Fu rfl (Mr (hS2.sp [1] rfl) (fun ks h=> by have :=hc.keysL ht h;omega)) rfl ?_
 rintro _ w3 ⟨ks,hks,hS3⟩
 replace hS3:=hS3.jn rfl rfl
 clear hS2
 obtain⟨ar,cr,hvr,_⟩:=hS3.own_shape 0 rfl; obtain rfl:=hvr
 refine X5 Tryz.underlying98 rfl rfl (Qb rfl rfl (Qf (Qc (Qi [2,0,8,44,45,46] rfl (Qw ?_)))))
 have hS4:=Zm ht (hS3.pick [2,1,3,4,5,0,6,7,8,9,10,11] rfl)
 have hz:=Xd (hS4.pick [2,3,4,0,5,1,6,7] rfl)
 have hlk:(QP ks).length≤c:= by rw[WF]; exact hc.keysL ht (Came.of_all hks)
 refine Xe (fun K0 E0 W0=> ∃(i:Nat) (L1:LvD) (V1:VS),K0=(QP ks).length -i∧E0=[(0,ptrV b 0),(2,strV ob),(8,ptrV t.ad 0),(44,.slice ar (QP ks).length cr),(45,intV ((QP ks).length:Int)),(46,intV (i:Int))]∧Sat W0 [ZY b L1,Zq L1.sp (n+2*i) Fr V1,rowT kC (.slice ar (QP ks).length cr) (QP ks),F]∧(i≤(QP ks).length)∧(LvX ex m L1 V1)∧(L1.sp=L.sp)∧(∀c,AliveLe V c→AliveLe V1 c)∧(Pgs V V1)∧(DrI L L1 V V1 id t ((QP ks).take i) ob)) (L0:=[(0,_),(2,_),(8,_),(44,_),(45,_),(46,_)]) ((QP ks).length) (U9 rfl rfl rfl rfl rfl rfl) ⟨0,L,V, by omega,rfl,hz.pick [0,2,1,3] rfl, by omega,hI,rfl, fun _ q=>q,.refl,DrI.start ht⟩ ?_
 rintro _ _ w5 ⟨i,L1,V1,rfl,rfl,hS5,hi,hI1,hsp,hal,hpg,hdr⟩
 refine Qd (Qa (Xb rfl rfl rfl (Qf (Qc (Qd (Qs rfl (fun h6=> ?_) (fun h6=> ?_)))))))
 ·obtain⟨k,hk⟩: ∃k,(QP ks)[i]? =some k:=⟨_,Zd (by omega)⟩
  refine Qr (Qc (Qd (Qw (Qd (Qa (Xu kC 2 i hS5 rfl rfl rfl (by first | rfl | omega) hk B2 rfl ?_))))))
  intro bx7 capx7 hvx7
  refine Wk 2 i hS5 rfl hvx7 rfl hk X9 Xh rfl rfl (Xg hS5 ZM rfl rfl ?_)
  intro kb wk8 hk8
  clear hS5
  refine QY hk8 rfl rfl Xh rfl (by rfl) (i:=0) rfl (by decide) ?_
  intro wk9 hk9; dsimp only[List.set]at hk9
  clear hk8
  replace hk9:=XM (k:=k) hk9
  refine Qf (Qc (Qd ?_))
  obtain⟨g,hg1,hg2,hg3,hg4⟩:=_root_.id hdr
  have ht1:L1.tr id=some {t with lv:=g}:= by rw[hg1,Q1]
  obtain⟨x1,hx1⟩: ∃x,g k=some x:=Option.ne_none_iff_exists'.1 fun q=>absurd ((hg3 k).1.1 q) ((qbc hks k).1 (List.mem_of_getElem? hk))
  have hS10:=Yu ht1 hx1 (hk9.pick [1,0,2,3,4] rfl)
  have hS11:=hS10.drew
  refine QJ [0,1,2,3,4,5,6] [] Wp (by kernel_rfl) ?_
  refine QE rfl rfl rfl (Xl rfl rfl rfl (QT rfl rfl rfl Wd (Q9 rfl rfl rfl (Qm rfl JH (hS11.cell 2 rfl rfl)) (Q9 rfl rfl rfl (XE rfl X9 Xh (hS11.blk 10 rfl) (Xn rfl) rfl) (Q9 rfl rfl rfl (Xx (k:=k) 3 hS11 keysKey Tryz.underlying90 rfl rfl rfl HI (u:=ptrV x1.ad 0) (Zg hx1)) (XN rfl rfl rfl (VC.nil (Qc (Qi [46,45,44,8,2,0,10,11] rfl (Qd (Qa (Qg rfl Yx rfl (Qo rfl ZC (hS11.cell 10 rfl rfl) rfl (Qb rfl rfl (BH rfl rfl rfl (Qf (Qc (Qi [46,45,44,8,2,0,11,59] rfl (Qs rfl (fun h12=> ?_) (fun h12=> ?_))))))))))))))))))))
  ·have hob:k.1=ob:=h12
   refine Qd (Qa (Qb rfl rfl (Qb rfl rfl (Qk rfl rfl (Qg rfl Jt rfl (Qv qat rfl (I3 (hS11.sp [6,9,11,0] rfl) (by omega) 0) rfl ?_))))))
   rintro _ w13 ⟨rfl,hS13⟩
   replace hS13:=hS13.jn rfl rfl
   clear hS11
   refine Qf (Qc (Qi [46,45,44,8,2,0,11] rfl (Qa (Qb rfl rfl (Qk rfl rfl (Qg rfl W8 rfl (QL (v:=Zu (BitVec.allOnes 64)) hS13 rfl rfl Br rfl (i:=3) rfl (Xn rfl) ?_)))))))
   intro w14 hS14; dsimp only[List.set]at hS14
   clear hS13
   refine Qf (Ql (Qc (Qa (QK rfl rfl (by omega) (by omega) rfl ?_))))
   refine Qb rfl rfl (Qf ?_)
   have hS15:=Jb (L:={L1 with sh:=Y1 (refW V1 0) (Y2 L1.sh 0) x1.own}) (y:={x1 with own:=0,wr:=BitVec.allOnes 64}) ht1 hx1 rfl (hS14.pick [3,4,5,6,7,8,0,9,10,1,2,11,12,13] rfl)
   obtain⟨hs1,hs2⟩:=TQ (s:=0) hI1 hx (.inl rfl) ht1 hx1 (Y1 (refW V1 0) (Y2 L1.sh 0) x1.own)
   rw[Wr hI1.zero]at hs2
   have hd2:=hdr.T (y:={x1 with own:=0,wr:=BitVec.allOnes 64}) hk hob ht1 hx1 rfl hs2
   exact Q6 (L1:=[(0,_),(2,_),(8,_),(44,_),(45,_),(46,intV ((i+1:Nat):Int))]) (U9 rfl rfl rfl rfl rfl rfl) (k1:=(QP ks).length -(i+1)) (by omega) ⟨i+1,_,_, by omega,rfl,(X1 (m:=n+2*(i+1)) (by omega) (hS15.pick [1,0,3,4] rfl)).reorder [1,0,2,3] rfl, by omega,hs1.inv,hs1.sp.trans hsp, fun c q=>hs1.al c (hal c q),hpg.trans hs1.pg,hd2⟩
  have hob:k.1≠ob:=h12
  refine Qr (Ql (Qc (Qa (QK rfl rfl (by omega) (by omega) rfl ?_))))
  refine Qb rfl rfl (Qf ?_)
  have hS16:=Jb (L:=L1) (y:=x1) ht1 hx1 rfl (hS11.pick [0,1,2,3,4,5,6,7,8,9,10,11,12,13] rfl)
  rw[YA ht1 hx1]at hS16
  exact Q6 (L1:=[(0,_),(2,_),(8,_),(44,_),(45,_),(46,intV ((i+1:Nat):Int))]) (U9 rfl rfl rfl rfl rfl rfl) (k1:=(QP ks).length -(i+1)) (by omega) ⟨i+1,L1,V1, by omega,rfl,(X1 (m:=n+2*(i+1)) (by omega) (hS16.pick [2,0,3,4] rfl)).reorder [1,0,2,3] rfl, by omega,hI1,hsp,hal,hpg,hdr.F hk hob⟩
 refine QS (Qp (Qp (Qz (Qc ?_))))
 have hil:i=(QP ks).length:= by omega
 rw[hil,List.take_length]at hdr
 obtain⟨g,hg1,hg2,hg3,hg4⟩:=_root_.id hdr
 have ht1:L1.tr id=some {t with lv:=g}:= by rw[hg1,Q1]
 have hS17:=XX (hS5.pick [0,1,2,3] rfl)
 have hS18:=ZE (hS17.pick [3,0,1,2,4,5,6,7] rfl) ht1
 refine Qa (Qb rfl rfl (Qk rfl rfl (Qg rfl RS rfl (Qo rfl Ck (hS18.cell 0 rfl rfl) rfl (Qb rfl rfl (Xk (k:=ob) (v:= .bool true) 3 hS18 keysStr Tryz.underlying91 rfl rfl rfl rfl ?_))))))
 intro w19 hS19; dsimp only[List.set]at hS19; rw[UZ]at hS19
 clear hS18
 refine Qf (ZB (.inl rfl) rfl ?_)
 have hS20:=Rx (t:=({t with lv:=g,dr:=JD t.dr ob}:TrD)) (hS19.pick [0,1,2,3,4,5,6,7,8,9,10,11] rfl)
 rw[←Uu (ad:=TrD.ad) (f:=L1.tr) (k:=id) (y:=({t with lv:=g,dr:=JD t.dr ob}:TrD)) ht1 rfl]at hS20
 have hfin:=Aa hI1 hsp hal hpg hdr ht (qbc hks) hg1 hg2 hg3 hg4
 exact⟨_,rfl,{L1 with tr:=Xz L1.tr id (some ({t with lv:=g,dr:=JD t.dr ob}:TrD))},V1,hfin.1,hfin.2,SR ht hg2 (by show Xz L1.tr id _=_; rw[hg1,YK]) (fun k x hx=> by obtain⟨y,hy,_⟩:=(hg3 k).2 x hx; rw[hy]; simp),(X1 (m:=n+2*c) (by omega) ((Xd (L:={L1 with tr:=Xz L1.tr id (some ({t with lv:=g,dr:=JD t.dr ob}:TrD))}) (hS20.pick [1,2,3,0,4,5,7] rfl)).reorder [1,0,2] rfl)).reorder [1,0,2] rfl⟩
end Go.Proofs.YtkcjfoaejijdoaaGreatDoor
