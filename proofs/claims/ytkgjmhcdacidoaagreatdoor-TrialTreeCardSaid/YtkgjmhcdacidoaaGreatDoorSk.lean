/- The shelf's contract of sorting rows of keys (structs of a string and an integer) as a contract of things; a walk that keeps how the world has grown. Conditions: each one's own hypotheses. -/
import Derived.Test.YtkgjmhcdacidoaaGreatDoorLv10
import Derived.Shelf.SlSortCmp.NoneTotal
import Derived.Lib.Bytealg
import Derived.Lib.Small
import Derived.Shelf.SlLaysF0
import Derived.Ground.SlsfProg
import Derived.Test.YtkgjmhcdacidoaaGreatDoorProg
import Derived.Test.YtkgjmhcdacidoaaGreatDoorShelf
import Derived.Test.YtkgjmhcdacidoaaGreatDoorDl
import Derived.Test.YtkgjmhcdacidoaaGreatDoorLv13
set_option linter.unusedSectionVars false
set_option linter.unusedVariables false
set_option maxRecDepth 100000
set_option maxHeartbeats 80000000000
namespace Go.Proofs.YtkgjmhcdacidoaaGreatDoor.M
open Go.RowKit Go.Sort Proofs.Tryz
def cfK (x y:Bs×Int):Int:= if Lib.compareBytes x.1 y.1≠0 then Lib.compareBytes x.1 y.1 else Lib.compareInt x.2 y.2
def QQ (l:List (Bs×Int)):List (Bs×Int):=l.mergeSort fun x y=> !ltOf cfK y x
theorem Yg (l:List (Bs×Int)):(QQ l).Perm l:=List.mergeSort_perm _ _
theorem Wz (l:List (Bs×Int)):(QQ l).length=l.length:=(Yg l).length_eq
theorem cmpB: ∀a b:Bs,(Lib.compareBytes a b<0↔a<b)∧(Lib.compareBytes a b=0↔a=b)
  | [],[]=> by simp [Lib.compareBytes]
  | [],y::ys=> by simp [Lib.compareBytes]
  | x::xs,[]=> by simp [Lib.compareBytes]
  | x::xs,y::ys=> by
    have ih:=cmpB xs ys
    unfold Lib.compareBytes
    rw[List.cons_lt_cons_iff]
    by_cases h1:x<y
    · have :x≠y:= fun e=> by subst e; exact absurd h1 (UInt8.lt_irrefl _)
      simp [h1,this]
    · by_cases h2:y<x
      · have :x≠y:= fun e=> by subst e; exact absurd h2 (UInt8.lt_irrefl _)
        simp [h1,h2,this]
      · have e:x=y:=UInt8.le_antisymm (UInt8.not_lt.1 h2) (UInt8.not_lt.1 h1)
        subst e
        simp [h1,ih.1,ih.2]
theorem ltK (x y:Bs×Int):ltOf cfK x y=true↔x.1<y.1∨x.1=y.1∧x.2<y.2:= by
  have h:=cmpB x.1 y.1
  unfold ltOf cfK Lib.compareInt
  by_cases e:x.1=y.1
  · rw[if_neg (by simpa using h.2.2 e)]
    have : ¬x.1<y.1:= by rw[e]; exact List.lt_irrefl _
    by_cases a:x.2<y.2
    · simp [a,e]
    · by_cases b:x.2>y.2<;> simp [a,b,e,List.lt_irrefl]
  · rw[if_pos (by simpa using fun q=>e (h.2.1 q))]
    simp [h.1,e]
theorem ltKf (x y:Bs×Int):ltOf cfK x y=false↔ ¬x.1<y.1∧(x.1=y.1→ ¬x.2<y.2):= by
  rw[←Bool.not_eq_true,ltK]
  exact⟨fun h=>⟨fun a=>h (.inl a), fun e a=>h (.inr ⟨e,a⟩)⟩, fun ⟨h1,h2⟩ h=>h.elim h1 fun ⟨e,a⟩=>h2 e a⟩
theorem bs_nlt {a b c:Bs} (h: ¬a<b) (h': ¬b<c): ¬a<c:=List.not_lt.2 (List.le_trans (List.not_lt.1 h') (List.not_lt.1 h))
theorem swoK:SWO (ltOf cfK) where
  irrefl x:= by rw[ltKf]; exact⟨List.lt_irrefl _, fun _=> by omega⟩
  trans x y z h1 h2:= by
    rw[ltK]at *
    rcases h1 with h1 | ⟨e1,h1⟩<;> rcases h2 with h2 | ⟨e2,h2⟩
    · exact .inl (List.lt_trans h1 h2)
    · exact .inl (e2▸h1)
    · exact .inl (e1▸h2)
    · exact .inr ⟨e1.trans e2, by omega⟩
  ntrans x y z h1 h2:= by
    rw[ltKf]at *
    refine⟨bs_nlt h1.1 h2.1, fun e=> ?_⟩
    have h3: ¬z.1<y.1:=e▸h1.1
    have h4:y.1=z.1:=List.le_antisymm (List.not_lt.1 h3) (List.not_lt.1 h2.1)
    have :=h1.2 (e.trans h4.symm)
    have :=h2.2 h4
    omega
theorem totK (x y:Bs×Int) (h1:ltOf cfK x y=false) (h2:ltOf cfK y x=false):x=y:= by
  rw[ltKf]at *
  have e:x.1=y.1:=List.le_antisymm (List.not_lt.1 h2.1) (List.not_lt.1 h1.1)
  exact Prod.ext e (by have :=h1.2 e; have :=h2.2 e.symm;omega)
theorem kC_get (l:List (Bs×Int)): ∀t,t<l.length*2→(kC.cells l)[t]! =(kC.enc l[t/ 2]!)[t%2]! := by
  induction l with
  | nil=> intro t h; simp at h
  | cons a l ih=>
    intro t h
    have e:kC.cells (a::l)=strV a.1::intV a.2::kC.cells l:=rfl
    rw[e]
    match t with
    | 0=>rfl
    | 1=>rfl
    | t+2=>
      have h1:=ih t (by simp at h;omega)
      have h2:(t+2)/ 2=t/ 2+1:= by omega
      have h3:(t+2)%2=t%2:= by omega
      rw[h2,h3]
      simpa using h1
theorem Pt (l:List (Bs×Int)):flatK kC.enc 2 l.toArray=(kC.cells l).toArray:= by
  refine ext_get! (by simp [RowC.cells_len];rfl) fun t ht=> ?_
  have ht':t<l.length*2:= by simpa using ht
  rw[get_flatK _ _ _ _ (by simpa using ht')]
  have :=kC_get l t ht'
  simpa using this.symm
theorem Ts (d xs sp:List Value) (h:d.length=xs.length):(putCells id 0 d.toArray (xs++sp).toArray)=(d++sp).toArray:= by
  apply Array.ext_getElem?
  intro k
  unfold putCells
  simp only[Array.getElem?_mapIdx,List.getElem?_toArray,Nat.zero_le,true_and,Nat.zero_add,Nat.sub_zero,List.size_toArray]
  by_cases hk:k<d.length
  · rw[List.getElem?_append_left (by simpa [←h]using hk),List.getElem?_append_left (by simpa using hk)]
    simp [hk,h▸hk]
  · rw[List.getElem?_append_right (by omega),List.getElem?_append_right (by omega)]
    have hk': ¬k<xs.length:= by omega
    simp only[h,hk',if_false,Option.map_id']
theorem RD {P:Program} {f:Nat} {fv:Value}
    (hsome: ∀(blk off cap:Nat) (ss:List (Bs×Int)) (w:World),HoldsK kC.enc 2 w blk off ss.toArray→blk<w.heap.size→ss.length<4611686018427387904→Calls P f #[.slice (some ⟨blk,off,none⟩) ss.length cap,fv] w fun e w'=>e= .returned (.tuple #[])∧ ∃n os,w'=sortWorldK kC.enc 2 w blk off n (QQ ss).toArray os)
    (hnone: ∀(p:Option Addr) (cap:Nat) (w:World),Calls P f #[.slice p 0 cap,fv] w fun e w'=>e= .returned (.tuple #[])∧w'=w)
    {w:World} {v:Value} {l:List (Bs×Int)} {As:List Th} (hS:Sat w (rowT kC v l::As)) (hl:l.length<4611686018427387904):Calls P f #[v,fv] w (Ret fun u w'=>u= .tuple #[]∧Sat w' (rowT kC v (QQ l)::As)):= by
  obtain⟨foot,hlen,h⟩:=hS.own 0 rfl
  rcases h with⟨rfl,hn,hf⟩ | ⟨b,cap,sp,rfl,hcap,hb,hsz,hf⟩
  · have :l=[]:=List.eq_nil_of_length_eq_zero hn
    subst this
    exact(hnone none 0 w).mono fun e w' ⟨h1,h2⟩=>⟨_,h1,rfl, by rw[h2];simpa [QQ]using hS⟩
  · have hH:HoldsK kC.enc 2 w b 0 l.toArray:= fun j hj=> by
      rw[Pt]at hj⊢
      have hj':j<(kC.cells l).length:= by simpa using hj
      refine⟨?_, ?_⟩
      · rw[Nat.zero_add]
        refine hb.cell ?_
        rw[List.getElem?_append_left (by simpa using hj')]
        simp [hj']
      · exact hb.free _ (by simp;omega)
    refine(hsome b 0 cap l w hH hb.lt hl).mono fun e w' ⟨h1,n,os,h2⟩=>⟨_,h1,rfl, ?_⟩
    have hlt:=hb.lt
    have hcl:(kC.cells (QQ l)).length=(kC.cells l).length:= by rw[RowC.cells_len,RowC.cells_len,Wz]
    unfold sortWorldK putRowK at h2
    rw[Pt]at h2
    have hheap: ∀k,k<w.heap.size→k≠b→w'.heap[k]? =w.heap[k]? := fun k hk hne=> by
      rw[h2,heap_grow_old _ _ (by simpa using hk)]
      simp only[putRow,mapBlock,heap_ahead,Array.getElem?_modify]
      rw[if_neg (fun q=>hne q.symm)]
    obtain⟨T,lo,hi,hc,hfz⟩:=hb
    have hnew:w'.heap[b]? =some (.cells (kC.cells (QQ l)++sp).toArray T (lo,hi)):= by
      rw[h2,heap_grow_old _ _ (by simpa using hlt)]
      simp only[putRow,mapBlock,heap_ahead,Array.getElem?_modify,if_pos,hc,Option.map_some,onCells]
      rw[Ts _ _ _ hcl]
    have ho:Only [b] w w':= by
      refine⟨?_, ?_, ?_, ?_, fun k hk hn=>hheap k hk (by simpa using hn)⟩
      · rw[h2];rfl
      · rw[h2];rfl
      · rw[h2];rfl
      · rw[h2]; simp
    have hfin:=hS.own_set (w':=w') 0 U (v':= .slice (some ⟨b,0,none⟩) l.length cap) (n':=l.length) (size':=2) (xs':=kC.cells (QQ l)) (fun foot' g=> by
      obtain⟨_,g⟩:=g
      rcases g with⟨g0,_⟩ | ⟨b',cap',sp',g0,g1,g2,g3,g4⟩
      · cases g0
      · simp only[Value.slice.injEq,Option.some.injEq,Addr.mk.injEq,and_true,true_and]at g0
        obtain⟨rfl,rfl⟩:=g0
        refine⟨[b],⟨?_,.inr ⟨b,cap,sp,U,hcap,⟨T,lo,hi, ?_, ?_⟩, ?_,U⟩⟩, ?_, ?_⟩
        · rw[kC.cells_len,Wz];rfl
        · exact hnew
        · rcases hfz with q | q
          · exact .inl q
          · refine .inr ?_
            simp only[List.length_append,kC.cells_len,Wz]at q⊢; exact q
        · simp only[List.length_append,kC.cells_len,Wz]at hsz⊢; exact hsz
        · rw[g4]; exact ho
        · rw[g4]; intro k hk; exact .inl hk)
    have e:(QQ l).length=l.length:=Wz l
    show Sat w' (W6 _ (QQ l).length 2 _::As)
    rw[e]; exact hfin
end Go.Proofs.YtkgjmhcdacidoaaGreatDoor.M
namespace Go.Proofs
open Proofs.Tryz
open Go.Shelf
def Tryz.sortKeys_ren:Go.Shelf.Ren:=⟨fun | 6=>128 | 15=>109 | 14=>163 | 28=>149 | 29=>150 | 20=>189 | 21=>190 | 22=>191 | 23=>192 | 24=>193 | 25=>194 | 26=>195 | 27=>196 | 46=>210 | 47=>178 | 48=>179 | 49=>211 | 50=>212 | 57=>218 | n=>n, fun | 22=>123 | 24=>115 | 25=>175 | 3=>3 | 39=>167 | 0=>0 | 53=>219 | 55=>118 | 4=>4 | 46=>212 | 45=>211 | 50=>133 | 5=>5 | 9=>9 | 66=>234 | 70=>183 | 76=>252 | 77=>253 | n=>n, fun | n=>n⟩
theorem Tryz.sortKeys:Go.Proofs.SlLaysF0.n6 prog Tryz.sortKeys_ren:={
  mixed:= by kernel_rfl
  f6:=⟨Tryz.f128.name, by decide,func128.trans (congrArg some (by kernel_rfl))⟩
  f14:=⟨Tryz.f163.name, by decide,func163.trans (congrArg some (by kernel_rfl))⟩
  f15:=func109.trans (congrArg some (by kernel_rfl))
  f20:=⟨Tryz.f189.name, by decide,func189.trans (congrArg some (by kernel_rfl))⟩
  f21:=⟨Tryz.f190.name, by decide,func190.trans (congrArg some (by kernel_rfl))⟩
  f22:=⟨Tryz.f191.name, by decide,func191.trans (congrArg some (by kernel_rfl))⟩
  f23:=⟨Tryz.f192.name, by decide,func192.trans (congrArg some (by kernel_rfl))⟩
  f24:=⟨Tryz.f193.name, by decide,func193.trans (congrArg some (by kernel_rfl))⟩
  f25:=⟨Tryz.f194.name, by decide,func194.trans (congrArg some (by kernel_rfl))⟩
  f26:=⟨Tryz.f195.name, by decide,func195.trans (congrArg some (by kernel_rfl))⟩
  f27:=⟨Tryz.f196.name, by decide,func196.trans (congrArg some (by kernel_rfl))⟩
  f28:=func149.trans (congrArg some (by kernel_rfl))
  f29:=func150.trans (congrArg some (by kernel_rfl))
  f46:=⟨Tryz.f210.name, by decide,func210.trans (congrArg some (by kernel_rfl))⟩
  f47:=func178.trans (congrArg some (by kernel_rfl))
  f48:=func179.trans (congrArg some (by kernel_rfl))
  f49:=⟨Tryz.f211.name, by decide,func211.trans (congrArg some (by kernel_rfl))⟩
  f50:=⟨Tryz.f212.name, by decide,func212.trans (congrArg some (by kernel_rfl))⟩
  f57:=⟨Tryz.f218.name, by decide,func218.trans (congrArg some (by kernel_rfl))⟩
  t0:=underlying0
  a0:=Tryz.isAgg0
  z0:=Tryz.sizeOf0
  v0:=Tryz.zeroValue0
  t3:=underlying3
  a3:=Tryz.isAgg3
  z3:=Tryz.sizeOf3
  v3:=Tryz.zeroValue3
  t4:=underlying4
  a4:=Tryz.isAgg4
  z4:=Tryz.sizeOf4
  v4:=Tryz.zeroValue4
  t5:=underlying5
  a5:=Tryz.isAgg5
  z5:=Tryz.sizeOf5
  v5:=Tryz.zeroValue5
  t9:=underlying9
  a9:=Tryz.isAgg9
  z9:=Tryz.sizeOf9
  v9:=Tryz.zeroValue9
  t22:=underlying123
  a22:=Tryz.isAgg123
  z22:=Tryz.sizeOf123
  v22:=Tryz.zeroValue123
  t25:=underlying175
  a25:=Tryz.isAgg175
  z25:=Tryz.sizeOf175
  v25:=Tryz.zeroValue175
  t39:=underlying167
  a39:=Tryz.isAgg167
  z39:=Tryz.sizeOf167
  v39:=Tryz.zeroValue167
  t45:=underlying211
  a45:=Tryz.isAgg211
  z45:=Tryz.sizeOf211
  v45:=Tryz.zeroValue211
  t46:=underlying212
  a46:=Tryz.isAgg212
  z46:=Tryz.sizeOf212
  v46:=Tryz.zeroValue212
  t50:=underlying133
  a50:=Tryz.isAgg133
  z50:=Tryz.sizeOf133
  v50:=Tryz.zeroValue133
  t53:=underlying219
  a53:=Tryz.isAgg219
  z53:=Tryz.sizeOf219
  v53:=Tryz.zeroValue219
  t55:=underlying118
  a55:=Tryz.isAgg118
  z55:=Tryz.sizeOf118
  v55:=Tryz.zeroValue118
  t66:=underlying234
  a66:=Tryz.isAgg234
  z66:=Tryz.sizeOf234
  v66:=Tryz.zeroValue234
  t70:=underlying183
  a70:=Tryz.isAgg183
  z70:=Tryz.sizeOf183
  v70:=Tryz.zeroValue183
  t76:=underlying252
  a76:=Tryz.isAgg252
  z76:=Tryz.sizeOf252
  v76:=Tryz.zeroValue252
  t77:=underlying253
  a77:=Tryz.isAgg253
  z77:=Tryz.sizeOf253
  v77:=Tryz.zeroValue253}
end Go.Proofs
namespace Go.Proofs.YtkgjmhcdacidoaaGreatDoor
open Go.RowKit M Proofs.Tryz
theorem sortI0 {w:World} {v:Value} {l:List Int} {F:Th} (hS:Sat w [rowT inC v l,F]) (hl:l.length<4611686018427387904):Calls prog 71 #[v] w (Ret fun u w'=>u= .tuple #[]∧Sat w' [rowT inC v (XP l),F]):=Cq Tryz.slices_Sort_int Tryz.slices_Sort_int_none hS hl
def ItI (g:Int→Option Value) (gf:Nat) (caps:List Value) (It:Th):Prop:= ∀(l:Nat) (J:List Int→Th) (X:Th) (w:World),Sat w [J [],It,X]→YJ prog l QX (okC g) J→Calls prog gf (.func (.yield l) #[] #[]::caps).toArray w (Ret fun _ w'=> ∃ks,AllC g ks∧Sat w' [J ks,It,X])
def JI (l D b:Nat) (rec:Loop) (ks:List Int):Th:=CH fun v:Value=>starL [WQ l rec,Wa D,QE b [v],rowT inC v ks]
theorem appI {w:World} {g:Int→Option Value} {It F:Th} {gf:Nat} {caps:List Value} (hS:Sat w [It,F]) (hcal:Q8 prog gf=true) (hIt:ItI g gf caps It) (hlen: ∀ks,Came g ks→ks.length≤100000000000):
    Calls prog 107 [.slice none 0 0,.func (.func gf) #[] caps.toArray].toArray w (Ret fun v w'=> ∃ks,AllC g ks∧Sat w' [rowT inC v ks,It,F]):= by
 refine YE func107 U ntmps107 U ?_
 refine Qe (Qa (XV hS U U U ?_))
 intro b1 w1 j1
 refine Qd U U (Qf (Qc (Qe (Qe (Qa (Qb U U (Qf (Qc (Qw (Y6 (caps:=caps) U hcal ?_))))))))))
 intro rec hr1 hr2 hr3 hr4 hr5 htn htf
 have hE:=((j1.enter_loop rec).row_nil inC)
 have hE2:=hE.sp [1,2,3,0] U
 have hJ0:=Sat.ex_intro (f:= fun v:Value=>starL [WQ _ _,Wa _,QE _ [v],rowT inC v []]) _ (Sat.fold (As:=[WQ _ _,Wa _,QE _ [_],rowT inC _ []]) hE2)
 refine(hIt _ (JI _ _ _ _) _ _ (hJ0.join U) ?_).mono ?_
 ·intro ks k R w2 hok hw2
  obtain⟨v,hw3⟩:=hw2.ex
  have hw4:=hw3.flat; dsimp only[RX,RW]at hw4
  have hl1:=hlen _ hok
  simp only[List.length_append,List.length_cons,List.length_nil]at hl1
  refine G6 (hw4.loop 0 rfl) hr1 hr2 hr3 hr4 hr5 htn htf rfl (by intro o ho c; simp at ho; subst ho; simp) (by intro o ho c; simp at ho; rcases ho with rfl | rfl | rfl | rfl | rfl<;> simp) ?_
  intro QA hA
  refine Qd U U (Qf (hA _ _ (hw4.loop 0 U) ?_))
  intro QB hB
  have h1v:v.oneCell'=true:=hw4.own_one 3 U
  have hw5:=hw4.loop_put 0 U (rec':={rec with state:= .busy}); dsimp only[List.set]at hw5
  refine Qo U Yw (hw5.cell 2 U U) U (Qb U U (ZV inC [k] hw5 U underlying22 Bl U U U U (by first | rfl | simp [RowC.cells,Wu,Xz]) U ?_))
  intro b3 w3 hw6
  refine Jf inC 4 hw6 U U U (hw6.rd 0 U (by simp)) underlying22 underlying22 (by intro k hk; cases hk) TH U (by simp;omega) U (by simp;omega) ?_
  intro v4 w4 hw7; dsimp only[List.set]at hw7
  have h1v4:v4.oneCell'=true:=hw7.own_one 4 U
  refine Qx hw7 U U ZM h1v4 (i:=3) U (by simp) ?_
  intro w5 hw8; dsimp only[List.set]at hw8
  refine Qf (hB _ _ (hw8.loop 1 U) ?_)
  have hw9:=hw8.loop_put 1 U (rec':=rec); dsimp only[List.set]at hw9
  exact(Sat.ex_intro (f:= fun v:Value=>starL [WQ _ _,Wa _,QE _ [v],rowT inC v (ks++[k])]) v4 (Sat.fold (As:=[WQ _ _,Wa _,QE _ [_],rowT inC _ _]) (hw9.pick [1,2,3,4,5] U)))
 ·rintro e w3 ⟨v0,rfl,ks,hall,hw3⟩
  obtain⟨v,hw4⟩:=hw3.ex
  have hw5:=hw4.flat; dsimp only[RX,RW]at hw5
  refine⟨⟨v0,rfl⟩,rec,hw5.loop 0 U, by rw[hr1]; simp,hr2, ?_⟩
  intro a ha1 ha2
  have hw6:=hw5.loop_put 0 U (rec':={rec with state:= .exhausted}); dsimp only[List.set]at hw6
  obtain⟨hD,hw7⟩:=hw6.defer_put (o:= .deferred none) 1 rfl
  dsimp only[List.eraseIdx]at hw7
  refine GN (n:=13) (by rw[ha1]; exact htn) (by rw[ha1]; exact htf) ha2 U Yw (hw6.cell 2 U U) hD U U U ?_
  exact⟨_,U,ks,hall,hw7.pick [2,3,4] U⟩
def Rt (c b:Nat) (g:Int→Option Value):Th:=starL [QE c [.map (some b)],Q6 QX b g]
theorem Came.of_all {κ:Type} {g:κ→Option Value} {ks:List κ} (h:AllC g ks):Came g ks:=⟨h.nodup, fun k hk=>(h.mem k).1 hk⟩
theorem colI {w:World} {g:Int→Option Value} {It F:Th} {gf:Nat} {caps:List Value} (hS:Sat w [It,F]) (hcal:Q8 prog gf=true) (hIt:ItI g gf caps It) (hlen: ∀ks,Came g ks→ks.length≤100000000000):
    Calls prog 70 #[.func (.func gf) #[] caps.toArray] w (Ret fun v w'=> ∃ks,AllC g ks∧Sat w' [rowT inC v ks,It,F]):= by
 refine Qn func70 U ntmps70 U ?_
 refine Qe (Qa (Qd U U (Qf (Qc (Qe (Qa (Qb U U (Q0 cal_107 U (appI (hS.sp [0] U) hcal hIt hlen) U ?_))))))))
 rintro _ w1 ⟨ks,hks,j1⟩
 replace j1:=j1.jn U U
 have h1v:=j1.own_one 0 U
 exact Qd U U (Qf (Qc (Qv (QR (.inr U) U U (⟨_,U,ks,hks,j1⟩)))))
theorem V9 {w:World} {g:Int→Option Value} {It F:Th} {gf:Nat} {caps:List Value} (hS:Sat w [It,F]) (hcal:Q8 prog gf=true) (hIt:ItI g gf caps It) (hlen: ∀ks,Came g ks→ks.length≤100000000000):
    Calls prog 33 #[.func (.func gf) #[] caps.toArray] w (Ret fun v w'=> ∃ks,AllC g ks∧Sat w' [rowT inC v (XP ks),It,F]):= by
 refine Qn func33 U ntmps33 U ?_
 refine Qe (Qa (Qd U U (Qf (Qc (Qe (Qa (Qb U U (Q0 cal_70 U (colI (hS.sp [0] U) hcal hIt hlen) U ?_))))))))
 rintro _ w1 ⟨ks,hks,j1⟩
 replace j1:=j1.jn U U
 have h1v:=j1.own_one 0 U
 have hln:=hlen _ (Came.of_all hks)
 refine Qd U U (Qf (Qc (Qe (Qa (Qb U U (Q0 cal_71 U (sortI0 (j1.sp [0] U) (by omega)) U ?_))))))
 rintro _ w2 ⟨rfl,j2⟩
 replace j2:=j2.jn U U
 exact Qf (Qc (Qe (Qa (Qb U U (Qd U U (Qf (Qc (Qv (QR (.inr U) U U (⟨_,U,ks,hks,j2⟩))))))))))
theorem Kr: ∀{l m:List Int},l.Nodup→(∀x∈l,x∈m)→l.length≤m.length
  | [],_,_,_=>Nat.zero_le _
  | a::l,m,hn,hs=> by
    obtain⟨h1,h2⟩:=List.nodup_cons.1 hn
    have h3:=Kr (l:=l) (m:=m.erase a) h2 fun x hx=>(List.mem_erase_of_ne (fun q=>h1 (by rw[←q]; exact hx))).2 (hs x (List.mem_cons_of_mem _ hx))
    have h4:=hs a (by simp)
    have h5:=List.length_erase_of_mem h4
    have h6:=List.length_pos_of_mem h4
    rw[List.length_cons];omega
variable [Inhabited SlW]
theorem Cm (x y:KD):E1 x y=cfK x y:=rfl
theorem To (w:World):Sat w []:=⟨fun _=>False,rfl⟩
theorem sortL0 {w:World} {v:Value} {l:List KD} {F:Th} (hS:Sat w [rowT kC v l,F]) (hl:l.length<4611686018427387904):Calls prog 128 #[v,.func (.func 91) #[] #[]] w (Ret fun u w'=>u= .tuple #[]∧Sat w' [rowT kC v (QQ l),F]):=
  RD (fun blk off cap ss w hH hb hz=>AnyQ.slices_SortFunc_total Tryz.sortKeys 2 Tryz.isAgg115 Tryz.sizeOf115 kC.enc (fun _=>rfl) (fun x v hv=> by simp [kC]at hv; rcases hv with rfl | rfl<;>rfl) cfK swoK 91 #[] blk off cap ss.toArray w (enters_of func91 (by kernel_rfl) rfl)
    (fun m os dk _ x y=> by
      rw[Array.append_empty]
      exact(cmpL_sp (To _).emp_intro x y).mono fun e w' h=> by
        obtain⟨v,rfl,rfl,h⟩:=h
        exact⟨by rw[Cm],h⟩) hH hb (by simpa using hz) totK)
    (fun p cap w=>AnyF.slices_SortFunc_none Tryz.sortKeys p cap _ w) hS hl
theorem sortP0 {w:World} {v:Value} {l:List KD} {F:Th} (hS:Sat w [rowT kC v l,F]) (hl:l.length<4611686018427387904):Calls prog 128 #[v,.func (.func 133) #[] #[]] w (Ret fun u w'=>u= .tuple #[]∧Sat w' [rowT kC v (QQ l),F]):=
  RD (fun blk off cap ss w hH hb hz=>AnyQ.slices_SortFunc_total Tryz.sortKeys 2 Tryz.isAgg115 Tryz.sizeOf115 kC.enc (fun _=>rfl) (fun x v hv=> by simp [kC]at hv; rcases hv with rfl | rfl<;>rfl) cfK swoK 133 #[] blk off cap ss.toArray w (enters_of func133 (by kernel_rfl) rfl)
    (fun m os dk _ x y=> by
      rw[Array.append_empty]
      exact(cmpI_sp (To _).emp_intro x y).mono fun e w' h=> by
        obtain⟨v,rfl,rfl,h⟩:=h
        exact⟨by rw[Cm],h⟩) hH hb (by simpa using hz) totK)
    (fun p cap w=>AnyF.slices_SortFunc_none Tryz.sortKeys p cap _ w) hS hl
theorem CW {w:World} {g:KD→Option Value} {It F:Th} {gf:Nat} {caps:List Value} (hS:Sat w [It,F]) (hcal:Q8 prog gf=true) (hIt:ItK g gf caps It) (hlen: ∀ks,Came g ks→ks.length≤100000000000):
    Calls prog 89 #[.func (.func gf) #[] caps.toArray,.func (.func 91) #[] #[]] w (Ret fun v w'=> ∃ks,AllC g ks∧Sat w' [rowT kC v (QQ ks),It,F]):= by
 refine Qn func89 U ntmps89 U ?_
 refine Qe (Qa (Qd U U (Qf (Qc (Qe (Qa (Qb U U (Q0 PF U (colK (hS.sp [0] U) hcal hIt hlen) U ?_))))))))
 rintro _ w1 ⟨ks,hks,j1⟩
 replace j1:=j1.jn U U
 have h1v:=j1.own_one 0 U
 have hln:=hlen _ (Came.of_all hks)
 refine Qd U U (Qf (Qc (Qe (Qa (Qb U U (Qb U U (Q0 PE U (sortL0 (j1.sp [0] U) (by omega)) U ?_)))))))
 rintro _ w2 ⟨rfl,j2⟩
 replace j2:=j2.jn U U
 exact Qf (Qc (Qe (Qa (Qb U U (Qd U U (Qf (Qc (Qv (QR (.inr U) U U (⟨_,U,ks,hks,j2⟩))))))))))
theorem CV {w:World} {g:KD→Option Value} {It F:Th} {gf:Nat} {caps:List Value} (hS:Sat w [It,F]) (hcal:Q8 prog gf=true) (hIt:ItK g gf caps It) (hlen: ∀ks,Came g ks→ks.length≤100000000000):
    Calls prog 89 #[.func (.func gf) #[] caps.toArray,.func (.func 133) #[] #[]] w (Ret fun v w'=> ∃ks,AllC g ks∧Sat w' [rowT kC v (QQ ks),It,F]):= by
 refine Qn func89 U ntmps89 U ?_
 refine Qe (Qa (Qd U U (Qf (Qc (Qe (Qa (Qb U U (Q0 PF U (colK (hS.sp [0] U) hcal hIt hlen) U ?_))))))))
 rintro _ w1 ⟨ks,hks,j1⟩
 replace j1:=j1.jn U U
 have h1v:=j1.own_one 0 U
 have hln:=hlen _ (Came.of_all hks)
 refine Qd U U (Qf (Qc (Qe (Qa (Qb U U (Qb U U (Q0 PE U (sortP0 (j1.sp [0] U) (by omega)) U ?_)))))))
 rintro _ w2 ⟨rfl,j2⟩
 replace j2:=j2.jn U U
 exact Qf (Qc (Qe (Qa (Qb U U (Qd U U (Qf (Qc (Qv (QR (.inr U) U U (⟨_,U,ks,hks,j2⟩))))))))))
theorem Bk {w:World} {b:Nat} {g:KD→Option Value} {F:Th} (hS:Sat w [Q6 X0 b g,F]) (hlen: ∀ks,Came g ks→ks.length≤100000000000):
    Calls prog 57 #[.map (some b)] w (Ret fun v w'=> ∃ks,AllC g ks∧Sat w' [rowT kC v (QQ ks),Q6 X0 b g,F]):= by
 refine Qn func57 U ntmps57 U ?_
 refine Qe (Qa (Qd U U (Qf (Qc (Qe (Qa (Qb U U (Q0 cal_90 U (kl_sp (hS.sp [] U) U) U ?_))))))))
 rintro _ w1 ⟨ck,rfl,j1⟩
 replace j1:=j1.jn U U
 have hK:=Sat.fold (As:=[QE ck [.map (some b)],Q6 X0 b g]) (j1.pick [0,1,2] U)
 have hC2:=hK.sp [0] U
 refine Q0 EC U (CW hC2 cal_129 (itkl ck b g) hlen) U ?_
 rintro _ w2 ⟨ks,hks,j2⟩
 replace j2:=j2.jn U U; clear hC2
 clear hK
 refine Qd U U (Qf (Qc (Qv (QR (.inr U) U U ?_))))
 have hz:=(j2.pick [1,0,2] U).flat; dsimp only[RX,RW]at hz
 exact⟨_,U,ks,hks,hz.pick [2,1,3] U⟩
theorem Bj {w:World} {b:Nat} {g:KD→Option Value} {F:Th} (hS:Sat w [Q6 X0 b g,F]) (hlen: ∀ks,Came g ks→ks.length≤100000000000):
    Calls prog 96 #[.map (some b)] w (Ret fun v w'=> ∃ks,AllC g ks∧Sat w' [rowT kC v (QQ ks),Q6 X0 b g,F]):= by
 refine Qn func96 U ntmps96 U ?_
 refine Qe (Qa (Qd U U (Qf (Qc (Qe (Qa (Qb U U (Q0 cal_132 U (kp_sp (hS.sp [] U) U) U ?_))))))))
 rintro _ w1 ⟨ck,rfl,j1⟩
 replace j1:=j1.jn U U
 have hK:=Sat.fold (As:=[QE ck [.map (some b)],Q6 X0 b g]) (j1.pick [0,1,2] U)
 have hC2:=hK.sp [0] U
 refine Q0 EC U (CV hC2 cal_165 (itkp ck b g) hlen) U ?_
 rintro _ w2 ⟨ks,hks,j2⟩
 replace j2:=j2.jn U U; clear hC2
 clear hK
 refine Qd U U (Qf (Qc (Qv (QR (.inr U) U U ?_))))
 have hz:=(j2.pick [1,0,2] U).flat; dsimp only[RX,RW]at hz
 exact⟨_,U,ks,hks,hz.pick [2,1,3] U⟩
end Go.Proofs.YtkgjmhcdacidoaaGreatDoor
namespace Go.Proofs.YtkgjmhcdacidoaaGreatDoor
open Go.RowKit M Proofs.Tryz
variable [Inhabited SlW]
open Classical in
noncomputable def Wv {κ α:Type} (P:κ→Prop) (z:α) (p:κ→α):κ→α:= fun j=> if P j then z else p j
theorem MU {κ α:Type} {z:α} {p:κ→α}:Wv (fun _=>False) z p=p:= by funext j; simp [Wv]
theorem VZ {κ α:Type} {P Q:κ→Prop} {z:α} {p:κ→α} (h: ∀j,P j↔Q j):Wv P z p=Wv Q z p:= by
  have :P=Q:=funext fun j=>propext (h j)
  rw[this]
def inD (l:List KD) (ob:Bs):KD→Prop:= fun j=>j∈l∧j.1=ob
theorem LR {l:List KD} {i:Nat} {k:KD} (hk:l[i]? =some k) {ob:Bs} (h:k.1=ob) (j:KD):inD (l.take (i+1)) ob j↔(j=k∨inD (l.take i) ob j):= by
  unfold inD
  rw[List.take_add_one,hk]
  simp only[Option.toList_some,List.mem_append,List.mem_singleton]
  constructor
  · rintro⟨a | a,b⟩
    · exact .inr ⟨a,b⟩
    · exact .inl a
  · rintro(rfl | ⟨a,b⟩)
    · exact⟨.inr U,h⟩
    · exact⟨.inl a,b⟩
theorem LS {l:List KD} {i:Nat} {k:KD} (hk:l[i]? =some k) {ob:Bs} (h:k.1≠ob) (j:KD):inD (l.take (i+1)) ob j↔inD (l.take i) ob j:= by
  unfold inD
  rw[List.take_add_one,hk]
  simp only[Option.toList_some,List.mem_append,List.mem_singleton]
  constructor
  · rintro⟨a | a,b⟩
    · exact⟨a,b⟩
    · subst a; exact absurd b h
  · rintro⟨a,b⟩; exact⟨.inl a,b⟩
theorem UG {κ α:Type} {P Q:κ→Prop} {z:α} {p:κ→α} {k:κ} (h: ∀j,Q j↔(j=k∨P j)):Wv Q z p=KQ (Wv P z p) k z:= by
  funext j
  by_cases e:j=k
  · subst e; rw[XK];unfold Wv; rw[if_pos ((h j).2 (.inl U))]
  · rw[XT e];unfold Wv
    by_cases q:P j
    · rw[if_pos q,if_pos ((h j).2 (.inr q))]
    · rw[if_neg q,if_neg fun a=>((h j).1 a).elim e q]
theorem St {p:KD→Int} {k:KD} {s:Int}:Wm p k s=KQ p k s:= by
  funext j
  by_cases e:j=k
  · subst e; rw[XK]; simp [Wm]
  · rw[XT e]; simp [Wm,e]
noncomputable def dropP (A:LvA) (ob:Bs):LvA:={A with pres:=Wv (fun j=>j.1=ob) zer A.pres}
open Classical in
noncomputable def ZU (P:KD→Prop) (f:KD→Option LfA):KD→Option LfA:= fun j=> if P j then(f j).map fun x=>NK x zer else f j
noncomputable def U9 (A:LvA) (id:Int) (ob:Bs):LvA:= match A.tr id with | none=>A | some t=>{A with tr:=QO A.tr id (some {t with lv:=ZU (fun j=>j.1=ob) t.lv,dr:=Y0 t.dr ob})}
theorem Nx {f:KD→Option LfA} {ob:Bs}:ZU (inD [] ob) f=f:= by funext j; simp [ZU,inD]
theorem B1 {P Q:KD→Prop} {f:KD→Option LfA} (h: ∀j,f j≠none→(P j↔Q j)):ZU P f=ZU Q f:= by
  funext j
  unfold ZU
  cases q:f j with
  | none=> simp
  | some x=>
    have :=h j (by rw[q]; simp)
    by_cases e:P j
    · rw[if_pos e,if_pos (this.1 e)]
    · rw[if_neg e,if_neg fun a=>e (this.2 a)]
theorem SV {P Q:KD→Prop} {f:KD→Option LfA} {k:KD} {x:LfA} (h: ∀j,Q j↔(j=k∨P j)) (hk:ZU P f k=some x):ZU Q f=QO (ZU P f) k (some (NK x zer)):= by
  funext j
  by_cases e:j=k
  · subst e
    rw[Qu]
    unfold ZU at hk⊢
    rw[if_pos ((h j).2 (.inl U))]
    split at hk
    · cases q:f j with
      | none=> rw[q]at hk; cases hk
      | some y=> rw[q]at hk; simp only[Option.map_some,Option.some.injEq]at hk⊢; subst hk;rfl
    · rw[hk];rfl
  · rw[Qz e]
    unfold ZU
    by_cases q:P j
    · rw[if_pos q,if_pos ((h j).2 (.inr q))]
    · rw[if_neg q,if_neg fun a=>((h j).1 a).elim e q]
theorem Hd {i:Int}: ∀{l:List KD},l.Nodup→(l.map fun k=>(i,k)).Nodup
  | [],_=>List.nodup_nil
  | a::l,h=> by
    rw[List.nodup_cons]at h
    rw[List.map_cons,List.nodup_cons]
    refine⟨fun q=> ?_,Hd h.2⟩
    obtain⟨b,hb,e⟩:=List.mem_map.1 q
    cases e
    exact h.1 hb
theorem SzLe.keysP {L:LvD} {c:Nat} (h:SzLe L c) {ks:List KD} (hc:Came (Z3 L.pres) ks):ks.length≤c:= by
  obtain⟨l,a,b,d⟩:=h
  have :=Wn (Hd (i:=0) hc.nodup) (b:=l) fun x hx=> by
    obtain⟨k,hk,rfl⟩:=List.mem_map.1 hx
    exact b k fun q=>hc.has k hk (by unfold Z3; rw[if_pos q])
  simp at this;omega
theorem SzLe.keysL {L:LvD} {c:Nat} {i:Int} {t:TrD} (h:SzLe L c) (ht:L.tr i=some t) {ks:List KD} (hc:Came (XC LfD.ad t.lv) ks):ks.length≤c:= by
  obtain⟨l,a,b,d⟩:=h
  have :=Wn (Hd (i:=i) hc.nodup) (b:=l) fun x hx=> by
    obtain⟨k,hk,rfl⟩:=List.mem_map.1 hx
    have h1:=hc.has k hk
    cases q:t.lv k with
    | none=> exact absurd (by unfold XC; rw[q];rfl) h1
    | some x=> exact d i t k x ht q
  simp at this;omega
theorem SzLe.subP {L L':LvD} {c:Nat} (h:SzLe L c) (hp: ∀k,L'.pres k≠0→L.pres k≠0) (hT:L'.tr=L.tr):SzLe L' c:= by
  obtain⟨l,a,b,d⟩:=h
  exact⟨l,a, fun k hk=>b k (hp k hk), fun i t k x ht hx=>d i t k x (by rwa [hT]at ht) hx⟩
theorem allP {p:KD→Int} {ks:List KD} (h:AllC (Z3 p) ks) (k:KD):k∈QQ ks↔p k≠0:= by
  rw[(Yg ks).mem_iff,h.mem]
  unfold Z3
  by_cases e:p k=0
  · simp [e]
  · simp [e]
theorem Ae {f:KD→Option LfD} {ks:List KD} (h:AllC (XC LfD.ad f) ks) (k:KD):k∈QQ ks↔f k≠none:= by
  rw[(Yg ks).mem_iff,h.mem]
  unfold XC
  cases f k<;> simp
theorem Hr {ks:List KD} (h:ks.Nodup):(QQ ks).Nodup:=(Yg ks).nodup_iff.2 h
theorem NM {L:LvD} {V:VS} {l:List KD} {ob:Bs} (h0:V 0=none) (hl: ∀k,k∈l↔L.pres k≠0):Wv (inD l ob) zer (QG L V).pres=Wv (fun j=>j.1=ob) zer (QG L V).pres:= by
  funext j
  unfold Wv inD
  by_cases e:j.1=ob
  · by_cases q:j∈l
    · rw[if_pos ⟨q,e⟩,if_pos e]
    · rw[if_neg fun a=>q a.1,if_pos e]
      have :L.pres j=0:=Classical.byContradiction fun a=>q ((hl j).2 a)
      show Zf V (L.pres j)=zer
      rw[this,JO h0]
  · rw[if_neg fun a=>e a.2,if_neg e]
theorem Ep {w:World} {ex:Int→Int} {m:Nat} {b n Fr:Nat} {L:LvD} {V:VS} {F:Th} (hS:Sat w [WU b L,ZT L.sp n Fr V,F]) {c:Nat} (hc:SzLe L c) (hn:n+2*c≤60000000000) (hI:LvX ex m L V) (hx:NN ex) (ob:Bs):
    Calls prog 62 #[ptrV b 0,intV 0,strV ob] w (Ret fun v w'=> ∃L' V',StepX ex m L V ex m 0 0 L' V'∧QG L' V'=dropP (QG L V) ob∧OthK L L' 0 (fun _=>False)∧Sat w' [WU b L',ZT L'.sp (n+2*c) Fr V',F]):= by
 replace hS:=Zb hS
 refine Qn func62 U ntmps62 U ?_
 refine Qe (Qe (Qa (Qb U U (Xc U U U (Qf (Qc (Qt U (fun h1=> ?_) (fun h1=> ?_))))))))
 ·refine Qe (Qe (Qa (Qb U U (Qi U U (Qg U HC U (Qo U VV (by first | assumption | exact hS.cell 0 U U) U ?_))))))
  refine Q0 N9 U (Bj (hS.sp [1] U) (fun ks h=> by have :=hc.keysP h;omega)) U ?_
  rintro _ w2 ⟨ks,hks,j2⟩
  replace j2:=j2.jn U U
  obtain⟨ar,cr,hvr,_⟩:=j2.own_shape 0 rfl; obtain rfl:=hvr
  first | refine XB underlying123 U U ?_ | refine Xo 0 j2 underlying123 U U U ?_
  refine Qb U U (Qf (Qc (Qh [2,1,0,18,19,20] U (Qw ?_))))
  have hz:=Xx (j2.pick [2,1,3,4,5,0,6,7] U)
  have hlk:(QQ ks).length≤c:= by rw[Wz]; exact hc.keysP (Came.of_all hks)
  refine Xe (fun K0 E0 W0=> ∃(i:Nat) (L1:LvD) (V1:VS),K0=(QQ ks).length -i∧E0=[(0,ptrV b 0),(2,strV ob),(18,.slice ar (QQ ks).length cr),(19,intV ((QQ ks).length:Int)),(20,intV (i:Int))]∧Sat W0 [WU b L1,ZT L1.sp (n+i) Fr V1,rowT kC (.slice ar (QQ ks).length cr) (QQ ks),F]∧(i≤(QQ ks).length)∧(LvX ex m L1 V1)∧(L1.sp=L.sp)∧(∀c,AliveLe V c→AliveLe V1 c)∧(Pgs V V1)∧(L1.pres=Wv (inD ((QQ ks).take i) ob) 0 L.pres)∧(L1.tr=L.tr)∧(QG L1 V1={QG L V with pres:=Wv (inD ((QQ ks).take i) ob) zer (QG L V).pres})) (L0:=[(0,_),(2,_),(18,_),(19,_),(20,_)]) ((QQ ks).length) (Ym U U U U U) ⟨0,L,V, by omega,rfl,hz.pick [0,2,1,3] U, by omega,hI,rfl, fun _ q=>q,.refl, by rw[VZ (Q:= fun _=>False) (by simp [inD]),MU],rfl, by rw[VZ (Q:= fun _=>False) (by simp [inD]),MU]⟩ ?_
  rintro _ _ w3 ⟨i,L1,V1,rfl,rfl,j3,hi,hI1,hsp,hal,hpg,hp,hT,hab⟩
  refine Qe (Qa (Xn U U U (Qf (Qc (Qe (Qt U (fun h4=> ?_) (fun h4=> ?_)))))))
  ·obtain⟨k,hk⟩: ∃k,(QQ ks)[i]? =some k:=⟨_,Zd (by omega)⟩
   refine Qs (Qc (Qe (Qw (Qe (Qa (Xg kC 2 i j3 U U U (by first | rfl | omega) hk U8 U ?_))))))
   intro bx5 capx5 hvx5
   refine ZG 2 i j3 U hvx5 U hk X2 Xf U U (Xa j3 WK U U ?_)
   intro kb wk6 hk6
   refine Q9 hk6 U U Xf U (by first | rfl | (simp [QV,Value.oneCell'];done)) (i:=0) U (by first | decide | exact Q7 U) ?_
   intro wk7 hk7; dsimp only[List.set]at hk7
   clear hk6
   replace hk7:=Z4 (k:=k) hk7
   refine Qf (Qc (Qe (Qa (Qg U JZ U (Qo U Yd (by first | assumption | exact hk7.cell 0 U U) U ?_)))))
   refine Qb U U (Hp U U U (Qf (Qc (Qh [20,19,18,2,0,7,27] U (Qt U (fun h8=> ?_) (fun h8=> ?_))))))
   ·have hob:k.1=ob:=h8
    refine Qa (Qb U U ?_)
    refine Wi U X2 Xf (by first | exact hk7.blk 0 U) (by first | decide | exact Q7 U | (simp;done) | omega) U U ?_
    have hC9:=hk7.sp [1,2] U
    refine Q0 PL U (NY hC9 (by omega) k 0) U ?_
    rintro _ w9 ⟨rfl,j9⟩
    replace j9:=j9.jn U U; clear hC9
    clear hk7
    refine Qf (Ql (Qc (Qa (QK U U (by omega) (by omega) U ?_))))
    refine Qb U U (Qf ?_)
    obtain⟨hs1,hs2⟩:=Rh (s:=0) (k:=k) hI1 hx (fun q=>absurd rfl q) (YX V1 L1.sh (L1.pres k))
    have hI2:=hs1.inv.ext (ex':=ex) fun j hj=> by rw[Jb hj];omega
    exact Q5 (L1:=[(0,_),(2,_),(18,_),(19,_),(20,intV ((i+1:Nat):Int))]) (Ym U U U U U) (k1:=(QQ ks).length -(i+1)) (by omega) ⟨i+1,_,_, by omega,rfl,j9.pick [0,1,3,4] U, by omega,hI2,hs1.sp.trans hsp, fun c q=>hs1.al c (hal c q),hpg.trans hs1.pg, by dsimp only; rw[hp,St,UG (LR hk hob)],hT, by rw[hs2,hab,UG (LR hk hob),JO hI1.zero]⟩
   have hob:k.1≠ob:=h8
   refine Qs (Ql (Qc (Qa (QK U U (by omega) (by omega) U ?_))))
   exact Qb U U (Qf (Q5 (L1:=[(0,_),(2,_),(18,_),(19,_),(20,intV ((i+1:Nat):Int))]) (Ym U U U U U) (k1:=(QQ ks).length -(i+1)) (by omega) ⟨i+1,L1,V1, by omega,rfl,(XM (m:=n+(i+1)) (by omega) (hk7.pick [2,1,3,4] U)).reorder [1,0,2,3] U, by omega,hI1,hsp,hal,hpg, by rw[hp,VZ (LS hk hob)],hT, by rw[hab,VZ (LS hk hob)]⟩))
  refine QT (Qq (Qq (Qy (Qc (Qv (Qr (ZP (.inr U) U ?_)))))))
  have hil:i=(QQ ks).length:= by omega
  rw[hil,List.take_length]at hp hab
  exact⟨_,rfl,L1,V1,⟨hI1,hsp, fun c q=>hal c q, fun c q=>q.subP (fun j hj=> by rw[hp]at hj;unfold Wv at hj;split at hj; exact absurd U hj; exact hj) hT,hpg⟩, by rw[hab,NM hI.zero (allP hks)];rfl,Nw (fun j hj=> by rw[hp]at hj;unfold Wv at hj;split at hj; exact absurd U hj; exact hj) hT,(XM (m:=n+2*c) (by omega) (j3.pick [1,0,3] U)).reorder [1,0,2] U⟩
 exact absurd U h1
