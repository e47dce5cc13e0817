/- The shelf's contract of sorting rows of keys (structs of a string and an integer) as a contract of things; a walk that keeps how the world has grown. Conditions: each one's own hypotheses. -/
import Derived.Test.YtkcjfoaejijdoaaGreatDoorLv10
import Derived.Shelf.SlSortCmp.NoneTotal
import Derived.Lib.Bytealg
import Derived.Lib.Small
import Derived.Shelf.SlLaysF0
import Derived.Ground.SlsfProg
import Derived.Test.YtkcjfoaejijdoaaGreatDoorProg
import Derived.Test.YtkcjfoaejijdoaaGreatDoorShelf
import Derived.Test.YtkcjfoaejijdoaaGreatDoorSh10
import Derived.Test.YtkcjfoaejijdoaaGreatDoorLv14
set_option linter.unusedSectionVars false
set_option linter.unusedVariables false
set_option maxRecDepth 100000
set_option maxHeartbeats 80000000000
namespace Go.Proofs.YtkcjfoaejijdoaaGreatDoor.M
open Go.RowKit Go.Sort Proofs.Tryz
def cfK (x y:Bs×Int):Int:= if Lib.compareBytes x.1 y.1≠0 then Lib.compareBytes x.1 y.1 else Lib.compareInt x.2 y.2
def QM (l:List (Bs×Int)):List (Bs×Int):=l.mergeSort fun x y=> !ltOf cfK y x
theorem J9 (l:List (Bs×Int)):(QM l).Perm l:=List.mergeSort_perm _ _
theorem Wd (l:List (Bs×Int)):(QM l).length=l.length:=(J9 l).length_eq
theorem cmpB: ∀a b:Bs,(Lib.compareBytes a b<0↔a<b)∧(Lib.compareBytes a b=0↔a=b)
  | [],[]=> by simp [Lib.compareBytes]
  | [],y::ys=> by simp [Lib.compareBytes]
  | x::xs,[]=> by simp [Lib.compareBytes]
  | x::xs,y::ys=> by
    have ih:=cmpB xs ys
    unfold Lib.compareBytes
    rw[List.cons_lt_cons_iff]
    by_cases h1:x<y
    · have :x≠y:= fun e=> by subst e; exact absurd h1 (UInt8.lt_irrefl _)
      simp [h1,this]
    · by_cases h2:y<x
      · have :x≠y:= fun e=> by subst e; exact absurd h2 (UInt8.lt_irrefl _)
        simp [h1,h2,this]
      · have e:x=y:=UInt8.le_antisymm (UInt8.not_lt.1 h2) (UInt8.not_lt.1 h1)
        subst e
        simp [h1,ih.1,ih.2]
theorem ltK (x y:Bs×Int):ltOf cfK x y=true↔x.1<y.1∨x.1=y.1∧x.2<y.2:= by
  have h:=cmpB x.1 y.1
  unfold ltOf cfK Lib.compareInt
  by_cases e:x.1=y.1
  · rw[if_neg (by simpa using h.2.2 e)]
    have : ¬x.1<y.1:= by rw[e]; exact List.lt_irrefl _
    by_cases a:x.2<y.2
    · simp [a,e]
    · by_cases b:x.2>y.2<;> simp [a,b,e,List.lt_irrefl]
  · rw[if_pos (by simpa using fun q=>e (h.2.1 q))]
    simp [h.1,e]
theorem ltKf (x y:Bs×Int):ltOf cfK x y=false↔ ¬x.1<y.1∧(x.1=y.1→ ¬x.2<y.2):= by
  rw[←Bool.not_eq_true,ltK]
  exact⟨fun h=>⟨fun a=>h (.inl a), fun e a=>h (.inr ⟨e,a⟩)⟩, fun ⟨h1,h2⟩ h=>h.elim h1 fun ⟨e,a⟩=>h2 e a⟩
theorem bs_nlt {a b c:Bs} (h: ¬a<b) (h': ¬b<c): ¬a<c:=List.not_lt.2 (List.le_trans (List.not_lt.1 h') (List.not_lt.1 h))
theorem swoK:SWO (ltOf cfK) where
  irrefl x:= by rw[ltKf]; exact⟨List.lt_irrefl _, fun _=> by omega⟩
  trans x y z h1 h2:= by
    rw[ltK]at *
    rcases h1 with h1 | ⟨e1,h1⟩<;> rcases h2 with h2 | ⟨e2,h2⟩
    · exact .inl (List.lt_trans h1 h2)
    · exact .inl (e2▸h1)
    · exact .inl (e1▸h2)
    · exact .inr ⟨e1.trans e2, by omega⟩
  ntrans x y z h1 h2:= by
    rw[ltKf]at *
    refine⟨bs_nlt h1.1 h2.1, fun e=> ?_⟩
    have h3: ¬z.1<y.1:=e▸h1.1
    have h4:y.1=z.1:=List.le_antisymm (List.not_lt.1 h3) (List.not_lt.1 h2.1)
    have :=h1.2 (e.trans h4.symm)
    have :=h2.2 h4
    omega
theorem totK (x y:Bs×Int) (h1:ltOf cfK x y=false) (h2:ltOf cfK y x=false):x=y:= by
  rw[ltKf]at *
  have e:x.1=y.1:=List.le_antisymm (List.not_lt.1 h2.1) (List.not_lt.1 h1.1)
  exact Prod.ext e (by have :=h1.2 e; have :=h2.2 e.symm;omega)
theorem kC_get (l:List (Bs×Int)): ∀t,t<l.length*2→(kC.cells l)[t]! =(kC.enc l[t/ 2]!)[t%2]! := by
  induction l with
  | nil=> intro t h; simp at h
  | cons a l ih=>
    intro t h
    have e:kC.cells (a::l)=strV a.1::intV a.2::kC.cells l:=rfl
    rw[e]
    match t with
    | 0=>rfl
    | 1=>rfl
    | t+2=>
      have h1:=ih t (by simp at h;omega)
      have h2:(t+2)/ 2=t/ 2+1:= by omega
      have h3:(t+2)%2=t%2:= by omega
      rw[h2,h3]
      simpa using h1
theorem SW (l:List (Bs×Int)):flatK kC.enc 2 l.toArray=(kC.cells l).toArray:= by
  refine ext_get! (by simp [RowC.cells_len];rfl) fun t ht=> ?_
  have ht':t<l.length*2:= by simpa using ht
  rw[get_flatK _ _ _ _ (by simpa using ht')]
  have :=kC_get l t ht'
  simpa using this.symm
theorem CV (d xs sp:List Value) (h:d.length=xs.length):(putCells id 0 d.toArray (xs++sp).toArray)=(d++sp).toArray:= by
  apply Array.ext_getElem?
  intro k
  unfold putCells
  simp only[Array.getElem?_mapIdx,List.getElem?_toArray,Nat.zero_le,true_and,Nat.zero_add,Nat.sub_zero,List.size_toArray]
  by_cases hk:k<d.length
  · rw[List.getElem?_append_left (by simpa [←h]using hk),List.getElem?_append_left (by simpa using hk)]
    simp [hk,h▸hk]
  · rw[List.getElem?_append_right (by omega),List.getElem?_append_right (by omega)]
    have hk': ¬k<xs.length:= by omega
    simp only[h,hk',if_false,Option.map_id']
theorem Bk {P:Program} {f:Nat} {fv:Value}
    (hsome: ∀(blk off cap:Nat) (ss:List (Bs×Int)) (w:World),HoldsK kC.enc 2 w blk off ss.toArray→blk<w.heap.size→ss.length<4611686018427387904→Calls P f #[.slice (some ⟨blk,off,none⟩) ss.length cap,fv] w fun e w'=>e= .returned (.tuple #[])∧ ∃n os,w'=sortWorldK kC.enc 2 w blk off n (QM ss).toArray os)
    (hnone: ∀(p:Option Addr) (cap:Nat) (w:World),Calls P f #[.slice p 0 cap,fv] w fun e w'=>e= .returned (.tuple #[])∧w'=w)
    {w:World} {v:Value} {l:List (Bs×Int)} {As:List Th} (hS:Sat w (rowT kC v l::As)) (hl:l.length<4611686018427387904):Calls P f #[v,fv] w (Ret fun u w'=>u= .tuple #[]∧Sat w' (rowT kC v (QM l)::As)):= by
  obtain⟨foot,hlen,h⟩:=hS.own 0 rfl
  rcases h with⟨rfl,hn,hf⟩ | ⟨b,cap,sp,rfl,hcap,hb,hsz,hf⟩
  · have :l=[]:=List.eq_nil_of_length_eq_zero hn
    subst this
    exact(hnone none 0 w).mono fun e w' ⟨h1,h2⟩=>⟨_,h1,rfl, by rw[h2];simpa [QM]using hS⟩
  · have hH:HoldsK kC.enc 2 w b 0 l.toArray:= fun j hj=> by
      rw[SW]at hj⊢
      have hj':j<(kC.cells l).length:= by simpa using hj
      refine⟨?_, ?_⟩
      · rw[Nat.zero_add]
        refine hb.cell ?_
        rw[List.getElem?_append_left (by simpa using hj')]
        simp [hj']
      · exact hb.free _ (by simp;omega)
    refine(hsome b 0 cap l w hH hb.lt hl).mono fun e w' ⟨h1,n,os,h2⟩=>⟨_,h1,rfl, ?_⟩
    have hlt:=hb.lt
    have hcl:(kC.cells (QM l)).length=(kC.cells l).length:= by rw[RowC.cells_len,RowC.cells_len,Wd]
    unfold sortWorldK putRowK at h2
    rw[SW]at h2
    have hheap: ∀k,k<w.heap.size→k≠b→w'.heap[k]? =w.heap[k]? := fun k hk hne=> by
      rw[h2,heap_grow_old _ _ (by simpa using hk)]
      simp only[putRow,mapBlock,heap_ahead,Array.getElem?_modify]
      rw[if_neg (fun q=>hne q.symm)]
    obtain⟨T,lo,hi,hc,hfz⟩:=hb
    have hnew:w'.heap[b]? =some (.cells (kC.cells (QM l)++sp).toArray T (lo,hi)):= by
      rw[h2,heap_grow_old _ _ (by simpa using hlt)]
      simp only[putRow,mapBlock,heap_ahead,Array.getElem?_modify,if_pos,hc,Option.map_some,onCells]
      rw[CV _ _ _ hcl]
    have ho:Only [b] w w':= by
      refine⟨?_, ?_, ?_, ?_, fun k hk hn=>hheap k hk (by simpa using hn)⟩
      · rw[h2];rfl
      · rw[h2];rfl
      · rw[h2];rfl
      · rw[h2]; simp
    have hfin:=hS.own_set (w':=w') 0 U (v':= .slice (some ⟨b,0,none⟩) l.length cap) (n':=l.length) (size':=2) (xs':=kC.cells (QM l)) (fun foot' g=> by
      obtain⟨_,g⟩:=g
      rcases g with⟨g0,_⟩ | ⟨b',cap',sp',g0,g1,g2,g3,g4⟩
      · cases g0
      · simp only[Value.slice.injEq,Option.some.injEq,Addr.mk.injEq,and_true,true_and]at g0
        obtain⟨rfl,rfl⟩:=g0
        refine⟨[b],⟨?_,.inr ⟨b,cap,sp,U,hcap,⟨T,lo,hi, ?_, ?_⟩, ?_,U⟩⟩, ?_, ?_⟩
        · rw[kC.cells_len,Wd];rfl
        · exact hnew
        · rcases hfz with q | q
          · exact .inl q
          · refine .inr ?_
            simp only[List.length_append,kC.cells_len,Wd]at q⊢; exact q
        · simp only[List.length_append,kC.cells_len,Wd]at hsz⊢; exact hsz
        · rw[g4]; exact ho
        · rw[g4]; intro k hk; exact .inl hk)
    have e:(QM l).length=l.length:=Wd l
    show Sat w' (Jc _ (QM l).length 2 _::As)
    rw[e]; exact hfin
end Go.Proofs.YtkcjfoaejijdoaaGreatDoor.M
namespace Go.Proofs
open Proofs.Tryz
open Go.Shelf
def Tryz.sortKeys_ren:Go.Shelf.Ren:=⟨fun | 6=>162 | 15=>168 | 14=>190 | 28=>201 | 29=>202 | 20=>224 | 21=>225 | 22=>226 | 23=>227 | 24=>228 | 25=>229 | 26=>230 | 27=>231 | 46=>245 | 47=>233 | 48=>234 | 49=>246 | 50=>247 | 57=>255 | n=>n, fun | 22=>98 | 24=>76 | 25=>178 | 3=>3 | 39=>31 | 0=>0 | 53=>252 | 55=>22 | 4=>4 | 46=>245 | 45=>244 | 50=>63 | 5=>5 | 9=>9 | 66=>274 | 70=>132 | 76=>285 | 77=>286 | n=>n, fun | n=>n⟩
theorem Tryz.sortKeys:Go.Proofs.SlLaysF0.n6 prog Tryz.sortKeys_ren:={
  mixed:= by kernel_rfl
  f6:=⟨Tryz.f162.name, by decide,func162.trans (congrArg some (by kernel_rfl))⟩
  f14:=⟨Tryz.f190.name, by decide,func190.trans (congrArg some (by kernel_rfl))⟩
  f15:=func168.trans (congrArg some (by kernel_rfl))
  f20:=⟨Tryz.f224.name, by decide,func224.trans (congrArg some (by kernel_rfl))⟩
  f21:=⟨Tryz.f225.name, by decide,func225.trans (congrArg some (by kernel_rfl))⟩
  f22:=⟨Tryz.f226.name, by decide,func226.trans (congrArg some (by kernel_rfl))⟩
  f23:=⟨Tryz.f227.name, by decide,func227.trans (congrArg some (by kernel_rfl))⟩
  f24:=⟨Tryz.f228.name, by decide,func228.trans (congrArg some (by kernel_rfl))⟩
  f25:=⟨Tryz.f229.name, by decide,func229.trans (congrArg some (by kernel_rfl))⟩
  f26:=⟨Tryz.f230.name, by decide,func230.trans (congrArg some (by kernel_rfl))⟩
  f27:=⟨Tryz.f231.name, by decide,func231.trans (congrArg some (by kernel_rfl))⟩
  f28:=func201.trans (congrArg some (by kernel_rfl))
  f29:=func202.trans (congrArg some (by kernel_rfl))
  f46:=⟨Tryz.f245.name, by decide,func245.trans (congrArg some (by kernel_rfl))⟩
  f47:=func233.trans (congrArg some (by kernel_rfl))
  f48:=func234.trans (congrArg some (by kernel_rfl))
  f49:=⟨Tryz.f246.name, by decide,func246.trans (congrArg some (by kernel_rfl))⟩
  f50:=⟨Tryz.f247.name, by decide,func247.trans (congrArg some (by kernel_rfl))⟩
  f57:=⟨Tryz.f255.name, by decide,func255.trans (congrArg some (by kernel_rfl))⟩
  t0:=underlying0
  a0:=Tryz.isAgg0
  z0:=Tryz.sizeOf0
  v0:=Tryz.zeroValue0
  t3:=underlying3
  a3:=Tryz.isAgg3
  z3:=Tryz.sizeOf3
  v3:=Tryz.zeroValue3
  t4:=underlying4
  a4:=Tryz.isAgg4
  z4:=Tryz.sizeOf4
  v4:=Tryz.zeroValue4
  t5:=underlying5
  a5:=Tryz.isAgg5
  z5:=Tryz.sizeOf5
  v5:=Tryz.zeroValue5
  t9:=underlying9
  a9:=Tryz.isAgg9
  z9:=Tryz.sizeOf9
  v9:=Tryz.zeroValue9
  t22:=underlying98
  a22:=Tryz.isAgg98
  z22:=Tryz.sizeOf98
  v22:=Tryz.zeroValue98
  t25:=underlying178
  a25:=Tryz.isAgg178
  z25:=Tryz.sizeOf178
  v25:=Tryz.zeroValue178
  t39:=underlying31
  a39:=Tryz.isAgg31
  z39:=Tryz.sizeOf31
  v39:=Tryz.zeroValue31
  t45:=underlying244
  a45:=Tryz.isAgg244
  z45:=Tryz.sizeOf244
  v45:=Tryz.zeroValue244
  t46:=underlying245
  a46:=Tryz.isAgg245
  z46:=Tryz.sizeOf245
  v46:=Tryz.zeroValue245
  t50:=underlying63
  a50:=Tryz.isAgg63
  z50:=Tryz.sizeOf63
  v50:=Tryz.zeroValue63
  t53:=underlying252
  a53:=Tryz.isAgg252
  z53:=Tryz.sizeOf252
  v53:=Tryz.zeroValue252
  t55:=underlying22
  a55:=Tryz.isAgg22
  z55:=Tryz.sizeOf22
  v55:=Tryz.zeroValue22
  t66:=underlying274
  a66:=Tryz.isAgg274
  z66:=Tryz.sizeOf274
  v66:=Tryz.zeroValue274
  t70:=underlying132
  a70:=Tryz.isAgg132
  z70:=Tryz.sizeOf132
  v70:=Tryz.zeroValue132
  t76:=underlying285
  a76:=Tryz.isAgg285
  z76:=Tryz.sizeOf285
  v76:=Tryz.zeroValue285
  t77:=underlying286
  a77:=Tryz.isAgg286
  z77:=Tryz.sizeOf286
  v77:=Tryz.zeroValue286}
end Go.Proofs
namespace Go.Proofs.YtkcjfoaejijdoaaGreatDoor
open Go.RowKit M Proofs.Tryz
theorem OH {w:World} {l c b:Nat} {g:Int→Option Value} {J:List Int→Th} {F:Th} (hS:Sat w [J [],Q8 c [.map (some b)],Q5 QN b g,F]) (hY:H2 prog l QN (okC g) J):
    Calls prog 123 #[.func (.yield l) #[] #[],ptrV c 0] w (Ret fun v w'=> ∃ks,AllC g ks∧Sat w' [J ks,Q8 c [.map (some b)],Q5 QN b g,F]):= by
 refine Qm func123 U ntmps123 U ?_
 refine Qd (Qa (Qr U Zs (hS.cell 1 U U) U (ZN 2 hS underlying108 U U U ?_)))
 intro RR left0 wR hSR; dsimp only[List.set]at hSR
 refine Qf (Qc (Qw (Xg (fun K0 E0 W0=> ∃(dn:Int→Prop) (cur:Option Int) (left:Nat) (ks:List Int),K0=1*left∧E0=[(0,.func (.yield l) #[] #[]),(5,ptrV RR 0)]∧Sat W0 [J ks,ZS QN b RR g dn cur left,Q8 c [.map (some b)],F]∧(CSt g dn ks)) (L0:=[(0,_),(5,_)]) (1*left0) (Bo U U) ⟨_,_,_,_,rfl,rfl,hSR.reorder [0,2,1,3] U,CSt.start g⟩ ?_)))
 rintro _ _ w1 ⟨dn,cur,left,ks,rfl,rfl,j1,hcs⟩
 refine Qd (Qa (Wp 1 j1 keysInt.inj U U U (fun hdone=> ?_) (fun k v left2 w2 hleft hgk hnd j2=> ?_)))
 ·refine Qn U U U (Qf (Qc (Qd (QR U (QU (Qq (Qq (Qx (ZU (.inl U) U ?_)))))))))
  exact⟨_,rfl,ks,hcs.all hdone, by have hSz:=ZA (j1.reorder [1,0,2,3] U); exact hSz.reorder [1,2,0,3] U⟩
 dsimp only[List.set]at j2
 refine Qn U U U (Qf (Qc (Qd (Xd U (Qs (Qc (Qw (Qd (Qa (ZP 1 j2 U hgk U U (Qn U U U (Qe U U (Qf (Qc (Qd (Jg (XE U (Xl U) (XE U (Xl U) (H6 U U U (hY _ _ _ _ (hcs.ok hnd hgk) (j2.sp [0] U)) ?_)))))))))))))))))))
 intro w5 j5; replace j5:=j5.jn U U
 refine XE U (HO U) (Hr (Qc (Qh [5,0,13] U (QR U (Qs (Qk ?_))))))
 have hSz:=j5.reorder [0,1,2,3] U; dsimp only[HI,Vq]at hSz
 exact Q3 (L1:=[(0,_),(5,_)]) (Bo U U) (k1:=1*left2) (by omega) ⟨_,_,_,_,rfl,rfl,hSz,hcs.step hnd hgk⟩
theorem OG {w:World} {v0:Value} {F:Th} (hS:Sat w [F]) (h0:v0.oneCell'=true):
    Calls prog 69 #[v0] w (Ret fun v w'=> ∃c,v= .func (.func 123) #[] #[ptrV c 0]∧Sat w' [Q8 c v0.cells.toList,F]):= by
 refine Qm func69 U ntmps69 U ?_
 refine Qd (Qa (XR hS U U U ?_))
 intro b1 w1 j1
 exact Qe U U (Qf (Qc (Qd (Qa (Z7 U U (Qe U U (Qf (Qc (Qu (QY (.inr U) U U (⟨_,U,_,U,j1⟩)))))))))))
theorem sortI0 {w:World} {v:Value} {l:List Int} {F:Th} (hS:Sat w [rowT inC v l,F]) (hl:l.length<4611686018427387904):Calls prog 122 #[v] w (Ret fun u w'=>u= .tuple #[]∧Sat w' [rowT inC v (ZL l),F]):=NP Tryz.slices_Sort_int Tryz.slices_Sort_int_none hS hl
def ItI (g:Int→Option Value) (gf:Nat) (caps:List Value) (It:Th):Prop:= ∀(l:Nat) (J:List Int→Th) (X:Th) (w:World),Sat w [J [],It,X]→H2 prog l QN (okC g) J→Calls prog gf (.func (.yield l) #[] #[]::caps).toArray w (Ret fun _ w'=> ∃ks,AllC g ks∧Sat w' [J ks,It,X])
def JI (l D b:Nat) (rec:Loop) (ks:List Int):Th:=Cw fun v:Value=>starL [J3 l rec,W3 D,Q8 b [v],rowT inC v ks]
theorem appI {w:World} {g:Int→Option Value} {It F:Th} {gf:Nat} {caps:List Value} (hS:Sat w [It,F]) (hcal:QI prog gf=true) (hIt:ItI g gf caps It) (hlen: ∀ks,Came g ks→ks.length≤100000000000):
    Calls prog 173 [.slice none 0 0,.func (.func gf) #[] caps.toArray].toArray w (Ret fun v w'=> ∃ks,AllC g ks∧Sat w' [rowT inC v ks,It,F]):= by
 refine Hz func173 U ntmps173 U ?_
 refine Qd (Qa (XR hS U U U ?_))
 intro b1 w1 j1
 refine Qe U U (Qf (Qc (Qd (Qd (Qa (Qb U U (Qf (Qc (Qw (Hs (caps:=caps) U hcal ?_))))))))))
 intro rec hr1 hr2 hr3 hr4 hr5 htn htf
 have hE:=((j1.enter_loop rec).row_nil inC)
 have hE2:=hE.sp [1,2,3,0] U
 have hJ0:=Sat.ex_intro (f:= fun v:Value=>starL [J3 _ _,W3 _,Q8 _ [v],rowT inC v []]) _ (Sat.fold (As:=[J3 _ _,W3 _,Q8 _ [_],rowT inC _ []]) hE2)
 refine(hIt _ (JI _ _ _ _) _ _ (hJ0.join U) ?_).mono ?_
 ·intro ks k R w2 hok hw2
  obtain⟨v,hw3⟩:=hw2.ex
  have hw4:=hw3.flat; dsimp only[Gl,Gk]at hw4
  have hl1:=hlen _ hok
  simp only[List.length_append,List.length_cons,List.length_nil]at hl1
  refine BP (hw4.loop 0 rfl) hr1 hr2 hr3 hr4 hr5 htn htf rfl (by intro o ho c; simp at ho; subst ho; simp) (by intro o ho c; simp at ho; rcases ho with rfl | rfl | rfl | rfl | rfl<;> simp) ?_
  intro QA hA
  refine Qe U U (Qf (hA _ _ (hw4.loop 0 U) ?_))
  intro QB hB
  have h1v:v.oneCell'=true:=hw4.own_one 3 U
  have hw5:=hw4.loop_put 0 U (rec':={rec with state:= .busy}); dsimp only[List.set]at hw5
  refine Qr U J5 (hw5.cell 2 U U) U (Qb U U (XU inC [k] hw5 U underlying47 Uu U U U U (by rfl) rfl ?_))
  intro b3 w3 hw6
  refine ZH inC 4 hw6 U U U (hw6.rd 0 U (by simp)) underlying47 underlying47 (by intro k hk; cases hk) UX U (by simp;omega) U (by simp;omega) ?_
  intro v4 w4 hw7; dsimp only[List.set]at hw7
  have h1v4:v4.oneCell'=true:=hw7.own_one 4 U
  refine QV hw7 U U Vf h1v4 (i:=3) U (by simp) ?_
  intro w5 hw8; dsimp only[List.set]at hw8
  refine Qf (hB _ _ (hw8.loop 1 U) ?_)
  have hw9:=hw8.loop_put 1 U (rec':=rec); dsimp only[List.set]at hw9
  exact(Sat.ex_intro (f:= fun v:Value=>starL [J3 _ _,W3 _,Q8 _ [v],rowT inC v (ks++[k])]) v4 (Sat.fold (As:=[J3 _ _,W3 _,Q8 _ [_],rowT inC _ _]) (hw9.pick [1,2,3,4,5] U)))
 ·rintro e w3 ⟨v0,rfl,ks,hall,hw3⟩
  obtain⟨v,hw4⟩:=hw3.ex
  have hw5:=hw4.flat; dsimp only[Gl,Gk]at hw5
  refine⟨⟨v0,rfl⟩,rec,hw5.loop 0 U, by rw[hr1]; simp,hr2, ?_⟩
  intro a ha1 ha2
  have hw6:=hw5.loop_put 0 U (rec':={rec with state:= .exhausted}); dsimp only[List.set]at hw6
  obtain⟨hD,hw7⟩:=hw6.defer_put (o:= .deferred none) 1 rfl
  dsimp only[List.eraseIdx]at hw7
  refine Db (n:=13) (by rw[ha1]; exact htn) (by rw[ha1]; exact htf) ha2 U J5 (hw6.cell 2 U U) hD U U U ?_
  exact⟨_,U,ks,hall,hw7.pick [2,3,4] U⟩
def TD (c b:Nat) (g:Int→Option Value):Th:=starL [Q8 c [.map (some b)],Q5 QN b g]
theorem itI (c b:Nat) (g:Int→Option Value):ItI g 123 [ptrV c 0] (TD c b g):= fun l J X w hS hY=> by
  have h1:=(hS.perm (List.Perm.swap _ _ _)).flat; dsimp only[Gl,Gk]at h1
  refine(OH (h1.reorder [2,0,1,3] U) hY).mono fun e w' h=>h.mono fun v w' ⟨ks,h2,h3⟩=>⟨ks,h2, ?_⟩
  exact(Sat.fold (As:=[Q8 c [.map (some b)],Q5 QN b g]) (h3.reorder [1,2,0,3] U)).perm (List.Perm.swap _ _ _)
theorem Came.of_all {κ:Type} {g:κ→Option Value} {ks:List κ} (h:AllC g ks):Came g ks:=⟨h.nodup, fun k hk=>(h.mem k).1 hk⟩
theorem colI {w:World} {g:Int→Option Value} {It F:Th} {gf:Nat} {caps:List Value} (hS:Sat w [It,F]) (hcal:QI prog gf=true) (hIt:ItI g gf caps It) (hlen: ∀ks,Came g ks→ks.length≤100000000000):
    Calls prog 121 #[.func (.func gf) #[] caps.toArray] w (Ret fun v w'=> ∃ks,AllC g ks∧Sat w' [rowT inC v ks,It,F]):= by
 refine Qm func121 U ntmps121 U ?_
 refine Qd (Qa (Qe U U (Qf (Qc (Qd (Qa (Qb U U (Qv cal_173 U (appI (hS.sp [0] U) hcal hIt hlen) U ?_))))))))
 rintro _ w1 ⟨ks,hks,j1⟩
 replace j1:=j1.jn U U
 have h1v:=j1.own_one 0 U
 exact Qe U U (Qf (Qc (Qu (QY (.inr U) U U (⟨_,U,ks,hks,j1⟩)))))
theorem HG {w:World} {g:Int→Option Value} {It F:Th} {gf:Nat} {caps:List Value} (hS:Sat w [It,F]) (hcal:QI prog gf=true) (hIt:ItI g gf caps It) (hlen: ∀ks,Came g ks→ks.length≤100000000000):
    Calls prog 68 #[.func (.func gf) #[] caps.toArray] w (Ret fun v w'=> ∃ks,AllC g ks∧Sat w' [rowT inC v (ZL ks),It,F]):= by
 refine Qm func68 U ntmps68 U ?_
 refine Qd (Qa (Qe U U (Qf (Qc (Qd (Qa (Qb U U (Qv cal_121 U (colI (hS.sp [0] U) hcal hIt hlen) U ?_))))))))
 rintro _ w1 ⟨ks,hks,j1⟩
 replace j1:=j1.jn U U
 have h1v:=j1.own_one 0 U
 have hln:=hlen _ (Came.of_all hks)
 refine Qe U U (Qf (Qc (Qd (Qa (Qb U U (Qv cal_122 U (sortI0 (j1.sp [0] U) (by omega)) U ?_))))))
 rintro _ w2 ⟨rfl,j2⟩
 replace j2:=j2.jn U U
 exact Qf (Qc (Qd (Qa (Qb U U (Qe U U (Qf (Qc (Qu (QY (.inr U) U U (⟨_,U,ks,hks,j2⟩))))))))))
theorem R5: ∀{l m:List Int},l.Nodup→(∀x∈l,x∈m)→l.length≤m.length
  | [],_,_,_=>Nat.zero_le _
  | a::l,m,hn,hs=> by
    obtain⟨h1,h2⟩:=List.nodup_cons.1 hn
    have h3:=R5 (l:=l) (m:=m.erase a) h2 fun x hx=>(List.mem_erase_of_ne (fun q=>h1 (by rw[←q]; exact hx))).2 (hs x (List.mem_cons_of_mem _ hx))
    have h4:=hs a (by simp)
    have h5:=List.length_erase_of_mem h4
    have h6:=List.length_pos_of_mem h4
    rw[List.length_cons];omega
theorem Lt {w:World} {p:Nat} {S:SS} {F:Th} (hS:Sat w [Yr p S,F]) {ids:List Int} (hd: ∀j,S.all j≠none→j∈ids) (hl:ids.length≤100000000000):
    Calls prog 21 #[ptrV p 0] w (Ret fun v w'=> ∃ks,AllC (aG S.all) ks∧Sat w' [rowT inC v (ZL ks),Yr p S,F]):= by
 have hlen: ∀ks:List Int,Came (aG S.all) ks→ks.length≤100000000000:= fun ks hk=>Nat.le_trans (R5 hk.nodup fun x hx=>hd x fun q=>hk.has x hx (by unfold aG; rw[q];rfl)) hl
 obtain⟨ba,bi,fp,sp,kp,ac,cc,at2,ct,hS⟩:=Zf hS
 refine Qm func21 U ntmps21 U ?_
 refine Qd (Qa (Qe U U (Qf (Qc (Qd (Qa (Qb U U (Qj U U (Qg U XI U (Qr U Zs (hS.cell 0 U U) U (Qv Sj U (OG (hS.sp [] U) U) U ?_)))))))))))
 rintro _ w1 ⟨ck,rfl,j1⟩
 replace j1:=j1.jn U U
 have hK:=Sat.fold (As:=[Q8 ck [.map (some ba)],Q5 QN ba (aG S.all)]) (j1.pick [0,2,1,3,4,5,6,7,8,9] U)
 have hC2:=hK.sp [0] U
 refine Qv DX U (HG hC2 cal_123 (itI ck ba (aG S.all)) hlen) U ?_
 rintro _ w2 ⟨ks,hks,j2⟩
 replace j2:=j2.jn U U; clear hC2
 clear hK
 refine Qe U U (Qf (Qc (Qu (QY (.inr U) U U ?_))))
 have hz:=(j2.pick [1,0,2,3,4,5,6,7,8,9] U).flat; dsimp only[TD,Gl,Gk]at hz
 exact⟨_,U,ks,hks,(Xh (S:=S) (hz.pick [3,1,4,5,6,7,8,9,2,10] U)).reorder [1,0,2] U⟩
variable [Inhabited SlW]
theorem NJ (x y:KD):I3 x y=cfK x y:=rfl
theorem CO (w:World):Sat w []:=⟨fun _=>False,rfl⟩
theorem sortL0 {w:World} {v:Value} {l:List KD} {F:Th} (hS:Sat w [rowT kC v l,F]) (hl:l.length<4611686018427387904):Calls prog 162 #[v,.func (.func 111) #[] #[]] w (Ret fun u w'=>u= .tuple #[]∧Sat w' [rowT kC v (QM l),F]):=
  Bk (fun blk off cap ss w hH hb hz=>AnyQ.slices_SortFunc_total Tryz.sortKeys 2 Tryz.isAgg76 Tryz.sizeOf76 kC.enc (fun _=>rfl) (fun x v hv=> by simp [kC]at hv; rcases hv with rfl | rfl<;>rfl) cfK swoK 111 #[] blk off cap ss.toArray w (enters_of func111 (by kernel_rfl) rfl)
    (fun m os dk _ x y=> by
      rw[Array.append_empty]
      exact(cmpL_sp (CO _).emp_intro x y).mono fun e w' h=> by
        obtain⟨v,rfl,rfl,h⟩:=h
        exact⟨by rw[NJ],h⟩) hH hb (by simpa using hz) totK)
    (fun p cap w=>AnyF.slices_SortFunc_none Tryz.sortKeys p cap _ w) hS hl
theorem sortP0 {w:World} {v:Value} {l:List KD} {F:Th} (hS:Sat w [rowT kC v l,F]) (hl:l.length<4611686018427387904):Calls prog 162 #[v,.func (.func 126) #[] #[]] w (Ret fun u w'=>u= .tuple #[]∧Sat w' [rowT kC v (QM l),F]):=
  Bk (fun blk off cap ss w hH hb hz=>AnyQ.slices_SortFunc_total Tryz.sortKeys 2 Tryz.isAgg76 Tryz.sizeOf76 kC.enc (fun _=>rfl) (fun x v hv=> by simp [kC]at hv; rcases hv with rfl | rfl<;>rfl) cfK swoK 126 #[] blk off cap ss.toArray w (enters_of func126 (by kernel_rfl) rfl)
    (fun m os dk _ x y=> by
      rw[Array.append_empty]
      exact(cmpI_sp (CO _).emp_intro x y).mono fun e w' h=> by
        obtain⟨v,rfl,rfl,h⟩:=h
        exact⟨by rw[NJ],h⟩) hH hb (by simpa using hz) totK)
    (fun p cap w=>AnyF.slices_SortFunc_none Tryz.sortKeys p cap _ w) hS hl
theorem Px {w:World} {g:KD→Option Value} {It F:Th} {gf:Nat} {caps:List Value} (hS:Sat w [It,F]) (hcal:QI prog gf=true) (hIt:ItK g gf caps It) (hlen: ∀ks,Came g ks→ks.length≤100000000000):
    Calls prog 109 #[.func (.func gf) #[] caps.toArray,.func (.func 111) #[] #[]] w (Ret fun v w'=> ∃ks,AllC g ks∧Sat w' [rowT kC v (QM ks),It,F]):= by
 refine Qm func109 U ntmps109 U ?_
 refine Qd (Qa (Qe U U (Qf (Qc (Qd (Qa (Qb U U (Qv Fz U (colK (hS.sp [0] U) hcal hIt hlen) U ?_))))))))
 rintro _ w1 ⟨ks,hks,j1⟩
 replace j1:=j1.jn U U
 have h1v:=j1.own_one 0 U
 have hln:=hlen _ (Came.of_all hks)
 refine Qe U U (Qf (Qc (Qd (Qa (Qb U U (Qb U U (Qv Fy U (sortL0 (j1.sp [0] U) (by omega)) U ?_)))))))
 rintro _ w2 ⟨rfl,j2⟩
 replace j2:=j2.jn U U
 exact Qf (Qc (Qd (Qa (Qb U U (Qe U U (Qf (Qc (Qu (QY (.inr U) U U (⟨_,U,ks,hks,j2⟩))))))))))
theorem Pw {w:World} {g:KD→Option Value} {It F:Th} {gf:Nat} {caps:List Value} (hS:Sat w [It,F]) (hcal:QI prog gf=true) (hIt:ItK g gf caps It) (hlen: ∀ks,Came g ks→ks.length≤100000000000):
    Calls prog 109 #[.func (.func gf) #[] caps.toArray,.func (.func 126) #[] #[]] w (Ret fun v w'=> ∃ks,AllC g ks∧Sat w' [rowT kC v (QM ks),It,F]):= by
 refine Qm func109 U ntmps109 U ?_
 refine Qd (Qa (Qe U U (Qf (Qc (Qd (Qa (Qb U U (Qv Fz U (colK (hS.sp [0] U) hcal hIt hlen) U ?_))))))))
 rintro _ w1 ⟨ks,hks,j1⟩
 replace j1:=j1.jn U U
 have h1v:=j1.own_one 0 U
 have hln:=hlen _ (Came.of_all hks)
 refine Qe U U (Qf (Qc (Qd (Qa (Qb U U (Qb U U (Qv Fy U (sortP0 (j1.sp [0] U) (by omega)) U ?_)))))))
 rintro _ w2 ⟨rfl,j2⟩
 replace j2:=j2.jn U U
 exact Qf (Qc (Qd (Qa (Qb U U (Qe U U (Qf (Qc (Qu (QY (.inr U) U U (⟨_,U,ks,hks,j2⟩))))))))))
theorem R9 {w:World} {b:Nat} {g:KD→Option Value} {F:Th} (hS:Sat w [Q5 Xr b g,F]) (hlen: ∀ks,Came g ks→ks.length≤100000000000):
    Calls prog 49 #[.map (some b)] w (Ret fun v w'=> ∃ks,AllC g ks∧Sat w' [rowT kC v (QM ks),Q5 Xr b g,F]):= by
 refine Qm func49 U ntmps49 U ?_
 refine Qd (Qa (Qe U U (Qf (Qc (Qd (Qa (Qb U U (Qv cal_110 U (kl_sp (hS.sp [] U) U) U ?_))))))))
 rintro _ w1 ⟨ck,rfl,j1⟩
 replace j1:=j1.jn U U
 have hK:=Sat.fold (As:=[Q8 ck [.map (some b)],Q5 Xr b g]) (j1.pick [0,1,2] U)
 have hC2:=hK.sp [0] U
 refine Qv FE U (Px hC2 cal_163 (itkl ck b g) hlen) U ?_
 rintro _ w2 ⟨ks,hks,j2⟩
 replace j2:=j2.jn U U; clear hC2
 clear hK
 refine Qe U U (Qf (Qc (Qu (QY (.inr U) U U ?_))))
 have hz:=(j2.pick [1,0,2] U).flat; dsimp only[Gl,Gk]at hz
 exact⟨_,U,ks,hks,hz.pick [2,1,3] U⟩
theorem R8 {w:World} {b:Nat} {g:KD→Option Value} {F:Th} (hS:Sat w [Q5 Xr b g,F]) (hlen: ∀ks,Came g ks→ks.length≤100000000000):
    Calls prog 71 #[.map (some b)] w (Ret fun v w'=> ∃ks,AllC g ks∧Sat w' [rowT kC v (QM ks),Q5 Xr b g,F]):= by
 refine Qm func71 U ntmps71 U ?_
 refine Qd (Qa (Qe U U (Qf (Qc (Qd (Qa (Qb U U (Qv cal_125 U (kp_sp (hS.sp [] U) U) U ?_))))))))
 rintro _ w1 ⟨ck,rfl,j1⟩
 replace j1:=j1.jn U U
 have hK:=Sat.fold (As:=[Q8 ck [.map (some b)],Q5 Xr b g]) (j1.pick [0,1,2] U)
 have hC2:=hK.sp [0] U
 refine Qv FE U (Pw hC2 cal_175 (itkp ck b g) hlen) U ?_
 rintro _ w2 ⟨ks,hks,j2⟩
 replace j2:=j2.jn U U; clear hC2
 clear hK
 refine Qe U U (Qf (Qc (Qu (QY (.inr U) U U ?_))))
 have hz:=(j2.pick [1,0,2] U).flat; dsimp only[Gl,Gk]at hz
 exact⟨_,U,ks,hks,hz.pick [2,1,3] U⟩
end Go.Proofs.YtkcjfoaejijdoaaGreatDoor
namespace Go.Proofs.YtkcjfoaejijdoaaGreatDoor
open Go.RowKit M Proofs.Tryz
variable [Inhabited SlW]
open Classical in
noncomputable def WE {κ α:Type} (P:κ→Prop) (z:α) (p:κ→α):κ→α:= fun j=> if P j then z else p j
theorem Cx {κ α:Type} {z:α} {p:κ→α}:WE (fun _=>False) z p=p:= by funext j; simp [WE]
theorem Rf {κ α:Type} {P Q:κ→Prop} {z:α} {p:κ→α} (h: ∀j,P j↔Q j):WE P z p=WE Q z p:= by
  have :P=Q:=funext fun j=>propext (h j)
  rw[this]
def inD (l:List KD) (ob:Bs):KD→Prop:= fun j=>j∈l∧j.1=ob
theorem OL {l:List KD} {i:Nat} {k:KD} (hk:l[i]? =some k) {ob:Bs} (h:k.1=ob) (j:KD):inD (l.take (i+1)) ob j↔(j=k∨inD (l.take i) ob j):= by
  unfold inD
  rw[List.take_add_one,hk]
  simp only[Option.toList_some,List.mem_append,List.mem_singleton]
  constructor
  · rintro⟨a | a,b⟩
    · exact .inr ⟨a,b⟩
    · exact .inl a
  · rintro(rfl | ⟨a,b⟩)
    · exact⟨.inr U,h⟩
    · exact⟨.inl a,b⟩
theorem OM {l:List KD} {i:Nat} {k:KD} (hk:l[i]? =some k) {ob:Bs} (h:k.1≠ob) (j:KD):inD (l.take (i+1)) ob j↔inD (l.take i) ob j:= by
  unfold inD
  rw[List.take_add_one,hk]
  simp only[Option.toList_some,List.mem_append,List.mem_singleton]
  constructor
  · rintro⟨a | a,b⟩
    · exact⟨a,b⟩
    · subst a; exact absurd b h
  · rintro⟨a,b⟩; exact⟨.inl a,b⟩
theorem V9 {κ α:Type} {P Q:κ→Prop} {z:α} {p:κ→α} {k:κ} (h: ∀j,Q j↔(j=k∨P j)):WE Q z p=UV (WE P z p) k z:= by
  funext j
  by_cases e:j=k
  · subst e; rw[XF];unfold WE; rw[if_pos ((h j).2 (.inl U))]
  · rw[XQ e];unfold WE
    by_cases q:P j
    · rw[if_pos q,if_pos ((h j).2 (.inr q))]
    · rw[if_neg q,if_neg fun a=>((h j).1 a).elim e q]
theorem L7 {p:KD→Int} {k:KD} {s:Int}:Z6 p k s=UV p k s:= by
  funext j
  by_cases e:j=k
  · subst e; rw[XF]; simp [Z6]
  · rw[XQ e]; simp [Z6,e]
noncomputable def dropP (A:LvA) (ob:Bs):LvA:={A with pres:=WE (fun j=>j.1=ob) zer A.pres}
open Classical in
noncomputable def Z1 (P:KD→Prop) (f:KD→Option LfA):KD→Option LfA:= fun j=> if P j then(f j).map fun x=>allX x zer else f j
noncomputable def dropT (A:LvA) (id:Int) (ob:Bs):LvA:= match A.tr id with | none=>A | some t=>{A with tr:=Xu A.tr id (some {t with lv:=Z1 (fun j=>j.1=ob) t.lv,dr:=WC t.dr ob})}
theorem PP {f:KD→Option LfA} {ob:Bs}:Z1 (inD [] ob) f=f:= by funext j; simp [Z1,inD]
theorem DP {P Q:KD→Prop} {f:KD→Option LfA} (h: ∀j,f j≠none→(P j↔Q j)):Z1 P f=Z1 Q f:= by
  funext j
  unfold Z1
  cases q:f j with
  | none=> simp
  | some x=>
    have :=h j (by rw[q]; simp)
    by_cases e:P j
    · rw[if_pos e,if_pos (this.1 e)]
    · rw[if_neg e,if_neg fun a=>e (this.2 a)]
theorem En {P Q:KD→Prop} {f:KD→Option LfA} {k:KD} {x:LfA} (h: ∀j,Q j↔(j=k∨P j)) (hk:Z1 P f k=some x):Z1 Q f=Xu (Z1 P f) k (some (allX x zer)):= by
  funext j
  by_cases e:j=k
  · subst e
    rw[Qy]
    unfold Z1 at hk⊢
    rw[if_pos ((h j).2 (.inl U))]
    split at hk
    · cases q:f j with
      | none=> rw[q]at hk; cases hk
      | some y=> rw[q]at hk; simp only[Option.map_some,Option.some.injEq]at hk⊢; subst hk;rfl
    · rw[hk];rfl
  · rw[QF e]
    unfold Z1
    by_cases q:P j
    · rw[if_pos q,if_pos ((h j).2 (.inr q))]
    · rw[if_neg q,if_neg fun a=>((h j).1 a).elim e q]
theorem HJ {i:Int}: ∀{l:List KD},l.Nodup→(l.map fun k=>(i,k)).Nodup
  | [],_=>List.nodup_nil
  | a::l,h=> by
    rw[List.nodup_cons]at h
    rw[List.map_cons,List.nodup_cons]
    refine⟨fun q=> ?_,HJ h.2⟩
    obtain⟨b,hb,e⟩:=List.mem_map.1 q
    cases e
    exact h.1 hb
theorem SzLe.keysP {L:LvD} {c:Nat} (h:SzLe L c) {ks:List KD} (hc:Came (XN L.pres) ks):ks.length≤c:= by
  obtain⟨l,a,b,d⟩:=h
  have :=Zp (HJ (i:=0) hc.nodup) (b:=l) fun x hx=> by
    obtain⟨k,hk,rfl⟩:=List.mem_map.1 hx
    exact b k fun q=>hc.has k hk (by unfold XN; rw[if_pos q])
  simp at this;omega
theorem SzLe.keysL {L:LvD} {c:Nat} {i:Int} {t:TrD} (h:SzLe L c) (ht:L.tr i=some t) {ks:List KD} (hc:Came (X0 LfD.ad t.lv) ks):ks.length≤c:= by
  obtain⟨l,a,b,d⟩:=h
  have :=Zp (HJ (i:=i) hc.nodup) (b:=l) fun x hx=> by
    obtain⟨k,hk,rfl⟩:=List.mem_map.1 hx
    have h1:=hc.has k hk
    cases q:t.lv k with
    | none=> exact absurd (by unfold X0; rw[q];rfl) h1
    | some x=> exact d i t k x ht q
  simp at this;omega
theorem SzLe.subP {L L':LvD} {c:Nat} (h:SzLe L c) (hp: ∀k,L'.pres k≠0→L.pres k≠0) (hT:L'.tr=L.tr):SzLe L' c:= by
  obtain⟨l,a,b,d⟩:=h
  exact⟨l,a, fun k hk=>b k (hp k hk), fun i t k x ht hx=>d i t k x (by rwa [hT]at ht) hx⟩
theorem allP {p:KD→Int} {ks:List KD} (h:AllC (XN p) ks) (k:KD):k∈QM ks↔p k≠0:= by
  rw[(J9 ks).mem_iff,h.mem]
  unfold XN
  by_cases e:p k=0
  · simp [e]
  · simp [e]
theorem So {f:KD→Option LfD} {ks:List KD} (h:AllC (X0 LfD.ad f) ks) (k:KD):k∈QM ks↔f k≠none:= by
  rw[(J9 ks).mem_iff,h.mem]
  unfold X0
  cases f k<;> simp
theorem HW {ks:List KD} (h:ks.Nodup):(QM ks).Nodup:=(J9 ks).nodup_iff.2 h
theorem Sq {L:LvD} {V:VS} {l:List KD} {ob:Bs} (h0:V 0=none) (hl: ∀k,k∈l↔L.pres k≠0):WE (inD l ob) zer (Q1 L V).pres=WE (fun j=>j.1=ob) zer (Q1 L V).pres:= by
  funext j
  unfold WE inD
  by_cases e:j.1=ob
  · by_cases q:j∈l
    · rw[if_pos ⟨q,e⟩,if_pos e]
    · rw[if_neg fun a=>q a.1,if_pos e]
      have :L.pres j=0:=Classical.byContradiction fun a=>q ((hl j).2 a)
      show XH V (L.pres j)=zer
      rw[this,Wk h0]
  · rw[if_neg fun a=>e a.2,if_neg e]
theorem N9 {w:World} {ex:Int→Int} {m:Nat} {b n Fr:Nat} {L:LvD} {V:VS} {F:Th} (hS:Sat w [XX b L,XD L.sp n Fr V,F]) {c:Nat} (hc:SzLe L c) (hn:n+2*c≤60000000000) (hI:LvX ex m L V) (hx:NN ex) (ob:Bs):
    Calls prog 27 #[ptrV b 0,intV 0,strV ob] w (Ret fun v w'=> ∃L' V',StepX ex m L V ex m 0 0 L' V'∧Q1 L' V'=dropP (Q1 L V) ob∧OthK L L' 0 (fun _=>False)∧Sat w' [XX b L',XD L'.sp (n+2*c) Fr V',F]):= by
 replace hS:=X1 hS
 refine Qm func27 U ntmps27 U ?_
 refine Qd (Qd (Qa (Qb U U (Xq U U U (Qf (Qc (Qt U (fun h1=> ?_) (fun h1=> ?_))))))))
 ·refine Qd (Qd (Qa (Qb U U (Qj U U (Qg U Jm U (Qr U Hf (hS.cell 0 U U) U ?_))))))
  refine Qv TZ U (R8 (hS.sp [1] U) (fun ks h=> by have :=hc.keysP h;omega)) U ?_
  rintro _ w2 ⟨ks,hks,j2⟩
  replace j2:=j2.jn U U
  obtain⟨ar,cr,hvr,_⟩:=j2.own_shape 0 rfl; obtain rfl:=hvr
  refine X7 underlying98 U U (Qb U U (Qf (Qc (Qh [2,1,0,18,19,20] U (Qw ?_)))))
  have hz:=QX (j2.pick [2,1,3,4,5,0,6,7] U)
  have hlk:(QM ks).length≤c:= by rw[Wd]; exact hc.keysP (Came.of_all hks)
  refine Xg (fun K0 E0 W0=> ∃(i:Nat) (L1:LvD) (V1:VS),K0=(QM ks).length -i∧E0=[(0,ptrV b 0),(2,strV ob),(18,.slice ar (QM ks).length cr),(19,intV ((QM ks).length:Int)),(20,intV (i:Int))]∧Sat W0 [XX b L1,XD L1.sp (n+i) Fr V1,rowT kC (.slice ar (QM ks).length cr) (QM ks),F]∧(i≤(QM ks).length)∧(LvX ex m L1 V1)∧(L1.sp=L.sp)∧(∀c,AliveLe V c→AliveLe V1 c)∧(Pgs V V1)∧(L1.pres=WE (inD ((QM ks).take i) ob) 0 L.pres)∧(L1.tr=L.tr)∧(Q1 L1 V1={Q1 L V with pres:=WE (inD ((QM ks).take i) ob) zer (Q1 L V).pres})) (L0:=[(0,_),(2,_),(18,_),(19,_),(20,_)]) ((QM ks).length) (Hi U U U U U) ⟨0,L,V, by omega,rfl,hz.pick [0,2,1,3] U, by omega,hI,rfl, fun _ q=>q,.refl, by rw[Rf (Q:= fun _=>False) (by simp [inD]),Cx],rfl, by rw[Rf (Q:= fun _=>False) (by simp [inD]),Cx]⟩ ?_
  rintro _ _ w3 ⟨i,L1,V1,rfl,rfl,j3,hi,hI1,hsp,hal,hpg,hp,hT,hab⟩
  refine Qd (Qa (Xk U U U (Qf (Qc (Qd (Qt U (fun h4=> ?_) (fun h4=> ?_)))))))
  ·obtain⟨k,hk⟩: ∃k,(QM ks)[i]? =some k:=⟨_,Zq (by omega)⟩
   refine Qs (Qc (Qd (Qw (Qd (Qa (Xx kC 2 i j3 U U U (by rfl) hk K6 U ?_))))))
   intro bx5 capx5 hvx5
   refine ZZ 2 i j3 U hvx5 U hk X9 Xf U U (Xa j3 Zy U U ?_)
   intro kb wk6 hk6
   refine QG hk6 U U Xf U (by rfl) (i:=0) U (by decide) ?_
   intro wk7 hk7; dsimp only[List.set]at hk7
   clear hk6
   replace hk7:=X6 (k:=k) hk7
   refine Qf (Qc (Qd (Qa (Qg U JT U (Qr U W9 (hk7.cell 0 U U) U (Qb U U (Rk U U U (Qf (Qc (Qh [20,19,18,2,0,7,27] U (Qt U (fun h8=> ?_) (fun h8=> ?_))))))))))))
   ·have hob:k.1=ob:=h8
    refine Qa (Qb U U (Xw U X9 Xf (by first | exact hk7.blk 0 U) (Xv U) U U ?_))
    have hC9:=hk7.sp [1,2] U
    refine Qv GO U (Tx hC9 (by omega) k 0) U ?_
    rintro _ w9 ⟨rfl,j9⟩
    replace j9:=j9.jn U U; clear hC9
    clear hk7
    refine Qf (Qk (Qc (Qa (QO U U (by omega) (by omega) U ?_))))
    refine Qb U U (Qf ?_)
    obtain⟨hs1,hs2⟩:=VR (s:=0) (k:=k) hI1 hx (fun q=>absurd rfl q) (JJ V1 L1.sh (L1.pres k))
    have hI2:=hs1.inv.ext (ex':=ex) fun j hj=> by rw[J4 hj];omega
    exact Q3 (L1:=[(0,_),(2,_),(18,_),(19,_),(20,intV ((i+1:Nat):Int))]) (Hi U U U U U) (k1:=(QM ks).length -(i+1)) (by omega) ⟨i+1,_,_, by omega,rfl,j9.pick [0,1,3,4] U, by omega,hI2,hs1.sp.trans hsp, fun c q=>hs1.al c (hal c q),hpg.trans hs1.pg, by dsimp only; rw[hp,L7,V9 (OL hk hob)],hT, by rw[hs2,hab,V9 (OL hk hob),Wk hI1.zero]⟩
   have hob:k.1≠ob:=h8
   refine Qs (Qk (Qc (Qa (QO U U (by omega) (by omega) U ?_))))
   exact Qb U U (Qf (Q3 (L1:=[(0,_),(2,_),(18,_),(19,_),(20,intV ((i+1:Nat):Int))]) (Hi U U U U U) (k1:=(QM ks).length -(i+1)) (by omega) ⟨i+1,L1,V1, by omega,rfl,(Xn (m:=n+(i+1)) (by omega) (hk7.pick [2,1,3,4] U)).reorder [1,0,2,3] U, by omega,hI1,hsp,hal,hpg, by rw[hp,Rf (OM hk hob)],hT, by rw[hab,Rf (OM hk hob)]⟩))
  refine QU (Qq (Qq (Qx (Qc (Qu (Qp (ZU (.inr U) U ?_)))))))
  have hil:i=(QM ks).length:= by omega
  rw[hil,List.take_length]at hp hab
  exact⟨_,rfl,L1,V1,⟨hI1,hsp, fun c q=>hal c q, fun c q=>q.subP (fun j hj=> by rw[hp]at hj;unfold WE at hj;split at hj; exact absurd U hj; exact hj) hT,hpg⟩, by rw[hab,Sq hI.zero (allP hks)];rfl,PO (fun j hj=> by rw[hp]at hj;unfold WE at hj;split at hj; exact absurd U hj; exact hj) hT,(Xn (m:=n+2*c) (by omega) (j3.pick [1,0,3] U)).reorder [1,0,2] U⟩
 exact absurd U h1
