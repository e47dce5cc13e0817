/- The shelf's contract of sorting rows of keys (structs of a string and an integer) as a contract of things; a walk that keeps how the world has grown. Conditions: each one's own hypotheses. -/
import Derived.Test.YtkcjfoaejijdoaaGreatDoorGr
import Derived.Shelf.SlSortCmp.NoneTotal
import Derived.Lib.Bytealg
import Derived.Lib.Small
import Derived.Shelf.SlLaysF0
import Derived.Ground.SlsfProg
import Derived.Test.YtkcjfoaejijdoaaGreatDoorProg
import Derived.Test.YtkcjfoaejijdoaaGreatDoorShelf
import Derived.Test.YtkcjfoaejijdoaaGreatDoorDl
import Derived.Test.YtkcjfoaejijdoaaGreatDoorLv14
set_option linter.unusedSectionVars false
set_option linter.unusedVariables false
set_option maxRecDepth 100000
set_option maxHeartbeats 80000000000
namespace Go.Proofs.YtkcjfoaejijdoaaGreatDoor.M
open Go.RowKit Go.Sort
def cfK (x y:Bs×Int):Int:= if Lib.compareBytes x.1 y.1≠0 then Lib.compareBytes x.1 y.1 else Lib.compareInt x.2 y.2
def Q8 (l:List (Bs×Int)):List (Bs×Int):=l.mergeSort fun x y=> !ltOf cfK y x
theorem Ju (l:List (Bs×Int)):(Q8 l).Perm l:=List.mergeSort_perm _ _
theorem ZJ (l:List (Bs×Int)):(Q8 l).length=l.length:=(Ju l).length_eq
theorem cmpB: ∀a b:Bs,(Lib.compareBytes a b<0↔a<b)∧(Lib.compareBytes a b=0↔a=b)
  | [],[]=> by simp [Lib.compareBytes]
  | [],y::ys=> by simp [Lib.compareBytes]
  | x::xs,[]=> by simp [Lib.compareBytes]
  | x::xs,y::ys=> by
    have ih:=cmpB xs ys
    unfold Lib.compareBytes
    rw[List.cons_lt_cons_iff]
    by_cases h1:x<y
    · have :x≠y:= fun e=> by subst e; exact absurd h1 (UInt8.lt_irrefl _)
      simp [h1,this]
    · by_cases h2:y<x
      · have :x≠y:= fun e=> by subst e; exact absurd h2 (UInt8.lt_irrefl _)
        simp [h1,h2,this]
      · have e:x=y:=UInt8.le_antisymm (UInt8.not_lt.1 h2) (UInt8.not_lt.1 h1)
        subst e
        simp [h1,ih.1,ih.2]
theorem ltK (x y:Bs×Int):ltOf cfK x y=true↔x.1<y.1∨x.1=y.1∧x.2<y.2:= by
  have h:=cmpB x.1 y.1
  unfold ltOf cfK Lib.compareInt
  by_cases e:x.1=y.1
  · rw[if_neg (by simpa using h.2.2 e)]
    have : ¬x.1<y.1:= by rw[e]; exact List.lt_irrefl _
    by_cases a:x.2<y.2
    · simp [a,e]
    · by_cases b:x.2>y.2<;> simp [a,b,e,List.lt_irrefl]
  · rw[if_pos (by simpa using fun q=>e (h.2.1 q))]
    simp [h.1,e]
theorem ltKf (x y:Bs×Int):ltOf cfK x y=false↔ ¬x.1<y.1∧(x.1=y.1→ ¬x.2<y.2):= by
  rw[←Bool.not_eq_true,ltK]
  exact⟨fun h=>⟨fun a=>h (.inl a), fun e a=>h (.inr ⟨e,a⟩)⟩, fun ⟨h1,h2⟩ h=>h.elim h1 fun ⟨e,a⟩=>h2 e a⟩
theorem bs_nlt {a b c:Bs} (h: ¬a<b) (h': ¬b<c): ¬a<c:=List.not_lt.2 (List.le_trans (List.not_lt.1 h') (List.not_lt.1 h))
theorem swoK:SWO (ltOf cfK) where
  irrefl x:= by rw[ltKf]; exact⟨List.lt_irrefl _, fun _=> by omega⟩
  trans x y z h1 h2:= by
    rw[ltK]at *
    rcases h1 with h1 | ⟨e1,h1⟩<;> rcases h2 with h2 | ⟨e2,h2⟩
    · exact .inl (List.lt_trans h1 h2)
    · exact .inl (e2▸h1)
    · exact .inl (e1▸h2)
    · exact .inr ⟨e1.trans e2, by omega⟩
  ntrans x y z h1 h2:= by
    rw[ltKf]at *
    refine⟨bs_nlt h1.1 h2.1, fun e=> ?_⟩
    have h3: ¬z.1<y.1:=e▸h1.1
    have h4:y.1=z.1:=List.le_antisymm (List.not_lt.1 h3) (List.not_lt.1 h2.1)
    have :=h1.2 (e.trans h4.symm)
    have :=h2.2 h4
    omega
theorem totK (x y:Bs×Int) (h1:ltOf cfK x y=false) (h2:ltOf cfK y x=false):x=y:= by
  rw[ltKf]at *
  have e:x.1=y.1:=List.le_antisymm (List.not_lt.1 h2.1) (List.not_lt.1 h1.1)
  exact Prod.ext e (by have :=h1.2 e; have :=h2.2 e.symm;omega)
theorem kC_get (l:List (Bs×Int)): ∀t,t<l.length*2→(kC.cells l)[t]! =(kC.enc l[t/ 2]!)[t%2]! := by
  induction l with
  | nil=> intro t h; simp at h
  | cons a l ih=>
    intro t h
    have e:kC.cells (a::l)=strV a.1::intV a.2::kC.cells l:=rfl
    rw[e]
    match t with
    | 0=>rfl
    | 1=>rfl
    | t+2=>
      have h1:=ih t (by simp at h;omega)
      have h2:(t+2)/ 2=t/ 2+1:= by omega
      have h3:(t+2)%2=t%2:= by omega
      rw[h2,h3]
      simpa using h1
theorem Su (l:List (Bs×Int)):flatK kC.enc 2 l.toArray=(kC.cells l).toArray:= by
  refine ext_get! (by simp [RowC.cells_len];rfl) fun t ht=> ?_
  have ht':t<l.length*2:= by simpa using ht
  rw[get_flatK _ _ _ _ (by simpa using ht')]
  have :=kC_get l t ht'
  simpa using this.symm
theorem C5 (d xs sp:List Value) (h:d.length=xs.length):(putCells id 0 d.toArray (xs++sp).toArray)=(d++sp).toArray:= by
  apply Array.ext_getElem?
  intro k
  unfold putCells
  simp only[Array.getElem?_mapIdx,List.getElem?_toArray,Nat.zero_le,true_and,Nat.zero_add,Nat.sub_zero,List.size_toArray]
  by_cases hk:k<d.length
  · rw[List.getElem?_append_left (by simpa [←h]using hk),List.getElem?_append_left (by simpa using hk)]
    simp [hk,h▸hk]
  · rw[List.getElem?_append_right (by omega),List.getElem?_append_right (by omega)]
    have hk': ¬k<xs.length:= by omega
    simp only[h,hk',if_false,Option.map_id']
theorem G5 {P:Program} {f:Nat} {fv:Value}
    (hsome: ∀(blk off cap:Nat) (ss:List (Bs×Int)) (w:World),HoldsK kC.enc 2 w blk off ss.toArray→blk<w.heap.size→ss.length<4611686018427387904→Calls P f #[.slice (some ⟨blk,off,none⟩) ss.length cap,fv] w fun e w'=>e= .returned (.tuple #[])∧ ∃n os,w'=sortWorldK kC.enc 2 w blk off n (Q8 ss).toArray os)
    (hnone: ∀(p:Option Addr) (cap:Nat) (w:World),Calls P f #[.slice p 0 cap,fv] w fun e w'=>e= .returned (.tuple #[])∧w'=w)
    {w:World} {v:Value} {l:List (Bs×Int)} {As:List Th} (hS:Sat w (rowT kC v l::As)) (hl:l.length<4611686018427387904):Calls P f #[v,fv] w (Ret fun u w'=>u= .tuple #[]∧Sat w' (rowT kC v (Q8 l)::As)):= by
  obtain⟨foot,hlen,h⟩:=hS.own 0 rfl
  rcases h with⟨rfl,hn,hf⟩ | ⟨b,cap,sp,rfl,hcap,hb,hsz,hf⟩
  · have :l=[]:=List.eq_nil_of_length_eq_zero hn
    subst this
    exact(hnone none 0 w).mono fun e w' ⟨h1,h2⟩=>⟨_,h1,rfl, by rw[h2];simpa [Q8]using hS⟩
  · have hH:HoldsK kC.enc 2 w b 0 l.toArray:= fun j hj=> by
      rw[Su]at hj⊢
      have hj':j<(kC.cells l).length:= by simpa using hj
      refine⟨?_, ?_⟩
      · rw[Nat.zero_add]
        refine hb.cell ?_
        rw[List.getElem?_append_left (by simpa using hj')]
        simp [hj']
      · exact hb.free _ (by simp;omega)
    refine(hsome b 0 cap l w hH hb.lt hl).mono fun e w' ⟨h1,n,os,h2⟩=>⟨_,h1,rfl, ?_⟩
    have hlt:=hb.lt
    have hcl:(kC.cells (Q8 l)).length=(kC.cells l).length:= by rw[RowC.cells_len,RowC.cells_len,ZJ]
    unfold sortWorldK putRowK at h2
    rw[Su]at h2
    have hheap: ∀k,k<w.heap.size→k≠b→w'.heap[k]? =w.heap[k]? := fun k hk hne=> by
      rw[h2,heap_grow_old _ _ (by simpa using hk)]
      simp only[putRow,mapBlock,heap_ahead,Array.getElem?_modify]
      rw[if_neg (fun q=>hne q.symm)]
    obtain⟨T,lo,hi,hc,hfz⟩:=hb
    have hnew:w'.heap[b]? =some (.cells (kC.cells (Q8 l)++sp).toArray T (lo,hi)):= by
      rw[h2,heap_grow_old _ _ (by simpa using hlt)]
      simp only[putRow,mapBlock,heap_ahead,Array.getElem?_modify,if_pos,hc,Option.map_some,onCells]
      rw[C5 _ _ _ hcl]
    have ho:Only [b] w w':= by
      refine⟨?_, ?_, ?_, ?_, fun k hk hn=>hheap k hk (by simpa using hn)⟩
      · rw[h2];rfl
      · rw[h2];rfl
      · rw[h2];rfl
      · rw[h2]; simp
    have hfin:=hS.own_set (w':=w') 0 U (v':= .slice (some ⟨b,0,none⟩) l.length cap) (n':=l.length) (size':=2) (xs':=kC.cells (Q8 l)) (fun foot' g=> by
      obtain⟨_,g⟩:=g
      rcases g with⟨g0,_⟩ | ⟨b',cap',sp',g0,g1,g2,g3,g4⟩
      · cases g0
      · simp only[Value.slice.injEq,Option.some.injEq,Addr.mk.injEq,and_true,true_and]at g0
        obtain⟨rfl,rfl⟩:=g0
        refine⟨[b],⟨?_,.inr ⟨b,cap,sp,rfl,hcap,⟨T,lo,hi, ?_, ?_⟩, ?_,rfl⟩⟩, ?_, ?_⟩
        · rw[kC.cells_len,ZJ];rfl
        · exact hnew
        · rcases hfz with q | q
          · exact .inl q
          · refine .inr ?_
            simp only[List.length_append,kC.cells_len,ZJ]at q⊢; exact q
        · simp only[List.length_append,kC.cells_len,ZJ]at hsz⊢; exact hsz
        · rw[g4]; exact ho
        · rw[g4]; intro k hk; exact .inl hk)
    have e:(Q8 l).length=l.length:=ZJ l
    show Sat w' (WK _ (Q8 l).length 2 _::As)
    rw[e]; exact hfin
end Go.Proofs.YtkcjfoaejijdoaaGreatDoor.M
namespace Go.Proofs
open Go.Shelf
def Tryz.sortKeys_ren:Go.Shelf.Ren:=⟨fun | 6=>162 | 15=>168 | 14=>190 | 28=>201 | 29=>202 | 20=>224 | 21=>225 | 22=>226 | 23=>227 | 24=>228 | 25=>229 | 26=>230 | 27=>231 | 46=>245 | 47=>233 | 48=>234 | 49=>246 | 50=>247 | 57=>255 | n=>n, fun | 22=>98 | 24=>76 | 25=>178 | 3=>3 | 39=>31 | 0=>0 | 53=>252 | 55=>22 | 4=>4 | 46=>245 | 45=>244 | 50=>63 | 5=>5 | 9=>9 | 66=>274 | 70=>132 | 76=>285 | 77=>286 | n=>n, fun | n=>n⟩
theorem Tryz.sortKeys:Go.Proofs.SlLaysF0.n6 Tryz.prog Tryz.sortKeys_ren:={
  mixed:= by kernel_rfl
  f6:=⟨Tryz.f162.name, by decide,Tryz.func162.trans (congrArg some (by kernel_rfl))⟩
  f14:=⟨Tryz.f190.name, by decide,Tryz.func190.trans (congrArg some (by kernel_rfl))⟩
  f15:=Tryz.func168.trans (congrArg some (by kernel_rfl))
  f20:=⟨Tryz.f224.name, by decide,Tryz.func224.trans (congrArg some (by kernel_rfl))⟩
  f21:=⟨Tryz.f225.name, by decide,Tryz.func225.trans (congrArg some (by kernel_rfl))⟩
  f22:=⟨Tryz.f226.name, by decide,Tryz.func226.trans (congrArg some (by kernel_rfl))⟩
  f23:=⟨Tryz.f227.name, by decide,Tryz.func227.trans (congrArg some (by kernel_rfl))⟩
  f24:=⟨Tryz.f228.name, by decide,Tryz.func228.trans (congrArg some (by kernel_rfl))⟩
  f25:=⟨Tryz.f229.name, by decide,Tryz.func229.trans (congrArg some (by kernel_rfl))⟩
  f26:=⟨Tryz.f230.name, by decide,Tryz.func230.trans (congrArg some (by kernel_rfl))⟩
  f27:=⟨Tryz.f231.name, by decide,Tryz.func231.trans (congrArg some (by kernel_rfl))⟩
  f28:=Tryz.func201.trans (congrArg some (by kernel_rfl))
  f29:=Tryz.func202.trans (congrArg some (by kernel_rfl))
  f46:=⟨Tryz.f245.name, by decide,Tryz.func245.trans (congrArg some (by kernel_rfl))⟩
  f47:=Tryz.func233.trans (congrArg some (by kernel_rfl))
  f48:=Tryz.func234.trans (congrArg some (by kernel_rfl))
  f49:=⟨Tryz.f246.name, by decide,Tryz.func246.trans (congrArg some (by kernel_rfl))⟩
  f50:=⟨Tryz.f247.name, by decide,Tryz.func247.trans (congrArg some (by kernel_rfl))⟩
  f57:=⟨Tryz.f255.name, by decide,Tryz.func255.trans (congrArg some (by kernel_rfl))⟩
  t0:=Tryz.underlying0
  a0:=Tryz.isAgg0
  z0:=Tryz.sizeOf0
  v0:=Tryz.zeroValue0
  t3:=Tryz.underlying3
  a3:=Tryz.isAgg3
  z3:=Tryz.sizeOf3
  v3:=Tryz.zeroValue3
  t4:=Tryz.underlying4
  a4:=Tryz.isAgg4
  z4:=Tryz.sizeOf4
  v4:=Tryz.zeroValue4
  t5:=Tryz.underlying5
  a5:=Tryz.isAgg5
  z5:=Tryz.sizeOf5
  v5:=Tryz.zeroValue5
  t9:=Tryz.underlying9
  a9:=Tryz.isAgg9
  z9:=Tryz.sizeOf9
  v9:=Tryz.zeroValue9
  t22:=Tryz.underlying98
  a22:=Tryz.isAgg98
  z22:=Tryz.sizeOf98
  v22:=Tryz.zeroValue98
  t25:=Tryz.underlying178
  a25:=Tryz.isAgg178
  z25:=Tryz.sizeOf178
  v25:=Tryz.zeroValue178
  t39:=Tryz.underlying31
  a39:=Tryz.isAgg31
  z39:=Tryz.sizeOf31
  v39:=Tryz.zeroValue31
  t45:=Tryz.underlying244
  a45:=Tryz.isAgg244
  z45:=Tryz.sizeOf244
  v45:=Tryz.zeroValue244
  t46:=Tryz.underlying245
  a46:=Tryz.isAgg245
  z46:=Tryz.sizeOf245
  v46:=Tryz.zeroValue245
  t50:=Tryz.underlying63
  a50:=Tryz.isAgg63
  z50:=Tryz.sizeOf63
  v50:=Tryz.zeroValue63
  t53:=Tryz.underlying252
  a53:=Tryz.isAgg252
  z53:=Tryz.sizeOf252
  v53:=Tryz.zeroValue252
  t55:=Tryz.underlying22
  a55:=Tryz.isAgg22
  z55:=Tryz.sizeOf22
  v55:=Tryz.zeroValue22
  t66:=Tryz.underlying274
  a66:=Tryz.isAgg274
  z66:=Tryz.sizeOf274
  v66:=Tryz.zeroValue274
  t70:=Tryz.underlying132
  a70:=Tryz.isAgg132
  z70:=Tryz.sizeOf132
  v70:=Tryz.zeroValue132
  t76:=Tryz.underlying285
  a76:=Tryz.isAgg285
  z76:=Tryz.sizeOf285
  v76:=Tryz.zeroValue285
  t77:=Tryz.underlying286
  a77:=Tryz.isAgg286
  z77:=Tryz.sizeOf286
  v77:=Tryz.zeroValue286}
end Go.Proofs
namespace Go.Proofs.YtkcjfoaejijdoaaGreatDoor
open Go.RowKit M
theorem AJ {w:World} {l c b:Nat} {g:Int→Option Value} {J:List Int→Th} {F:Th} (hS:Sat w [J [],Q3 c [.map (some b)],Q5 QO b g,F]) (hY:Hh Tryz.prog l QO (okC g) J):
    Calls Tryz.prog 123 #[.func (.yield l) #[] #[],ptrV c 0] w (Ret fun v w'=> ∃ks,AllC g ks∧Sat w' [J ks,Q3 c [.map (some b)],Q5 QO b g,F]):= by
 refine Qm Tryz.func123 U Tryz.ntmps123 U ?_
 refine Qd (Qa (Qn U Zn (by first | assumption | exact hS.cell 1 U U) U ?_))
 refine Wm 2 hS Tryz.underlying108 U U U ?_
 intro RR left0 wR hSR; dsimp only[List.set]at hSR
 refine Qf (Qc (Qv (Xb (fun K0 E0 W0=> ∃(dn:Int→Prop) (cur:Option Int) (left:Nat) (ks:List Int),K0=1*left∧E0=[(0,.func (.yield l) #[] #[]),(5,ptrV RR 0)]∧Sat W0 [J ks,Wq QO b RR g dn cur left,Q3 c [.map (some b)],F]∧(CSt g dn ks)) (L0:=[(0,_),(5,_)]) (1*left0) (DT U U) ⟨_,_,_,_,rfl,rfl,hSR.reorder [0,2,1,3] U,CSt.start g⟩ ?_)))
 rintro _ _ w1 ⟨dn,cur,left,ks,rfl,rfl,hS1,hcs⟩
 refine Qd (Qa (WP 1 hS1 keysInt.inj U U U (fun hdone=> ?_) (fun k v left2 w2 hleft hgk hnd hS2=> ?_)))
 ·refine Qq U U U (Qf (Qc (Qd (QT U (QM (Qo (Qo (Qx (ZD (.inl U) U ?_)))))))))
  exact⟨_,rfl,ks,hcs.all hdone, by have hSz:=ZQ (hS1.reorder [1,0,2,3] U); exact hSz.reorder [1,2,0,3] U⟩
 dsimp only[List.set]at hS2
 refine Qq U U U (Qf (Qc (Qd (Xf U (Qt (Qc (Qv (Qd (Qa (Wn 1 hS2 U hgk U U (Qq U U U (Qe U U (Qf (Qc (Qd (WQ (X3 U (XO U) (X3 U (XO U) (Hl U U U (hY _ _ _ _ (hcs.ok hnd hgk) (hS2.sp [0] U)) ?_)))))))))))))))))))
 intro w5 hS5; replace hS5:=hS5.jn U U
 refine X3 U (HL U) (YV (Qc (Qh [5,0,13] U (QT U (Qt (Qk ?_))))))
 have hSz:=hS5.reorder [0,1,2,3] U; dsimp only[Hv,UP]at hSz
 exact Q0 (L1:=[(0,_),(5,_)]) (DT U U) (k1:=1*left2) (by omega) ⟨_,_,_,_,rfl,rfl,hSz,hcs.step hnd hgk⟩
theorem AI {w:World} {v0:Value} {F:Th} (hS:Sat w [F]) (h0:v0.oneCell'=true):
    Calls Tryz.prog 69 #[v0] w (Ret fun v w'=> ∃c,v= .func (.func 123) #[] #[ptrV c 0]∧Sat w' [Q3 c v0.cells.toList,F]):= by
 refine Qm Tryz.func69 U Tryz.ntmps69 U ?_
 refine Qd (Qa (Zd hS U U U ?_))
 intro b1 w1 hS1
 exact Qe U U (Qf (Qc (Qd (Qa (Zx U U (Qe U U (Qf (Qc (Qu (QR (.inr U) U U (⟨_,rfl,_,rfl,hS1⟩)))))))))))
theorem sortI0 {w:World} {v:Value} {l:List Int} {F:Th} (hS:Sat w [rowT inC v l,F]) (hl:l.length<4611686018427387904):Calls Tryz.prog 122 #[v] w (Ret fun u w'=>u= .tuple #[]∧Sat w' [rowT inC v (XZ l),F]):=N2 Tryz.slices_Sort_int Tryz.slices_Sort_int_none hS hl
def ItI (g:Int→Option Value) (gf:Nat) (caps:List Value) (It:Th):Prop:= ∀(l:Nat) (J:List Int→Th) (X:Th) (w:World),Sat w [J [],It,X]→Hh Tryz.prog l QO (okC g) J→Calls Tryz.prog gf (.func (.yield l) #[] #[]::caps).toArray w (Ret fun _ w'=> ∃ks,AllC g ks∧Sat w' [J ks,It,X])
def JI (l D b:Nat) (rec:Loop) (ks:List Int):Th:=Ca fun v:Value=>starL [Jk l rec,Ws D,Q3 b [v],rowT inC v ks]
theorem appI {w:World} {g:Int→Option Value} {It F:Th} {gf:Nat} {caps:List Value} (hS:Sat w [It,F]) (hcal:QE Tryz.prog gf=true) (hIt:ItI g gf caps It) (hlen: ∀ks,Came g ks→ks.length≤100000000000):
    Calls Tryz.prog 173 [.slice none 0 0,.func (.func gf) #[] caps.toArray].toArray w (Ret fun v w'=> ∃ks,AllC g ks∧Sat w' [rowT inC v ks,It,F]):= by
 refine He Tryz.func173 U Tryz.ntmps173 U ?_
 refine Qd (Qa (Zd hS U U U ?_))
 intro b1 w1 hS1
 refine Qe U U (Qf (Qc (Qd (Qd (Qa (Qb U U (Qf (Qc (Qv (YW (caps:=caps) U hcal ?_))))))))))
 intro rec hr1 hr2 hr3 hr4 hr5 htn htf
 have hE:=((hS1.enter_loop rec).row_nil inC)
 have hE2:=hE.sp [1,2,3,0] U
 have hJ0:=Sat.ex_intro (f:= fun v:Value=>starL [Jk _ _,Ws _,Q3 _ [v],rowT inC v []]) _ (Sat.fold (As:=[Jk _ _,Ws _,Q3 _ [_],rowT inC _ []]) hE2)
 refine(hIt _ (JI _ _ _ _) _ _ (hJ0.join U) ?_).mono ?_
 ·intro ks k R w2 hok hw2
  obtain⟨v,hw3⟩:=hw2.ex
  have hw4:=hw3.flat; dsimp only[R8,R7]at hw4
  have hl1:=hlen _ hok
  simp only[List.length_append,List.length_cons,List.length_nil]at hl1
  refine Bn (hw4.loop 0 rfl) hr1 hr2 hr3 hr4 hr5 htn htf rfl (by intro o ho c; simp at ho; subst ho; simp) (by intro o ho c; simp at ho; rcases ho with rfl | rfl | rfl | rfl | rfl<;> simp) ?_
  intro QA hA
  refine Qe U U (Qf (hA _ _ (hw4.loop 0 U) ?_))
  intro QB hB
  have h1v:v.oneCell'=true:=hw4.own_one 3 U
  have hw5:=hw4.loop_put 0 U (rec':={rec with state:= .busy}); dsimp only[List.set]at hw5
  refine Qn U YK (hw5.cell 2 U U) U (Qb U U (Zf inC [k] hw5 U Tryz.underlying47 Uc U U U U (by rfl) rfl ?_))
  intro b3 w3 hw6
  refine ZM inC 4 hw6 U U U (hw6.rd 0 U (by simp)) Tryz.underlying47 Tryz.underlying47 (by intro k hk; cases hk) UB U (by simp;omega) U (by simp;omega) ?_
  intro v4 w4 hw7; dsimp only[List.set]at hw7
  have h1v4:v4.oneCell'=true:=hw7.own_one 4 U
  refine Q6 hw7 U U KH h1v4 (i:=3) U (by simp) ?_
  intro w5 hw8; dsimp only[List.set]at hw8
  refine Qf (hB _ _ (hw8.loop 1 U) ?_)
  have hw9:=hw8.loop_put 1 U (rec':=rec); dsimp only[List.set]at hw9
  exact(Sat.ex_intro (f:= fun v:Value=>starL [Jk _ _,Ws _,Q3 _ [v],rowT inC v (ks++[k])]) v4 (Sat.fold (As:=[Jk _ _,Ws _,Q3 _ [_],rowT inC _ _]) (hw9.pick [1,2,3,4,5] U)))
 ·rintro e w3 ⟨v0,rfl,ks,hall,hw3⟩
  obtain⟨v,hw4⟩:=hw3.ex
  have hw5:=hw4.flat; dsimp only[R8,R7]at hw5
  refine⟨⟨v0,rfl⟩,rec,hw5.loop 0 U, by rw[hr1]; simp,hr2, ?_⟩
  intro a ha1 ha2
  have hw6:=hw5.loop_put 0 U (rec':={rec with state:= .exhausted}); dsimp only[List.set]at hw6
  obtain⟨hD,hw7⟩:=hw6.defer_put (o:= .deferred none) 1 rfl
  dsimp only[List.eraseIdx]at hw7
  refine B1 (n:=13) (by rw[ha1]; exact htn) (by rw[ha1]; exact htf) ha2 U YK (hw6.cell 2 U U) hD U U U ?_
  exact⟨_,rfl,ks,hall,hw7.pick [2,3,4] U⟩
def Tq (c b:Nat) (g:Int→Option Value):Th:=starL [Q3 c [.map (some b)],Q5 QO b g]
theorem itI (c b:Nat) (g:Int→Option Value):ItI g 123 [ptrV c 0] (Tq c b g):= fun l J X w hS hY=> by
  have h1:=(hS.perm (List.Perm.swap _ _ _)).flat; dsimp only[R8,R7]at h1
  refine(AJ (h1.reorder [2,0,1,3] U) hY).mono fun e w' h=>h.mono fun v w' ⟨ks,h2,h3⟩=>⟨ks,h2, ?_⟩
  exact(Sat.fold (As:=[Q3 c [.map (some b)],Q5 QO b g]) (h3.reorder [1,2,0,3] U)).perm (List.Perm.swap _ _ _)
theorem Came.of_all {κ:Type} {g:κ→Option Value} {ks:List κ} (h:AllC g ks):Came g ks:=⟨h.nodup, fun k hk=>(h.mem k).1 hk⟩
theorem colI {w:World} {g:Int→Option Value} {It F:Th} {gf:Nat} {caps:List Value} (hS:Sat w [It,F]) (hcal:QE Tryz.prog gf=true) (hIt:ItI g gf caps It) (hlen: ∀ks,Came g ks→ks.length≤100000000000):
    Calls Tryz.prog 121 #[.func (.func gf) #[] caps.toArray] w (Ret fun v w'=> ∃ks,AllC g ks∧Sat w' [rowT inC v ks,It,F]):= by
 refine Qm Tryz.func121 U Tryz.ntmps121 U ?_
 refine Qd (Qa (Qe U U (Qf (Qc (Qd (Qa (Qb U U (Qw cal_173 U (appI (hS.sp [0] U) hcal hIt hlen) U ?_))))))))
 rintro _ w1 ⟨ks,hks,hS1⟩
 replace hS1:=hS1.jn U U
 have h1v:=hS1.own_one 0 U
 exact Qe U U (Qf (Qc (Qu (QR (.inr U) U U (⟨_,rfl,ks,hks,hS1⟩)))))
theorem Hu {w:World} {g:Int→Option Value} {It F:Th} {gf:Nat} {caps:List Value} (hS:Sat w [It,F]) (hcal:QE Tryz.prog gf=true) (hIt:ItI g gf caps It) (hlen: ∀ks,Came g ks→ks.length≤100000000000):
    Calls Tryz.prog 68 #[.func (.func gf) #[] caps.toArray] w (Ret fun v w'=> ∃ks,AllC g ks∧Sat w' [rowT inC v (XZ ks),It,F]):= by
 refine Qm Tryz.func68 U Tryz.ntmps68 U ?_
 refine Qd (Qa (Qe U U (Qf (Qc (Qd (Qa (Qb U U (Qw cal_121 U (colI (hS.sp [0] U) hcal hIt hlen) U ?_))))))))
 rintro _ w1 ⟨ks,hks,hS1⟩
 replace hS1:=hS1.jn U U
 have h1v:=hS1.own_one 0 U
 have hln:=hlen _ (Came.of_all hks)
 refine Qe U U (Qf (Qc (Qd (Qa (Qb U U (Qw cal_122 U (sortI0 (hS1.sp [0] U) (by omega)) U ?_))))))
 rintro _ w2 ⟨rfl,hS2⟩
 replace hS2:=hS2.jn U U
 clear hS1
 exact Qf (Qc (Qd (Qa (Qb U U (Qe U U (Qf (Qc (Qu (QR (.inr U) U U (⟨_,rfl,ks,hks,hS2⟩))))))))))
theorem KX: ∀{l m:List Int},l.Nodup→(∀x∈l,x∈m)→l.length≤m.length
  | [],_,_,_=>Nat.zero_le _
  | a::l,m,hn,hs=> by
    obtain⟨h1,h2⟩:=List.nodup_cons.1 hn
    have h3:=KX (l:=l) (m:=m.erase a) h2 fun x hx=>(List.mem_erase_of_ne (fun q=>h1 (by rw[←q]; exact hx))).2 (hs x (List.mem_cons_of_mem _ hx))
    have h4:=hs a (by simp)
    have h5:=List.length_erase_of_mem h4
    have h6:=List.length_pos_of_mem h4
    rw[List.length_cons];omega
theorem FF {w:World} {p:Nat} {S:SS} {F:Th} (hS:Sat w [Ye p S,F]) {ids:List Int} (hd: ∀j,S.all j≠none→j∈ids) (hl:ids.length≤100000000000):
    Calls Tryz.prog 21 #[ptrV p 0] w (Ret fun v w'=> ∃ks,AllC (aG S.all) ks∧Sat w' [rowT inC v (XZ ks),Ye p S,F]):= by
 have hlen: ∀ks:List Int,Came (aG S.all) ks→ks.length≤100000000000:= fun ks hk=>Nat.le_trans (KX hk.nodup fun x hx=>hd x fun q=>hk.has x hx (by unfold aG; rw[q];rfl)) hl
 obtain⟨ba,bi,fp,sp,kp,ac,cc,at2,ct,hS⟩:=XX hS
 refine Qm Tryz.func21 U Tryz.ntmps21 U ?_
 refine Qd (Qa (Qe U U (Qf (Qc (Qd (Qa (Qb U U (Qj U U (Qg U XI U (Qn U Zn (hS.cell 0 U U) U (Qw OL U (AI (hS.sp [] U) U) U ?_)))))))))))
 rintro _ w1 ⟨ck,rfl,hS1⟩
 replace hS1:=hS1.jn U U
 have hK:=Sat.fold (As:=[Q3 ck [.map (some ba)],Q5 QO ba (aG S.all)]) (hS1.pick [0,2,1,3,4,5,6,7,8,9] U)
 have hC2:=hK.sp [0] U
 refine Qw Dv U (Hu hC2 cal_123 (itI ck ba (aG S.all)) hlen) U ?_
 rintro _ w2 ⟨ks,hks,hS2⟩
 replace hS2:=hS2.jn U U; clear hC2
 clear hK
 refine Qe U U (Qf (Qc (Qu (QR (.inr U) U U ?_))))
 have hz:=(hS2.pick [1,0,2,3,4,5,6,7,8,9] U).flat; dsimp only[Tq,R8,R7]at hz
 exact⟨_,rfl,ks,hks,(QY (S:=S) (hz.pick [3,1,4,5,6,7,8,9,2,10] U)).reorder [1,0,2] U⟩
variable [Inhabited SlW]
theorem Nx (x y:KD):O6 x y=cfK x y:=rfl
theorem Cz (w:World):Sat w []:=⟨fun _=>False,rfl⟩
theorem sortL0 {w:World} {v:Value} {l:List KD} {F:Th} (hS:Sat w [rowT kC v l,F]) (hl:l.length<4611686018427387904):Calls Tryz.prog 162 #[v,.func (.func 111) #[] #[]] w (Ret fun u w'=>u= .tuple #[]∧Sat w' [rowT kC v (Q8 l),F]):=
  G5 (fun blk off cap ss w hH hb hz=>AnyQ.slices_SortFunc_total Tryz.sortKeys 2 Tryz.isAgg76 Tryz.sizeOf76 kC.enc (fun _=>rfl) (fun x v hv=> by simp [kC]at hv; rcases hv with rfl | rfl<;>rfl) cfK swoK 111 #[] blk off cap ss.toArray w (enters_of Tryz.func111 (by kernel_rfl) rfl)
    (fun m os dk _ x y=> by
      rw[Array.append_empty]
      exact(cmpL_sp (Cz _).emp_intro x y).mono fun e w' h=> by
        obtain⟨v,rfl,rfl,h⟩:=h
        exact⟨by rw[Nx],h⟩) hH hb (by simpa using hz) totK)
    (fun p cap w=>AnyF.slices_SortFunc_none Tryz.sortKeys p cap _ w) hS hl
theorem sortP0 {w:World} {v:Value} {l:List KD} {F:Th} (hS:Sat w [rowT kC v l,F]) (hl:l.length<4611686018427387904):Calls Tryz.prog 162 #[v,.func (.func 126) #[] #[]] w (Ret fun u w'=>u= .tuple #[]∧Sat w' [rowT kC v (Q8 l),F]):=
  G5 (fun blk off cap ss w hH hb hz=>AnyQ.slices_SortFunc_total Tryz.sortKeys 2 Tryz.isAgg76 Tryz.sizeOf76 kC.enc (fun _=>rfl) (fun x v hv=> by simp [kC]at hv; rcases hv with rfl | rfl<;>rfl) cfK swoK 126 #[] blk off cap ss.toArray w (enters_of Tryz.func126 (by kernel_rfl) rfl)
    (fun m os dk _ x y=> by
      rw[Array.append_empty]
      exact(cmpI_sp (Cz _).emp_intro x y).mono fun e w' h=> by
        obtain⟨v,rfl,rfl,h⟩:=h
        exact⟨by rw[Nx],h⟩) hH hb (by simpa using hz) totK)
    (fun p cap w=>AnyF.slices_SortFunc_none Tryz.sortKeys p cap _ w) hS hl
theorem NX {w:World} {g:KD→Option Value} {It F:Th} {gf:Nat} {caps:List Value} (hS:Sat w [It,F]) (hcal:QE Tryz.prog gf=true) (hIt:ItK g gf caps It) (hlen: ∀ks,Came g ks→ks.length≤100000000000):
    Calls Tryz.prog 109 #[.func (.func gf) #[] caps.toArray,.func (.func 111) #[] #[]] w (Ret fun v w'=> ∃ks,AllC g ks∧Sat w' [rowT kC v (Q8 ks),It,F]):= by
 refine Qm Tryz.func109 U Tryz.ntmps109 U ?_
 refine Qd (Qa (Qe U U (Qf (Qc (Qd (Qa (Qb U U (Qw SM U (colK (hS.sp [0] U) hcal hIt hlen) U ?_))))))))
 rintro _ w1 ⟨ks,hks,hS1⟩
 replace hS1:=hS1.jn U U
 have h1v:=hS1.own_one 0 U
 have hln:=hlen _ (Came.of_all hks)
 refine Qe U U (Qf (Qc (Qd (Qa (Qb U U (Qb U U (Qw SK U (sortL0 (hS1.sp [0] U) (by omega)) U ?_)))))))
 rintro _ w2 ⟨rfl,hS2⟩
 replace hS2:=hS2.jn U U
 clear hS1
 exact Qf (Qc (Qd (Qa (Qb U U (Qe U U (Qf (Qc (Qu (QR (.inr U) U U (⟨_,rfl,ks,hks,hS2⟩))))))))))
theorem NW {w:World} {g:KD→Option Value} {It F:Th} {gf:Nat} {caps:List Value} (hS:Sat w [It,F]) (hcal:QE Tryz.prog gf=true) (hIt:ItK g gf caps It) (hlen: ∀ks,Came g ks→ks.length≤100000000000):
    Calls Tryz.prog 109 #[.func (.func gf) #[] caps.toArray,.func (.func 126) #[] #[]] w (Ret fun v w'=> ∃ks,AllC g ks∧Sat w' [rowT kC v (Q8 ks),It,F]):= by
 refine Qm Tryz.func109 U Tryz.ntmps109 U ?_
 refine Qd (Qa (Qe U U (Qf (Qc (Qd (Qa (Qb U U (Qw SM U (colK (hS.sp [0] U) hcal hIt hlen) U ?_))))))))
 rintro _ w1 ⟨ks,hks,hS1⟩
 replace hS1:=hS1.jn U U
 have h1v:=hS1.own_one 0 U
 have hln:=hlen _ (Came.of_all hks)
 refine Qe U U (Qf (Qc (Qd (Qa (Qb U U (Qb U U (Qw SK U (sortP0 (hS1.sp [0] U) (by omega)) U ?_)))))))
 rintro _ w2 ⟨rfl,hS2⟩
 replace hS2:=hS2.jn U U
 clear hS1
 exact Qf (Qc (Qd (Qa (Qb U U (Qe U U (Qf (Qc (Qu (QR (.inr U) U U (⟨_,rfl,ks,hks,hS2⟩))))))))))
theorem Ra {w:World} {b:Nat} {g:KD→Option Value} {F:Th} (hS:Sat w [Q5 Xo b g,F]) (hlen: ∀ks,Came g ks→ks.length≤100000000000):
    Calls Tryz.prog 49 #[.map (some b)] w (Ret fun v w'=> ∃ks,AllC g ks∧Sat w' [rowT kC v (Q8 ks),Q5 Xo b g,F]):= by
 refine Qm Tryz.func49 U Tryz.ntmps49 U ?_
 refine Qd (Qa (Qe U U (Qf (Qc (Qd (Qa (Qb U U (Qw cal_110 U (kl_sp (hS.sp [] U) U) U ?_))))))))
 rintro _ w1 ⟨ck,rfl,hS1⟩
 replace hS1:=hS1.jn U U
 have hK:=Sat.fold (As:=[Q3 ck [.map (some b)],Q5 Xo b g]) (hS1.pick [0,1,2] U)
 have hC2:=hK.sp [0] U
 refine Qw SY U (NX hC2 cal_163 (itkl ck b g) hlen) U ?_
 rintro _ w2 ⟨ks,hks,hS2⟩
 replace hS2:=hS2.jn U U; clear hC2
 clear hK
 refine Qe U U (Qf (Qc (Qu (QR (.inr U) U U ?_))))
 have hz:=(hS2.pick [1,0,2] U).flat; dsimp only[R8,R7]at hz
 exact⟨_,rfl,ks,hks,hz.pick [2,1,3] U⟩
theorem UR {w:World} {b:Nat} {g:KD→Option Value} {F:Th} (hS:Sat w [Q5 Xo b g,F]) (hlen: ∀ks,Came g ks→ks.length≤100000000000):
    Calls Tryz.prog 71 #[.map (some b)] w (Ret fun v w'=> ∃ks,AllC g ks∧Sat w' [rowT kC v (Q8 ks),Q5 Xo b g,F]):= by
 refine Qm Tryz.func71 U Tryz.ntmps71 U ?_
 refine Qd (Qa (Qe U U (Qf (Qc (Qd (Qa (Qb U U (Qw cal_125 U (kp_sp (hS.sp [] U) U) U ?_))))))))
 rintro _ w1 ⟨ck,rfl,hS1⟩
 replace hS1:=hS1.jn U U
 have hK:=Sat.fold (As:=[Q3 ck [.map (some b)],Q5 Xo b g]) (hS1.pick [0,1,2] U)
 have hC2:=hK.sp [0] U
 refine Qw SY U (NW hC2 cal_175 (itkp ck b g) hlen) U ?_
 rintro _ w2 ⟨ks,hks,hS2⟩
 replace hS2:=hS2.jn U U; clear hC2
 clear hK
 refine Qe U U (Qf (Qc (Qu (QR (.inr U) U U ?_))))
 have hz:=(hS2.pick [1,0,2] U).flat; dsimp only[R8,R7]at hz
 exact⟨_,rfl,ks,hks,hz.pick [2,1,3] U⟩
end Go.Proofs.YtkcjfoaejijdoaaGreatDoor
namespace Go.Proofs.YtkcjfoaejijdoaaGreatDoor
open Go.RowKit M
variable [Inhabited SlW]
open Classical in
noncomputable def Wf {κ α:Type} (P:κ→Prop) (z:α) (p:κ→α):κ→α:= fun j=> if P j then z else p j
theorem K8 {κ α:Type} {z:α} {p:κ→α}:Wf (fun _=>False) z p=p:= by funext j; simp [Wf]
theorem Y6 {κ α:Type} {P Q:κ→Prop} {z:α} {p:κ→α} (h: ∀j,P j↔Q j):Wf P z p=Wf Q z p:= by
  have :P=Q:=funext fun j=>propext (h j)
  rw[this]
def inD (l:List KD) (ob:Bs):KD→Prop:= fun j=>j∈l∧j.1=ob
theorem CL {l:List KD} {i:Nat} {k:KD} (hk:l[i]? =some k) {ob:Bs} (h:k.1=ob) (j:KD):inD (l.take (i+1)) ob j↔(j=k∨inD (l.take i) ob j):= by
  unfold inD
  rw[List.take_add_one,hk]
  simp only[Option.toList_some,List.mem_append,List.mem_singleton]
  constructor
  · rintro⟨a | a,b⟩
    · exact .inr ⟨a,b⟩
    · exact .inl a
  · rintro(rfl | ⟨a,b⟩)
    · exact⟨.inr U,h⟩
    · exact⟨.inl a,b⟩
theorem CM {l:List KD} {i:Nat} {k:KD} (hk:l[i]? =some k) {ob:Bs} (h:k.1≠ob) (j:KD):inD (l.take (i+1)) ob j↔inD (l.take i) ob j:= by
  unfold inD
  rw[List.take_add_one,hk]
  simp only[Option.toList_some,List.mem_append,List.mem_singleton]
  constructor
  · rintro⟨a | a,b⟩
    · exact⟨a,b⟩
    · subst a; exact absurd b h
  · rintro⟨a,b⟩; exact⟨.inl a,b⟩
theorem H3 {κ α:Type} {P Q:κ→Prop} {z:α} {p:κ→α} {k:κ} (h: ∀j,Q j↔(j=k∨P j)):Wf Q z p=UA (Wf P z p) k z:= by
  funext j
  by_cases e:j=k
  · subst e; rw[X4];unfold Wf; rw[if_pos ((h j).2 (.inl U))]
  · rw[XM e];unfold Wf
    by_cases q:P j
    · rw[if_pos q,if_pos ((h j).2 (.inr q))]
    · rw[if_neg q,if_neg fun a=>((h j).1 a).elim e q]
theorem Mi {p:KD→Int} {k:KD} {s:Int}:Zv p k s=UA p k s:= by
  funext j
  by_cases e:j=k
  · subst e; rw[X4]; simp [Zv]
  · rw[XM e]; simp [Zv,e]
noncomputable def dropP (A:LvA) (ob:Bs):LvA:={A with pres:=Wf (fun j=>j.1=ob) zer A.pres}
open Classical in
noncomputable def Zp (P:KD→Prop) (f:KD→Option LfA):KD→Option LfA:= fun j=> if P j then(f j).map fun x=>allX x zer else f j
noncomputable def dropT (A:LvA) (id:Int) (ob:Bs):LvA:= match A.tr id with | none=>A | some t=>{A with tr:=Xi A.tr id (some {t with lv:=Zp (fun j=>j.1=ob) t.lv,dr:=Wv t.dr ob})}
theorem Py {f:KD→Option LfA} {ob:Bs}:Zp (inD [] ob) f=f:= by funext j; simp [Zp,inD]
theorem Dp {P Q:KD→Prop} {f:KD→Option LfA} (h: ∀j,f j≠none→(P j↔Q j)):Zp P f=Zp Q f:= by
  funext j
  unfold Zp
  cases q:f j with
  | none=> simp
  | some x=>
    have :=h j (by rw[q]; simp)
    by_cases e:P j
    · rw[if_pos e,if_pos (this.1 e)]
    · rw[if_neg e,if_neg fun a=>e (this.2 a)]
theorem L4 {P Q:KD→Prop} {f:KD→Option LfA} {k:KD} {x:LfA} (h: ∀j,Q j↔(j=k∨P j)) (hk:Zp P f k=some x):Zp Q f=Xi (Zp P f) k (some (allX x zer)):= by
  funext j
  by_cases e:j=k
  · subst e
    rw[Qy]
    unfold Zp at hk⊢
    rw[if_pos ((h j).2 (.inl U))]
    split at hk
    · cases q:f j with
      | none=> rw[q]at hk; cases hk
      | some y=> rw[q]at hk; simp only[Option.map_some,Option.some.injEq]at hk⊢; subst hk;rfl
    · rw[hk];rfl
  · rw[Q7 e]
    unfold Zp
    by_cases q:P j
    · rw[if_pos q,if_pos ((h j).2 (.inr q))]
    · rw[if_neg q,if_neg fun a=>((h j).1 a).elim e q]
theorem Hw {i:Int}: ∀{l:List KD},l.Nodup→(l.map fun k=>(i,k)).Nodup
  | [],_=>List.nodup_nil
  | a::l,h=> by
    rw[List.nodup_cons]at h
    rw[List.map_cons,List.nodup_cons]
    refine⟨fun q=> ?_,Hw h.2⟩
    obtain⟨b,hb,e⟩:=List.mem_map.1 q
    cases e
    exact h.1 hb
theorem SzLe.keysP {L:LvD} {c:Nat} (h:SzLe L c) {ks:List KD} (hc:Came (Zg L.pres) ks):ks.length≤c:= by
  obtain⟨l,a,b,d⟩:=h
  have :=Zr (Hw (i:=0) hc.nodup) (b:=l) fun x hx=> by
    obtain⟨k,hk,rfl⟩:=List.mem_map.1 hx
    exact b k fun q=>hc.has k hk (by unfold Zg; rw[if_pos q])
  simp at this;omega
theorem SzLe.keysL {L:LvD} {c:Nat} {i:Int} {t:TrD} (h:SzLe L c) (ht:L.tr i=some t) {ks:List KD} (hc:Came (Xv LfD.ad t.lv) ks):ks.length≤c:= by
  obtain⟨l,a,b,d⟩:=h
  have :=Zr (Hw (i:=i) hc.nodup) (b:=l) fun x hx=> by
    obtain⟨k,hk,rfl⟩:=List.mem_map.1 hx
    have h1:=hc.has k hk
    cases q:t.lv k with
    | none=> exact absurd (by unfold Xv; rw[q];rfl) h1
    | some x=> exact d i t k x ht q
  simp at this;omega
theorem SzLe.subP {L L':LvD} {c:Nat} (h:SzLe L c) (hp: ∀k,L'.pres k≠0→L.pres k≠0) (hT:L'.tr=L.tr):SzLe L' c:= by
  obtain⟨l,a,b,d⟩:=h
  exact⟨l,a, fun k hk=>b k (hp k hk), fun i t k x ht hx=>d i t k x (by rwa [hT]at ht) hx⟩
theorem allP {p:KD→Int} {ks:List KD} (h:AllC (Zg p) ks) (k:KD):k∈Q8 ks↔p k≠0:= by
  rw[(Ju ks).mem_iff,h.mem]
  unfold Zg
  by_cases e:p k=0
  · simp [e]
  · simp [e]
theorem PJ {f:KD→Option LfD} {ks:List KD} (h:AllC (Xv LfD.ad f) ks) (k:KD):k∈Q8 ks↔f k≠none:= by
  rw[(Ju ks).mem_iff,h.mem]
  unfold Xv
  cases f k<;> simp
theorem H6 {ks:List KD} (h:ks.Nodup):(Q8 ks).Nodup:=(Ju ks).nodup_iff.2 h
theorem PL {L:LvD} {V:VS} {l:List KD} {ob:Bs} (h0:V 0=none) (hl: ∀k,k∈l↔L.pres k≠0):Wf (inD l ob) zer (Q1 L V).pres=Wf (fun j=>j.1=ob) zer (Q1 L V).pres:= by
  funext j
  unfold Wf inD
  by_cases e:j.1=ob
  · by_cases q:j∈l
    · rw[if_pos ⟨q,e⟩,if_pos e]
    · rw[if_neg fun a=>q a.1,if_pos e]
      have :L.pres j=0:=Classical.byContradiction fun a=>q ((hl j).2 a)
      show XH V (L.pres j)=zer
      rw[this,WG h0]
  · rw[if_neg fun a=>e a.2,if_neg e]
theorem Nl {w:World} {ex:Int→Int} {m:Nat} {b n Fr:Nat} {L:LvD} {V:VS} {F:Th} (hS:Sat w [XY b L,XG L.sp n Fr V,F]) {c:Nat} (hc:SzLe L c) (hn:n+2*c≤60000000000) (hI:LvX ex m L V) (hx:NN ex) (ob:Bs):
    Calls Tryz.prog 27 #[ptrV b 0,intV 0,strV ob] w (Ret fun v w'=> ∃L' V',StepX ex m L V ex m 0 0 L' V'∧Q1 L' V'=dropP (Q1 L V) ob∧OthK L L' 0 (fun _=>False)∧Sat w' [XY b L',XG L'.sp (n+2*c) Fr V',F]):= by
 replace hS:=Xy hS
 refine Qm Tryz.func27 U Tryz.ntmps27 U ?_
 refine Qd (Qd (Qa (Qb U U (Xd U U U (Qf (Qc (Qs U (fun h1=> ?_) (fun h1=> ?_))))))))
 ·refine Qd (Qd (Qa (Qb U U (Qj U U (Qg U JU U (Qn U Up (hS.cell 0 U U) U ?_))))))
  refine Qw Du U (UR (hS.sp [1] U) (fun ks h=> by have :=hc.keysP h;omega)) U ?_
  rintro _ w2 ⟨ks,hks,hS2⟩
  replace hS2:=hS2.jn U U
  obtain⟨ar,cr,hvr,_⟩:=hS2.own_shape 0 rfl; obtain rfl:=hvr
  refine Xr Tryz.underlying98 U U (Qb U U (Qf (Qc (Qh [2,1,0,18,19,20] U (Qv ?_)))))
  have hz:=QZ (hS2.pick [2,1,3,4,5,0,6,7] U)
  have hlk:(Q8 ks).length≤c:= by rw[ZJ]; exact hc.keysP (Came.of_all hks)
  refine Xb (fun K0 E0 W0=> ∃(i:Nat) (L1:LvD) (V1:VS),K0=(Q8 ks).length -i∧E0=[(0,ptrV b 0),(2,strV ob),(18,.slice ar (Q8 ks).length cr),(19,intV ((Q8 ks).length:Int)),(20,intV (i:Int))]∧Sat W0 [XY b L1,XG L1.sp (n+i) Fr V1,rowT kC (.slice ar (Q8 ks).length cr) (Q8 ks),F]∧(i≤(Q8 ks).length)∧(LvX ex m L1 V1)∧(L1.sp=L.sp)∧(∀c,AliveLe V c→AliveLe V1 c)∧(Pgs V V1)∧(L1.pres=Wf (inD ((Q8 ks).take i) ob) 0 L.pres)∧(L1.tr=L.tr)∧(Q1 L1 V1={Q1 L V with pres:=Wf (inD ((Q8 ks).take i) ob) zer (Q1 L V).pres})) (L0:=[(0,_),(2,_),(18,_),(19,_),(20,_)]) ((Q8 ks).length) (YU U U U U U) ⟨0,L,V, by omega,rfl,hz.pick [0,2,1,3] U, by omega,hI,rfl, fun _ q=>q,.refl, by rw[Y6 (Q:= fun _=>False) (by simp [inD]),K8],rfl, by rw[Y6 (Q:= fun _=>False) (by simp [inD]),K8]⟩ ?_
  rintro _ _ w3 ⟨i,L1,V1,rfl,rfl,hS3,hi,hI1,hsp,hal,hpg,hp,hT,hab⟩
  refine Qd (Qa (Xg U U U (Qf (Qc (Qd (Qs U (fun h4=> ?_) (fun h4=> ?_)))))))
  ·obtain⟨k,hk⟩: ∃k,(Q8 ks)[i]? =some k:=⟨_,Zi (by omega)⟩
   refine Qt (Qc (Qd (Qv (Qd (Qa (QW kC 2 i hS3 U U U (by first | rfl | omega) hk Va U ?_))))))
   intro bx5 capx5 hvx5
   refine ZA 2 i hS3 U hvx5 U hk X7 Xc U U (QX hS3 Z2 U U ?_)
   intro kb wk6 hk6
   clear hS3
   refine QK hk6 U U Xc U (by rfl) (i:=0) U (by decide) ?_
   intro wk7 hk7; dsimp only[List.set]at hk7
   clear hk6
   replace hk7:=X5 (k:=k) hk7
   refine Qf (Qc (Qd (Qa (Qg U JV U (Qn U WC (hk7.cell 0 U U) U (Qb U U (KE U U U (Qf (Qc (Qh [20,19,18,2,0,7,27] U (Qs U (fun h8=> ?_) (fun h8=> ?_))))))))))))
   ·have hob:k.1=ob:=h8
    refine Qa (Qb U U ?_)
    refine Xt U X7 Xc (by first | exact hk7.blk 0 U) (by first | decide | exact Xa U | (simp;done) | omega) U U ?_
    have hC9:=hk7.sp [1,2] U
    refine Qw K4 U (GP hC9 (by omega) k 0) U ?_
    rintro _ w9 ⟨rfl,hS9⟩
    replace hS9:=hS9.jn U U; clear hC9
    clear hk7
    refine Qf (Qk (Qc (Qa (QI U U (by omega) (by omega) U ?_))))
    refine Qb U U (Qf ?_)
    obtain⟨hs1,hs2⟩:=HW (s:=0) (k:=k) hI1 hx (fun q=>absurd rfl q) (Jq V1 L1.sh (L1.pres k))
    have hI2:=hs1.inv.ext (ex':=ex) fun j hj=> by rw[Ja hj];omega
    exact Q0 (L1:=[(0,_),(2,_),(18,_),(19,_),(20,intV ((i+1:Nat):Int))]) (YU U U U U U) (k1:=(Q8 ks).length -(i+1)) (by omega) ⟨i+1,_,_, by omega,rfl,hS9.pick [0,1,3,4] U, by omega,hI2,hs1.sp.trans hsp, fun c q=>hs1.al c (hal c q),hpg.trans hs1.pg, by dsimp only; rw[hp,Mi,H3 (CL hk hob)],hT, by rw[hs2,hab,H3 (CL hk hob),WG hI1.zero]⟩
   have hob:k.1≠ob:=h8
   refine Qt (Qk (Qc (Qa (QI U U (by omega) (by omega) U ?_))))
   exact Qb U U (Qf (Q0 (L1:=[(0,_),(2,_),(18,_),(19,_),(20,intV ((i+1:Nat):Int))]) (YU U U U U U) (k1:=(Q8 ks).length -(i+1)) (by omega) ⟨i+1,L1,V1, by omega,rfl,(Xe (m:=n+(i+1)) (by omega) (hk7.pick [2,1,3,4] U)).reorder [1,0,2,3] U, by omega,hI1,hsp,hal,hpg, by rw[hp,Y6 (CM hk hob)],hT, by rw[hab,Y6 (CM hk hob)]⟩))
  refine QM (Qo (Qo (Qx (Qc (Qu (Qp (ZD (.inr U) U ?_)))))))
  have hil:i=(Q8 ks).length:= by omega
  rw[hil,List.take_length]at hp hab
  exact⟨_,rfl,L1,V1,⟨hI1,hsp, fun c q=>hal c q, fun c q=>q.subP (fun j hj=> by rw[hp]at hj;unfold Wf at hj;split at hj; exact absurd U hj; exact hj) hT,hpg⟩, by rw[hab,PL hI.zero (allP hks)];rfl,Px (fun j hj=> by rw[hp]at hj;unfold Wf at hj;split at hj; exact absurd U hj; exact hj) hT,(Xe (m:=n+2*c) (by omega) (hS3.pick [1,0,3] U)).reorder [1,0,2] U⟩
 exact absurd U h1
end Go.Proofs.YtkcjfoaejijdoaaGreatDoor
