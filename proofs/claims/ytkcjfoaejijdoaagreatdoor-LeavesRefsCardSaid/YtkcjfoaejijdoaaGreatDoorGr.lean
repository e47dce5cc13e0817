/- A walk that keeps how the world has grown. Conditions: each rule's own hypotheses. -/
import Derived.Test.YtkcjfoaejijdoaaGreatDoorSh13
import Derived.Test.YtkcjfoaejijdoaaGreatDoorCk2
import Derived.Test.YtkcjfoaejijdoaaGreatDoorLv9
import Derived.Shelf.Spec.TrailingZeros
set_option linter.unusedSectionVars false
set_option linter.unusedVariables false
set_option maxRecDepth 100000
set_option maxHeartbeats 80000000000
namespace Go.Proofs.YtkcjfoaejijdoaaGreatDoor.M
open Go.RowKit Go.Sort
def kC:RowC (Bs×Int):=⟨fun x=>[strV x.1,intV x.2],2, by decide, fun _=>rfl, fun _=>rfl⟩
def GrW (W w:World):Prop:= ∃q os,w=grow (W.drewN q) os
theorem GrW.refl (W:World):GrW W W:=⟨0, #[], by rw[grow_empty];rfl⟩
theorem GrW.trans {W w w':World} (h:GrW W w) (h':GrW w w'):GrW W w':= by
  obtain⟨q,os,rfl⟩:=h
  obtain⟨q',os',rfl⟩:=h'
  exact⟨q+q',os++os', by show grow (grow ((W.drewN q).drewN q') os) os'=_; rw[grow_grow,World.drewN_drewN]⟩
theorem GrW.drew {W:World}:GrW W W.drew:=⟨1, #[], by rw[grow_empty];rfl⟩
theorem GrW.alloc {W:World} {o:Obj}:GrW W (W.alloc o):=⟨0, #[o], by rw[alloc_eq_grow];rfl⟩
section
variable {P:Program} {n:Nat} {ops:Array Oper} {Q:Exit→Act→World→Prop} {rest:List Oper} {L:Env} {w:World} {d:Nat} {ty:TypeId} {pos:String} {aft:Array Edge}
theorem GI {t:Nat} {x:Operand} {v:Value} {As:List Th} (hS:Sat w As) (hx:look L x=some v) {cs:List Value} (hcs:v.cells.toList=cs) (hd:Nat.blt d n=true) (hk: ∀b w',GrW w w'→Sat w' (Q3 b cs::As)→wl P n ops Q rest ((d,ptrV b 0)::L) w'):wl P n ops Q (⟨some d,.box t x,ty,pos,aft,none⟩::rest) L w:= by
  subst hcs
  refine XS U hd (R:= fun u w'=>u=ptrV w.heap.size 0∧w'=w.alloc (.cells v.cells t)) (fun a ha=>⟨_,_,.inl ?_,rfl,rfl⟩) (fun u w' ⟨e1,e2⟩=> ?_)
  · simp [execOp,ha.eval hx,Instr.box,newVar,newRow]
  · subst e1 e2
    exact hk _ _ .alloc (hS.blk_new (Blk.new' w _ t) ((Only.refl _ _).alloc _) (Nat.le_refl _))
theorem Bq {As:List Th} (hS:Sat w As) {t e size len:Nat} {z:Value} {parts:List (Nat×Operand)} {vs:List Value} (hx:WM L (parts.map (·.2))=some vs) (hu:P.underlying t=some (.slice e)) (hi:(P.info? e).map (fun i=>(i.zero,i.size))=some (some z,size)) (hlen:Nat.ble (len*size) 1000=true) (hzs:z.cells.size=size)
    (hok:JD (len*size) ((parts.map (·.1)).map fun i=>(i*size,size)) vs=true) (hd:Nat.blt d n=true)
    (hk: ∀b w',GrW w w'→Sat w' (WK (.slice (some ⟨b,0,none⟩) len len) len size (Jl (List.replicate len z.cells.toList).flatten ((parts.map (·.1)).map fun i=>(i*size,size)) vs)::As)→wl P n ops Q rest ((d,.slice (some ⟨b,0,none⟩) len len)::L) w'):wl P n ops Q (⟨some d,.buildSlice t len parts.toArray,ty,pos,aft,none⟩::rest) L w:= by
  obtain⟨ii,hi1,hi2⟩:=Option.map_eq_some_iff.1 hi
  simp only[Prod.mk.injEq]at hi2
  have hle:len*size≤1000:=Xa hlen
  have hzl:((Array.range (len*size)).map (z.cells[· %z.cells.size]!)).toList=(List.replicate len z.cells.toList).flatten:= by
    rw[←hzs]; exact J4 z.cells len
  have hzsz:((Array.range (len*size)).map (z.cells[· %z.cells.size]!)).size=len*size:= by simp
  have hf:=U4 (fun i=>some (i*size,size)) (parts.map (·.1)) ((parts.map (·.1)).map fun i=>(i*size,size)) vs ((Array.range (len*size)).map (z.cells[· %z.cells.size]!)) (by simp [Function.comp_def]) (by rw[hzsz]; exact hok)
  rw[hzl]at hf
  generalize hcs:Jl (List.replicate len z.cells.toList).flatten ((parts.map (·.1)).map fun i=>(i*size,size)) vs=cells at hf hk
  have hcl:cells.length=len*size:= by
    have hgen: ∀(pls:List (Nat×Nat)) (vs:List Value) (zz:List Value),JD zz.length pls vs=true→(Jl zz pls vs).length=zz.length:= by
      intro pls
      induction pls with
      | nil=> intro vs zz _; cases vs<;>rfl
      | cons p pls ih=>
        intro vs zz h
        cases vs with
        | nil=>rfl
        | cons v vs=>
          simp only[JD,Bool.and_eq_true]at h
          have h1:=Nat.eq_of_beq_eq_true h.1.1
          have h2:=Xa h.1.2
          have hl:(X9 zz p.1 v.cells.toList).length=zz.length:=Jb (by simp [h1];omega)
          simp only[Jl]
          rw[ih vs _ (by rw[hl]; exact h.2),hl]
    have hzl2:(List.replicate len z.cells.toList).flatten.length=len*size:= by simp [hzs]
    rw[←hcs,hgen _ _ _ (by rw[hzl2]; exact hok),hzl2]
  refine XS U hd (R:= fun v w'=>v= .slice (some ⟨w.heap.size,0,none⟩) len len∧w'=w.alloc (.cells cells.toArray e)) (fun a ha=>⟨_,_,.inl ?_,rfl,rfl⟩) ?_
  · have hzv:(zeroValue e).run P w= .ok z w:= by simp [zeroValue,typeInfo,hi1,hi2.1]
    have hso:(sizeOf e).run P w= .ok size w:= by simp [sizeOf,typeInfo,hi1,hi2.2]
    have hev:=ha.evals hx
    have hp:(parts.toArray.map fun (i,x)=>(i,a.eval x)).toList=(parts.map (·.1)).zip vs:= by
      rw[←hev]
      simp
      clear hev hx hf hcs hok
      induction parts with
      | nil=>rfl
      | cons p ps ih=> simp [ih]
    have hno: ¬(2^24<len*size):= by omega
    by_cases hz0:len*size=0
    · have hf':Instr.fill (fun i=>some (i*size,size)) #[] ((parts.map (·.1)).zip vs)=some cells.toArray:= by
        rw[hz0, show Array.range 0= #[] from rfl]at hf;simpa using hf
      simp only[execOp,Instr.buildSlice]
      have hr0:Array.range 0= #[]:=rfl
      simp [run_underlying hu,hso,hz0,newRow,hr0]
      simp at hp
      rw[hp,hf']
      simp
    · simp only[execOp,Instr.buildSlice]
      simp [run_underlying hu,hso,hz0,hno,hzv,newRow]
      simp at hp
      rw[hp,hf]
      simp
  · rintro v w' ⟨rfl,rfl⟩
    exact hk _ _ .alloc (hS.new ((Only.refl _ _).alloc _) (F':= fun k=>k∈[w.heap.size]) (A:=WK _ _ _ _) ⟨[w.heap.size],rfl,Uz (sp:=[]) (by simpa using Blk.new w cells e) (by simpa using hcl) (Nat.le_refl _) (by simpa using hcl)⟩ (fun k hk=> by simp at hk;omega))
theorem KC {α:Type} {As:List Th} (C:RowC α) (l:List α) (hS:Sat w As) {t e len:Nat} {z:Value} {parts:List (Nat×Operand)} {vs:List Value} (hx:WM L (parts.map (·.2))=some vs) (hu:P.underlying t=some (.slice e)) (hi:(P.info? e).map (fun i=>(i.zero,i.size))=some (some z,C.size)) (hlen:Nat.ble (len*C.size) 1000=true) (hzs:z.cells.size=C.size)
    (hok:JD (len*C.size) ((parts.map (·.1)).map fun i=>(i*C.size,C.size)) vs=true) (hl:l.length=len) (he:Jl (List.replicate len z.cells.toList).flatten ((parts.map (·.1)).map fun i=>(i*C.size,C.size)) vs=C.cells l) (hd:Nat.blt d n=true)
    (hk: ∀b w',GrW w w'→Sat w' (rowT C (.slice (some ⟨b,0,none⟩) len len) l::As)→wl P n ops Q rest ((d,.slice (some ⟨b,0,none⟩) len len)::L) w'):wl P n ops Q (⟨some d,.buildSlice t len parts.toArray,ty,pos,aft,none⟩::rest) L w:= by
  refine Bq hS hx hu hi hlen hzs hok hd ?_
  intro b w' hg h
  exact hk b w' hg (h.row_cast hl.symm U he)
section
variable {P:Program} {n:Nat} {ops:Array Oper} {Q:Exit→Act→World→Prop} {rest:List Oper} {L:Env} {w:World} {d:Nat} {ty:TypeId} {pos:String} {aft:Array Edge} {t t2:TypeId} {x y:Operand}
theorem Oh {a b:BitVec 64} (hx:look L x=some (Zz a)) (hy:look L y=some (Zz b)):Ev P L w ⟨some d,.binOp .sub t x y t2,ty,pos,aft,none⟩ (Zz (a -b)):=
  Bb hx hy (by
    rw[IntKind.wrap_u64,BitVec.toNat_sub]
    have :=a.isLt; have :=b.isLt
    omega)
theorem LY {a b:BitVec 64} (hx:look L x=some (Zz a)) (hy:look L y=some (Zz b)) (hd:Nat.blt d n=true) (hk:wl P n ops Q rest ((d,Zz (a -b))::L) w):wl P n ops Q (⟨some d,.binOp .sub t x y t2,ty,pos,aft,none⟩::rest) L w:=Xu hd (Oh hx hy) hk
end
end
end Go.Proofs.YtkcjfoaejijdoaaGreatDoor.M
namespace Go.Proofs.YtkcjfoaejijdoaaGreatDoor
open Go.RowKit M
variable [Inhabited SlW]
theorem Ns (x:BitVec 64) (h:x≠0#64):Lib.ctz 64 x.toNat<64∧ ∀j,j<64→((x&&&(x -1#64)).getLsbD j=(x.getLsbD j&&decide (j≠Lib.ctz 64 x.toNat)))∧x.getLsbD (Lib.ctz 64 x.toNat)=true:= by
  have h0:x.toNat≠0:= fun q=>h (BitVec.eq_of_toNat_eq (by simpa using q))
  obtain⟨m,hm,hk⟩:=Lib.ctzFrom_spec 64 x.toNat (by omega) x.isLt
  have e:Lib.ctz 64 x.toNat=Lib.ctzFrom 64 x.toNat:= by simp [Lib.ctz,h0]
  rw[←e]at hm hk
  generalize Lib.ctz 64 x.toNat=k at hm hk
  have hx1:(x -1#64).toNat=x.toNat -1:= by
    rw[BitVec.toNat_sub]; have :=x.isLt; simp;omega
  have hp:0<2^k:=Nat.two_pow_pos k
  have hbit: ∀j,x.getLsbD j=x.toNat.testBit j:= fun j=> by rw[←BitVec.testBit_toNat]
  have hbit1: ∀j,(x -1#64).getLsbD j=(x.toNat -1).testBit j:= fun j=> by rw[←BitVec.testBit_toNat,hx1]
  have q1:x.toNat=2^k*(2*m)+2^k:= by rw[hm]; rw[Nat.mul_add]; simp
  have q2:x.toNat -1=2^k*(2*m)+(2^k -1):= by omega
  refine⟨hk, fun j hj=>⟨?_, ?_⟩⟩
  · rw[BitVec.getLsbD_and,hbit,hbit1]
    rcases Nat.lt_trichotomy j k with hjk | rfl | hjk
    · have a:x.toNat.testBit j=false:= by
        rw[hm,Nat.testBit_two_pow_mul]; simp;omega
      simp [a]
    · have b:(x.toNat -1).testBit j=false:= by
        rw[q2,Nat.testBit_two_pow_mul_add _ (by omega)]; simp
      simp [b]
    · have b:(x.toNat -1).testBit j=x.toNat.testBit j:= by
        rw[q2,hm,Nat.testBit_two_pow_mul_add _ (by omega),Nat.testBit_two_pow_mul]
        have h3: ¬j<k:= by omega
        have h4:j≥k:= by omega
        simp only[h3,if_false,h4,decide_true,Bool.true_and]
        obtain⟨i,hi⟩: ∃i,j -k=i+1:=⟨j -k -1, by omega⟩
        rw[hi,Nat.testBit_succ,Nat.testBit_succ]
        congr 1;omega
      rw[b]
      have :j≠k:= by omega
      simp [this]
  · rw[hbit,hm,Nat.testBit_two_pow_mul]; simp
theorem RankI.av {T:Int→Option TrD} {m:Nat} (h:RankI T m) (i0:Int): ∃Av:Int→Prop,(∀t,T i0=some t→Av t.parent)∧ ∀i u,Av i→T i=some u→i≠i0∧Av u.parent:= by
  obtain⟨h0,r,a,b⟩:=h
  refine⟨fun i=>T i≠none→r i<r i0, fun t ht hp=> ?_, fun i u hi hu=> ?_⟩
  · rcases b i0 t ht with e | e
    · rw[e]at hp; exact absurd h0 hp
    · exact e.2
  · have h1:r i<r i0:=hi (by rw[hu]; simp)
    refine⟨fun e=> by rw[e]at h1;omega, fun hp=> ?_⟩
    rcases b i u hu with e | e
    · rw[e]at hp; exact absurd h0 hp
    · omega
def GT (w:World):Prop:=TabAt 0 Lib.deBruijn64tab w
def VK (L:LvD) (V:VS) (t:TrD) (k:KD) (x:LfD):Prop:= ∀j,j<64→x.rd.getLsbD j=true→(XH V x.base)[j]? =(XH V (X2 L t.parent k))[j]?
theorem Uv {κ α:Type} {ad:α→Nat} {f:κ→Option α} {k:κ} {v:Value} (h:Xv ad f k=some v): ∃x,f k=some x∧v=ptrV (ad x) 0:= by
  unfold Xv at h
  cases q:f k with
  | none=> rw[q]at h; cases h
  | some x=> rw[q]at h; exact⟨x,rfl, by simpa using h.symm⟩
theorem tz_sp (x:BitVec 64) (w:World) (hT:GT w):Calls Tryz.prog 56 #[Zz x] w (Ret fun v w'=>v=intV (Lib.ctz 64 x.toNat)∧w'=w):=
  (Any7.bits_TrailingZeros64 Tryz.tz64 x.toNat x.isLt w (fun _=>hT)).mono fun e w' ⟨h1,h2⟩=>⟨_,h1,rfl,h2⟩
theorem Cw {w:World} {b:Nat} {L:LvD} {i0:Int} {F:Th} (hS:Sat w [Q3 b [ptrV L.sp 0,.map (some L.mp),.map (some L.mt),intV L.cur,.map (some L.ms)],Q5 Xo L.mp (Zg L.pres),Q5 QO L.mt (Xv TrD.ad L.tr),Zj HK (Xi L.tr i0 none),Q5 QO L.ms (ZZ L.sh),F]) (hE: ∀i,YS L.tr Zs i) {Av:Int→Prop} (hAv: ∀i u,Av i→L.tr i=some u→i≠i0∧Av u.parent) (id:Int) (hA0:Av id) (k:KD):
    Calls Tryz.prog 48 #[ptrV b 0,intV id,Xo k] w (Ret fun v w'=>v=intV (X2 L id k)∧Sat w' [Q3 b [ptrV L.sp 0,.map (some L.mp),.map (some L.mt),intV L.cur,.map (some L.ms)],Q5 Xo L.mp (Zg L.pres),Q5 QO L.mt (Xv TrD.ad L.tr),Zj HK (Xi L.tr i0 none),Q5 QO L.ms (ZZ L.sh),F]):= by
 refine Qm Tryz.func48 U Tryz.ntmps48 U ?_
 refine Qd (Qa (Zd hS U U U ?_))
 intro kb w1 hS1
 change Sat w1 [Q3 kb [strV k.1,intV k.2],_,_,_,_,_,_]at hS1
 refine Qe U U (Qf (Qc (Qd (Qv (Xb (fun K0 E0 W0=> ∃(m:Nat) (i:Int),K0=m+1∧E0=[(0,ptrV b 0),(1,intV i),(5,ptrV kb 0)]∧Sat W0 [Q3 kb [strV k.1,intV k.2],Q3 b [ptrV L.sp 0,.map (some L.mp),.map (some L.mt),intV L.cur,.map (some L.ms)],Q5 Xo L.mp (Zg L.pres),Q5 QO L.mt (Xv TrD.ad L.tr),Zj HK (Xi L.tr i0 none),Q5 QO L.ms (ZZ L.sh),F]∧(X2 L id k=JL L (m+1) i k)∧(YS L.tr m i)∧(m≤Zs)∧(Av i)) (L0:=[(0,_),(1,_),(5,_)]) (Zs+1) (RB U U U) ⟨Zs,id,rfl,rfl,hS1,rfl,hE id,Nat.le_refl _,hA0⟩ ?_)))))
 rintro _ _ w2 ⟨m,i,rfl,rfl,hS2,hse,hen,hm,hav⟩
 refine Qd (Qd (Qa (Qb U U (X0 U U U (Qf (Qc (Qs U (fun h3=> ?_) (fun h3=> ?_))))))))
 ·have hid0:i≠0:=h3
  refine Qt (Qc (Qv (Qd (Qa (Qb U U (Qj U U (Qg U Z7 U (Qn U WN (hS2.cell 1 U U) U (Qb U U (XT (k:=i) 3 hS2 keysInt Tryz.underlying82 U U U Yu (u:=(ptO TrD.ad (L.tr i))) (Uw _) U (Qe U U (Qf (Qc (Qh [5,1,0,7] U (Qd (Qd (Qa (Qb U U ?_))))))))))))))))))
  rcases hq_T:L.tr i with _ | t
  ·refine Wy Tryz.underlying94 U U U (Qf (Qc (Xf U (Qd (Qa (Qe U U (Qf (Qc (Qu (Qp (Qz (Qp (Qz (Qp (QR (.inr U) U U ?_)))))))))))))))
   exact⟨_,rfl, by rw[hse,Mj hid0 hq_T],hS2.pick [1,2,3,4,5,6] U⟩
  refine ZO Tryz.underlying94 U U U ?_
  have hqH:Xi L.tr i0 none i=some t:= by rw[Q7 (hAv _ _ hav hq_T).1]; exact hq_T
  have hS4:=ZB (hS2.pick [4,0,1,2,3,5,6] U) hqH
  refine Qf (Qc (QT U (Qt (Qc (Qd (Qd ?_))))))
  have hS5:=hS4.drew
  refine QF [0,1,2,3,4,5,6] [] We (by kernel_rfl) ?_
  refine QG U U U (Xh U U U (QV U U U ZU (Q4 U U U (Qr U Jy (hS5.cell 0 U U)) (Q4 U U U (XF U X7 Xc (hS5.blk 5 U) (Xa U) U) (Q4 U U U (Xz (k:=k) 1 hS5 keysKey Tryz.underlying90 U U U HQ (u:=(ptO LfD.ad (t.lv k))) (Uw _)) (Za U U U (VC.nil (Qc (Qh [5,1,0,7,8] U (Qd (Qa (Qb U U ?_))))))))))))
  rcases hq_X:t.lv k with _ | x
  ·refine J0 Tryz.underlying89 U U U (Qf (Qc (QT U (Qt (Qc (Qd (Qd ?_)))))))
   have hS7:=hS5.drew
   refine QF [0,1,2,3,4,5,6] [] We (by kernel_rfl) ?_
   refine QG U U U (Xh U U U (QV U U U Rh (Q4 U U U (Qr U MQ (hS7.cell 0 U U)) (QV U U U JV (Q4 U U U (Qr U WC (hS7.cell 5 U U)) (Q4 U U U (Xz (k:=k.1) 3 hS7 keysStr Tryz.underlying91 U U U zr_4 (u:= .bool (t.dr k.1)) (TT _ _)) (VC.nil (Qc (Qh [5,1,0,7,37] U (QN U (fun h8=> ?_) (fun h8=> ?_)))))))))))
   ·have hdr:t.dr k.1=true:=h8
    refine Qd (Qa (Qe U U (Qf (Qc (Qu (Qp (Qz (Qp (Qz (Qp (QR (.inr U) U U ?_)))))))))))
    have hS9:=ZW hqH (hS7.pick [0,1,2,3,4,5,6,7,8,9,10] U)
    exact⟨_,rfl, by rw[hse,Ml hid0 hq_T hq_X hdr],hS9.pick [2,3,4,0,5,6] U⟩
   have hdr:t.dr k.1=false:=h8
   refine Qt (Qc (Qa (Qb U U (Qj U U (Qg U JT U (Qn U QL (hS7.cell 0 U U) U (Qe U U (Qf (Qk ?_)))))))))
   have hS10:=ZW hqH (hS7.pick [0,1,2,3,4,5,6,7,8,9,10] U)
   obtain⟨m2,hm2,hen2⟩:=S9 hen hid0 hq_T
   exact Q0 (L1:=[(0,_),(1,intV t.parent),(5,_)]) (RB U U U) (k1:=m2+1) (by omega) ⟨m2,t.parent,rfl,rfl,hS10.pick [1,2,3,4,0,5,6] U, by rw[hse,hm2,PY hid0 hq_T hq_X hdr],hen2, by omega,(hAv _ _ hav hq_T).2⟩
  refine Hj Tryz.underlying89 U U U ?_
  have hS6:=JO (hS5.pick [2,0,1,3,4,5,6,7,8,9,10] U) hq_X
  refine Qf (Qc (Xf U (Qd (Qa (Qb U U (Qj U U (Qg U W5 U (Qn U QL (hS6.cell 0 U U) U (Qe U U (Qf (Qc (Qh [5,1,0,7,6] U (Qu (Qp (Qz (Qp (Qz (Qp (QR (.inr U) U U ?_)))))))))))))))))))
  have hS11:=ZX hq_X (hS6.pick [0,1,2,3,4,5,6,7,8,9,10,11] U)
  have hS12:=ZW hqH (hS11.pick [1,2,0,3,4,5,6,7,8,9,10] U)
  exact⟨_,rfl, by rw[hse,HX hid0 hq_T hq_X],hS12.pick [2,3,4,0,5,6] U⟩
 have hid0:i=0:=Decidable.not_not.1 h3
 refine QM (Qo (Qo (Qx (Qc (Qd ?_)))))
 have hS13:=hS2.drew
 refine QF [0,1,2,3,4,5,6] [] We (by kernel_rfl) ?_
 refine QG U U U (Xh U U U (QV U U U JU (Q4 U U U (Qr U Up (hS13.cell 1 U U)) (Q4 U U U (XF U X7 Xc (hS13.blk 0 U) (Xa U) U) (Q4 U U U (Xz (k:=k) 2 hS13 keysKey Tryz.underlying81 U U U YN (u:=intV (L.pres k)) (Ua _ _)) (Za U U U (VC.nil (Qc (Qh [6] U (Qu (QR (.inr U) U U ?_)))))))))))
 exact⟨_,rfl, by rw[hse,Yy hid0],hS13.pick [1,2,3,4,5,6] U⟩
end Go.Proofs.YtkcjfoaejijdoaaGreatDoor
namespace Go.Proofs.YtkcjfoaejijdoaaGreatDoor
open Go.RowKit M
variable [Inhabited SlW]
theorem LN {st s2 rd:BitVec 64} {pa pb:Bs} (hne:st≠0#64) (hsub: ∀j,j<64→st.getLsbD j=true→rd.getLsbD j=true) (hin: ∀j,j<64→rd.getLsbD j=true→st.getLsbD j=true∨pa[j]? =pb[j]?) (heq:pa[Lib.ctz 64 st.toNat]? =pb[Lib.ctz 64 st.toNat]?):
    (∀j,j<64→(st&&&(st -1#64)).getLsbD j=true→rd.getLsbD j=true)∧(∀j,j<64→rd.getLsbD j=true→(st&&&(st -1#64)).getLsbD j=true∨pa[j]? =pb[j]?)∧(st&&&(st -1#64)).toNat<st.toNat:= by
  obtain⟨h1,h2⟩:=Ns st hne
  refine⟨fun j hj h=> ?_, fun j hj h=> ?_, ?_⟩
  · rw[(h2 j hj).1,Bool.and_eq_true]at h; exact hsub j hj h.1
  · rcases hin j hj h with q | q
    · by_cases e:j=Lib.ctz 64 st.toNat
      · right; rw[e]; exact heq
      · left; rw[(h2 j hj).1,q]; simp [e]
    · exact .inr q
  · have h0:st.toNat≠0:= fun q=>hne (BitVec.eq_of_toNat_eq (by simpa using q))
    have h3:(st -1#64).toNat=st.toNat -1:= by
      rw[BitVec.toNat_sub]; have :=st.isLt; simp;omega
    rw[BitVec.toNat_and,h3]
    have :=Nat.and_le_right (n:=st.toNat) (m:=st.toNat -1)
    omega
theorem Fy {w:World} {m:Nat} {b n Fr:Nat} {L:LvD} {V:VS} {F:Th} (hS:Sat w [XY b L,XG L.sp n Fr V,F]) (hn:n≤60000000000) (hI:LvI m L V) (hm:m<Zs) (hG:Ent F GT) {id:Int} {t:TrD} (ht:L.tr id=some t):
    Calls Tryz.prog 14 #[ptrV b 0,intV id] w (Ret fun v w'=> ∃r:Bool,v= .bool r∧(r=true↔ ∀k x,t.lv k=some x→VK L V t k x)∧Sat w' [XY b L,XG L.sp n Fr V,F]):= by
 have h0:id≠0:=hI.rank.none0 ht
 obtain⟨Av,hA0,hAv⟩:=hI.rank.av id
 replace hS:=Xy hS
 refine Qm Tryz.func14 U Tryz.ntmps14 U ?_
 refine Qd (Qa (Qe U U (Qf (Qc (Qd (Qd (Qa (Qb U U (Xd U U U (Qf (Qc (Qs U (fun h1=> ?_) (fun h1=> ?_)))))))))))))
 ·exact absurd h1 h0
 refine Qt (Qc (Qd (Qa (Qb U U (Qj U U (Qg U Z7 U (Qn U WN (hS.cell 0 U U) U (Qb U U (XT (k:=id) 2 hS keysInt Tryz.underlying82 U U U Yu (u:=ptrV t.ad 0) (Zw ht) U (Qe U U (Qf (Qc (Qh [0,4,5] U (Qd (Qd (Qa (Qb U U (ZO Tryz.underlying94 U U U (Qf (Qc (QT U (Qt (Qc (Qd (Qd ?_)))))))))))))))))))))))))
 have hS2:=ZB (hS.pick [3,0,1,2,4,5,6] U) ht
 refine Qa (Qb U U (Qj U U (Qg U ZU U (Qn U Jy (hS2.cell 0 U U) U (Wm 1 hS2 Tryz.underlying90 U U U ?_)))))
 intro RR left0 wR hSR; dsimp only[List.set]at hSR
 clear hS2
 refine Qf (Qc (Qv (Xb (fun K0 E0 W0=> ∃(dn:KD→Prop) (cur:Option KD) (left:Nat),K0=left∧E0=[(0,ptrV b 0),(4,.bool false),(5,ptrV t.ad 0),(27,ptrV RR 0)]∧Sat W0 [Q3 t.ad [intV t.parent,.map (some t.ml),.map (some t.md)],Wq Xo t.ml RR (Xv LfD.ad t.lv) dn cur left,Zj VQ t.lv,Q5 Js t.md (ZZ t.dr),Zj HK (Xi L.tr id none),Q3 b [ptrV L.sp 0,.map (some L.mp),.map (some L.mt),intV L.cur,.map (some L.ms)],Q5 Xo L.mp (Zg L.pres),Q5 QO L.mt (Xv TrD.ad L.tr),Q5 QO L.ms (ZZ L.sh),XG L.sp n Fr V,F]∧(∀k x,dn k→t.lv k=some x→VK L V t k x)) (L0:=[(0,_),(4,_),(5,_),(27,_)]) (left0) (VN U U U U) ⟨_,_,_,rfl,rfl,hSR.pick [0,1,2,3,4,5,6,7,8,9,10] U, fun _ _ h=>h.elim⟩ ?_)))
 rintro _ _ w3 ⟨dn,cur,left,rfl,rfl,hS3,hok⟩
 refine Qd (Qa (WP 1 hS3 keysKey.inj U U U (fun hdone=> ?_) (fun k v left2 wN hleft hgk hnd hSN=> ?_)))
 ·refine Qq U U U (Qf (Qc (Qd (QT U (QM (Qo (Qo (Qx (Qc (Qd (Qa (Qe U U (Qf (Qc (Qu (QR (.inr U) U U ?_))))))))))))))))
  have hz:=ZQ (hS3.pick [1,0,2,3,4,5,6,7,8,9,10] U)
  have hS4:=ZW ht (hz.pick [1,0,2,3,4,5,6,7,8,9,10] U)
  exact⟨_,rfl,true,rfl,⟨fun _ k x hx=>hok k x (hdone _ _ (show Xv LfD.ad t.lv k=some (ptrV x.ad 0) by unfold Xv; rw[hx];rfl)) hx, fun _=>rfl⟩,QZ (hS4.pick [1,2,3,0,4,5,6] U)⟩
 dsimp only[List.set]at hSN
 obtain⟨x,hx,rfl⟩:=Uv hgk
 refine Qq U U U (Qf (Qc (Qd (Xf U (Qt (Qc (Qv (Qd (Qa (Wn 1 hSN U hgk U U (Qq U U U (Qq U U U (QX hSN Z2 U U ?_)))))))))))))
 intro kb wk5 hk5
 clear hSN
 refine QK hk5 U U Xc U (by rfl) (i:=0) U (by decide) ?_
 intro wk6 hk6; dsimp only[List.set]at hk6
 clear hk5
 replace hk6:=X5 (k:=k) hk6
 refine Qe U U (Qf (Qc (Qh [27,5,4,0,6,7] U (Qd ?_))))
 have hS7:=JO (hk6.pick [3,0,1,2,4,5,6,7,8,9,10,11] U) hx
 have hS8:=hS7.drew
 refine QF [0,1,2,3,4,5,6,7] [6] We (by kernel_rfl) ?_
 refine QG U U U (QG U U U (Xh U U U (QV U U U JT (Q4 U U U (Qr U QL (hS8.cell 3 U U)) (Q4 U U U (XF U X7 Xc (hS8.blk 2 U) (Xa U) U) (Xn U U U U U U ?_))))))
 refine Qw HM U (Cw (i0:=id) (hS8.sp [7,8,9,6,10] U) (hI.rank.ends hm) hAv t.parent (hA0 t ht) k) U ?_
 rintro _ w9 ⟨rfl,hS9⟩
 replace hS9:=hS9.jn U U
 clear hS8
 refine XQ (X1 (by kernel_rfl)) ?_
 refine Za U U U (VC.nil (Qc (Qh [27,5,4,0,7,8] U (Qd (Qd (Qa (Qb U U (Qj U U (Qg U J6 U (Qn U Jm (hS9.cell 5 U U) U (Xd U U U (Qb U U (QU 45 U (fun h10=> ?_) (fun h10=> ?_))))))))))))))
 ·have hrd0:x.rd=0#64:=BitVec.eq_of_toNat_eq (by simpa using h10)
  refine Qi U U (Xl h10) U (Qi U U (Xl h10) U (Qi U U (Xl h10) U (Qi U U (Xl h10) U (Qi U U (Xl h10) U (Qi U U (Xl h10) U (Q9 U (Xl h10) U U (Qf (Qc (Qh [27,5,4,0,7,8,52] U (Xf U (QM (Qo (Qx ?_)))))))))))))
  have hvk:VK L V t k x:= fun j hj h=>(by first | (rw[hrd0]at h; simp at h) | rw[hnb])
  have hS11:=ZX hx (hS9.pick [5,6,0,1,2,3,4,7,8,9,10,11,12] U)
  exact Q0 (L1:=[(0,_),(4,_),(5,_),(27,_)]) (VN U U U U) (k1:=left2) (by omega) ⟨_,_,_,rfl,rfl,hS11.pick [7,8,0,9,4,1,2,3,5,10,11] U, fun q y hq hy=>hq.elim (fun h=>hok q y h hy) (fun h=> by subst h; rw[hx]at hy; cases hy; exact hvk)⟩
 refine Ql U U (QC h10) (Qb U U (Ql U U (QC h10) (Qb U U (Ql U U (QC h10) (Qj U U (Ql U U (QC h10) (Qg U U3 U (Ql U U (QC h10) (Qn U QL (hS9.cell 5 U U) U (Ql U U (QC h10) (Xd U U U (QP U (QC h10) U U (Qf (Qc (Qh [27,5,4,0,7,8,52] U (Qs U (fun h12=> ?_) (fun h12=> ?_)))))))))))))))))
 ·have hnb:X2 L t.parent k=x.base:=h12
  refine QM (Qo (Qx ?_))
  have hvk:VK L V t k x:= fun j hj h=>(by first | (rw[hrd0]at h; simp at h) | rw[hnb])
  have hS13:=ZX hx (hS9.pick [5,6,0,1,2,3,4,7,8,9,10,11,12] U)
  exact Q0 (L1:=[(0,_),(4,_),(5,_),(27,_)]) (VN U U U U) (k1:=left2) (by omega) ⟨_,_,_,rfl,rfl,hS13.pick [7,8,0,9,4,1,2,3,5,10,11] U, fun q y hq hy=>hq.elim (fun h=>hok q y h hy) (fun h=> by subst h; rw[hx]at hy; cases hy; exact hvk)⟩
 refine Qt (Qc (Qd ?_))
 have hS14:=hS9.drew
 refine QF [0,1,2,3,4,5,6,7,9,10,11,12,13,8,14,15,16] [8,14] We (by kernel_rfl) ?_
 refine QG U U U (Xh U U U (QV U U U XN (Q4 U U U (Qr U Xk (hS14.cell 0 U U)) (QG U U U (Xh U U U (QV U U U U3 (Q4 U U U (Qr U QL (hS14.cell 5 U U)) (QG U U U (Xh U U U (QV U U U XN (Q4 U U U (Qr U Xk (hS14.cell 0 U U)) (QG U U U (Xn U U U U U U ?_)))))))))))))
 refine Qw Ya U (YP (hS14.sp [11] U) (x.base)) U ?_
 rintro _ w15 ⟨rfl,hS15⟩
 replace hS15:=hS15.jn U U
 clear hS14
 refine XQ (.cons (.inl ⟨rfl,(Qr U Xk (hS15.cell 1 U U))⟩) (X1 (by kernel_rfl))) ?_
 refine Xn U U U U U U ?_
 refine Qw Ya U (YP (hS15.sp [0] U) (X2 L t.parent k)) U ?_
 rintro _ w16 ⟨rfl,hS16⟩
 replace hS16:=hS16.jn U U
 clear hS15
 refine XQ (X1 (by kernel_rfl)) ?_
 refine Za U U U (Za U U U (VC.nil (Qc (Qh [27,5,4,0,7,9,10] U (Qd ?_)))))
 have hlb:=hI.len (s:=x.base) (by have :=hI.alive (.inr (id,k,false));rwa [Xj ht hx]at this)
 have hln:=hI.len (hI.aliveS t.parent k)
 refine Qa (Qb U U (Qj U U (Qg U J6 U (Qn U Jm (hS16.cell 6 U U) U (Qe U U (Qf (Qc (Qh [27,5,4,0,9,10,11] U (Qv ?_)))))))))
 refine Xb (fun K0 E0 W0=> ∃(st:BitVec 64),K0=st.toNat∧E0=[(0,ptrV b 0),(4,.bool false),(5,ptrV t.ad 0),(27,ptrV RR 0),(9,strV (XH V x.base)),(10,strV (XH V (X2 L t.parent k))),(11,Zz st)]∧Sat W0 [Q3 x.ad [intV x.base,intV x.own,Zz x.rd,Zz x.wr],Zj VQ (Xi t.lv k none),Q3 kb [strV k.1,intV k.2],Q3 t.ad [intV t.parent,.map (some t.ml),.map (some t.md)],Wq Xo t.ml RR (Xv LfD.ad t.lv) (fun j=>dn j∨j=k) (some k) left2,Q5 Js t.md (ZZ t.dr),Zj HK (Xi L.tr id none),Q3 b [ptrV L.sp 0,.map (some L.mp),.map (some L.mt),intV L.cur,.map (some L.ms)],Q5 Xo L.mp (Zg L.pres),Q5 QO L.mt (Xv TrD.ad L.tr),Q5 QO L.ms (ZZ L.sh),XG L.sp n Fr V,F]∧(∀j,j<64→st.getLsbD j=true→x.rd.getLsbD j=true)∧(∀j,j<64→x.rd.getLsbD j=true→st.getLsbD j=true∨(XH V x.base)[j]? =(XH V (X2 L t.parent k))[j]?)) (L0:=[(0,_),(4,_),(5,_),(27,_),(9,_),(10,_),(11,_)]) (x.rd.toNat) (D8 U U U U U U U) ⟨x.rd,rfl,rfl,hS16.pick [6,7,8,9,10,11,4,1,2,3,5,0,12] U, fun _ _ h=>h, fun _ _ h=> .inl h⟩ ?_
 rintro _ _ w17 ⟨st,rfl,rfl,hS17,hsub,hin⟩
 refine Qd (Qd (Qa (Qb U U (X0 U U U (Qf (Qc (Qs U (fun h18=> ?_) (fun h18=> ?_))))))))
 ·have hne:st≠0#64:= fun q=> by subst q; exact absurd h18 (by decide)
  refine Qt (Qc (Qd (Qv (Qd (Qa (Qb U U (Qw cal_56 U (tz_sp st _ (hG.sat hS17 12 U)) U ?_)))))))
  rintro _ _ ⟨rfl,rfl⟩
  have hcz:=Ns st hne
  have hci:=hcz.1
  obtain⟨ca,hca⟩: ∃ca,(XH V x.base)[Lib.ctz 64 st.toNat]? =some ca:=⟨_,Zi (by rw[hlb];omega)⟩
  obtain⟨cb,hcb⟩: ∃cb,(XH V (X2 L t.parent k))[Lib.ctz 64 st.toNat]? =some cb:=⟨_,Zi (by rw[hln];omega)⟩
  refine Qe U U (Qf (Qc (Qh [11,10,9,27,5,4,0,12] U (Qd ?_))))
  have hS19:=hS17.drew
  refine QF [0,1,2,3,4,5,6] [] We (by kernel_rfl) ?_
  refine QG U U U (QG U U U (Q4 U U U (Ui _ Tryz.underlying9 U U (by rfl) (by assumption)) ?_))
  refine QG U U U (QG U U U (Q4 U U U (Ui _ Tryz.underlying9 U U (by rfl) (by assumption)) ?_))
  refine X8 U U U (fun _=>(Tz U U)) ?_
  refine VC.nil (Qc (Qh [11,10,9,27,5,4,0,86] U (Qs U (fun h20=> ?_) (fun h20=> ?_))))
  ·have hnq:ca≠cb:= fun q=> by subst q; exact h20 U
   refine Qd (Qa (Qe U U (Qf (Qc (Qu (Qz (Qp (Qp (Qz (Qz (Qp (Qz (Qp (QR (.inr U) U U ?_))))))))))))))
   have hbad: ¬VK L V t k x:= fun q=> by have h1:=q _ hci (hsub _ hci ((hcz.2 0 (by omega)).2)); rw[hca,hcb]at h1; simp at h1; subst h1; exact hnq U
   have hS21:=ZX hx (hS19.pick [0,1,2,3,4,5,6,7,8,9,10,11,12] U)
   have hz:=ZQ (hS21.pick [3,2,0,4,5,6,7,8,9,10,11] U)
   have hS22:=ZW ht (hz.pick [1,0,2,3,4,5,6,7,8,9,10] U)
   exact⟨_,rfl,false,rfl,⟨(fun q=> by cases q), fun q=>absurd (q k x hx) hbad⟩,QZ (hS22.pick [1,2,3,0,4,5,6] U)⟩
  have heq:(XH V x.base)[Lib.ctz 64 st.toNat]? =(XH V (X2 L t.parent k))[Lib.ctz 64 st.toNat]? := by rw[hca,hcb];congr 1; have h0:=Decidable.not_not.1 h20; exact UInt8.toNat_inj.1 (by omega)
  refine Qt (Qk (Qc (Qa (Qb U U (Qb U U (LY (b:=1#64) U U U (Br U U U (Qe U U (Qf ?_)))))))))
  have hbn:=LN (s2:=st) hne hsub hin heq
  exact Q0 (L1:=[(0,_),(4,_),(5,_),(27,_),(9,_),(10,_),(11,Zz (st&&&(st -1#64)))]) (D8 U U U U U U U) (k1:=(st&&&(st -1#64)).toNat) hbn.2.2 ⟨_,rfl,rfl,hS19.pick [0,1,2,3,4,5,6,7,8,9,10,11,12] U,hbn.1,hbn.2.1⟩
 have hz0:st=0#64:=BitVec.eq_of_toNat_eq (by have :=Decidable.not_not.1 h18;simpa using this)
 refine QM (Qo (Qo (Qx (Qk ?_))))
 have hvk:VK L V t k x:= fun j hj h=>(hin j hj h).resolve_left (by rw[hz0]; simp)
 have hS23:=ZX hx (hS17.pick [0,1,2,3,4,5,6,7,8,9,10,11,12] U)
 exact Q0 (L1:=[(0,_),(4,_),(5,_),(27,_)]) (VN U U U U) (k1:=left2) (by omega) ⟨_,_,_,rfl,rfl,hS23.pick [2,3,0,4,5,6,7,8,9,10,11] U, fun q y hq hy=>hq.elim (fun h=>hok q y h hy) (fun h=> by subst h; rw[hx]at hy; cases hy; exact hvk)⟩
end Go.Proofs.YtkcjfoaejijdoaaGreatDoor
namespace Go.Proofs.YtkcjfoaejijdoaaGreatDoor
open Go.RowKit M
variable [Inhabited SlW]
def Pgs (V V':VS):Prop:= ∀j,Xq V' j→Xq V j∧XH V' j=XH V j
theorem NR {V:VS} {s j:Int} (h:Xq (Zb V s) j):Xq V j:= by
  rcases h with h | h
  · exact .inl h
  · exact .inr (DZ h)
theorem Pgs.refl {V:VS}:Pgs V V:= fun _ h=>⟨h,rfl⟩
theorem Pgs.trans {V V1 V2:VS} (h:Pgs V V1) (h':Pgs V1 V2):Pgs V V2:= fun j q=>⟨(h j (h' j q).1).1,(h' j q).2.trans (h j (h' j q).1).2⟩
theorem Pgs.ref {V:VS} {s:Int}:Pgs V (refW V s):= fun j q=>⟨q.imp_right Jv.1,JR⟩
theorem Pgs.unr {V:VS} {s:Int} (h0:V 0=none):Pgs V (Zb V s):= fun j q=>⟨NR q,RV h0 q⟩
section
variable {ex:Int→Int} {L L1 L':LvD} {V V1 V':VS} {id:Int} {t t1 t':TrD} {k:KD} {x y x1:LfD} {m Fr:Nat} {s a:Int}
theorem Ph (hx:NN ex) (hs:s≠0→1≤ex s):NN (fun j=>ex j -dl s j):= fun j hj=> by
  show 0≤ex j -dl s j
  have :=hx j hj
  by_cases e:j=s
  · subst e; have :=hs hj; rw[Wt];omega
  · rw[Ja e];omega
theorem setX (hI:LvX ex m L V) (hx:NN ex) (hs:s≠0→1≤ex s) (hp:L'.pres=Zv L.pres k s) (hT:L'.tr=L.tr):
    LvX (fun j=>ex j -dl s j) m L' (Zb V (L.pres k))∧Q1 L' (Zb V (L.pres k))={Q1 L V with pres:=UA (Q1 L V).pres k (XH V s)}:= by
  have hf:=Gb hp hT
  have hh:QJ L (.inl k)=L.pres k:=rfl
  have a1:=(((hI.ref.put (.inl k) s).fn hf).unr (hI.aliveX hx (.inl k)))
  rw[hh]at a1
  have a2:RefI (QJ L') (Zb V (L.pres k)) (fun j=>ex j -dl s j):=a1.ext fun j hj=> by omega
  have nn:NN (fun j=>ex j -dl s j):=Ph hx hs
  have hc: ∀p,XH (Zb V (L.pres k)) (QJ L' p)=XH V (QJ L' p):= fun p=>RV hI.zero (a2.aliveN U (nn _))
  have e1:Q1 L' (Zb V (L.pres k))={Q1 L V with pres:=UA (Q1 L V).pres k (XH V s)}:= by
    rw[VM (V:=V) (V':=Zb V (L.pres k)) hp hT fun p hp=> by have :=hc p;rwa [hf,XM hp]at this]
    have :=hc (.inl k)
    rw[hf,X4]at this
    rw[this]
  exact⟨⟨a2, by rw[hT]; exact hI.rank, by rw[e1]; exact hI.agree⟩,e1⟩
theorem ownX (hI:LvX ex m L V) (hx:NN ex) (hs:s≠0→1≤ex s) (ht:L.tr id=some t) (hl:t.lv k=some x) (hp:L'.pres=L.pres) (hT:L'.tr=Xi L.tr id (some {t with lv:=Xi t.lv k (some y)})) (hb:y.base=x.base) (ho:y.own=s)
    (hg:NH {Wl V x with own:=XH V s,rd:=y.rd,wr:=y.wr}):
    LvX (fun j=>ex j -dl s j) m L' (Zb V x.own)∧Q1 L' (Zb V x.own)=Z6 (Q1 L V) id k {Wl V x with own:=XH V s,rd:=y.rd,wr:=y.wr}:= by
  have hf: ∀q,QJ L' q=UA (QJ L) (.inr (id,k,true)) s q:= fun q=> by
    rw[Y0 (x:=y) hp hT ht U,hb,ho,Yf (f:=QJ L) (v:=x.base) (by rw[Xj ht hl];rfl)]
  have hh:QJ L (.inr (id,k,true))=x.own:= by rw[Xj ht hl];rfl
  have a1:=(((hI.ref.put (.inr (id,k,true)) s).fn hf).unr (hI.aliveX hx (.inr (id,k,true))))
  rw[hh]at a1
  have a2:RefI (QJ L') (Zb V x.own) (fun j=>ex j -dl s j):=a1.ext fun j hj=> by omega
  have nn:NN (fun j=>ex j -dl s j):=Ph hx hs
  have hc: ∀p,XH (Zb V x.own) (QJ L' p)=XH V (QJ L' p):= fun p=>RV hI.zero (a2.aliveN U (nn _))
  have e1:Q1 L' (Zb V x.own)=Z6 (Q1 L V) id k {Wl V x with own:=XH V s,rd:=y.rd,wr:=y.wr}:= by
    rw[Yb (V:=V) (V':=Zb V x.own) (x:=y) hp hT ht U fun p h1 h2=> by have :=hc p;rwa [hf,XM h2]at this]
    congr 1
    have h1:=hc (.inr (id,k,true))
    have h2:=hc (.inr (id,k,false))
    rw[hf,X4]at h1
    rw[hf,XM (by simp),Xj ht hl]at h2
    simp at h2
    simp [Wl,hb,ho,h1,h2]
  exact⟨⟨a2, by rw[hT]; exact hI.rank.same (WA ht U), by rw[e1]; exact hI.agree.put hg⟩,e1⟩
theorem LvX.refW (hI:LvX ex m L V) (ha:Xq V s):LvX (fun j=>ex j+dl s j) m L (refW V s)∧Q1 L (refW V s)=Q1 L V:= by
  have e:Q1 L (Go.Proofs.YtkcjfoaejijdoaaGreatDoor.refW V s)=Q1 L V:=U9 fun p=>JR
  exact⟨⟨hI.ref.ref ha,hI.rank, by rw[e]; exact hI.agree⟩,e⟩
theorem LvX.unr (hI:LvX ex m L V) (hx:NN ex) (hs:s≠0→1≤ex s):LvX (fun j=>ex j -dl s j) m L (Zb V s)∧Q1 L (Zb V s)=Q1 L V:= by
  have ha:Xq V s:= by
    by_cases h0:s=0
    · exact .inl h0
    · obtain⟨n,a,b⟩:=hI.ref.1 s h0
      have :=hs h0
      exact .inr (hI.ref.alive_of (by omega))
  have nn:NN (fun j=>ex j -dl s j):=Ph hx hs
  have a2:=hI.ref.unr ha
  have e:Q1 L (Zb V s)=Q1 L V:=U9 fun p=>RV hI.zero (a2.aliveN U (nn _))
  exact⟨⟨a2,hI.rank, by rw[e]; exact hI.agree⟩,e⟩
theorem LvX.ext {ex':Int→Int} (hI:LvX ex m L V) (h: ∀j,j≠0→ex' j=ex j):LvX ex' m L V:=⟨hI.ref.ext h,hI.rank,hI.agree⟩
theorem LvX.same (hI:LvX ex m L V) (hp:L'.pres=L.pres) (hT:L'.tr=L.tr):LvX ex m L' V∧Q1 L' V=Q1 L V:= by
  have e:Q1 L' V=Q1 L V:= by unfold Q1; rw[hp,hT]
  have hf:QJ L'=QJ L:= by funext p; cases p<;> simp [QJ,hp,hT]
  exact⟨⟨by rw[hf]; exact hI.ref, by rw[hT]; exact hI.rank, by rw[e]; exact hI.agree⟩,e⟩
end
structure StepX (ex:Int→Int) (m:Nat) (L:LvD) (V:VS) (ex':Int→Int) (m' d e:Nat) (L':LvD) (V':VS):Prop where
  inv:LvX ex' m' L' V'
  sp:L'.sp=L.sp
  al: ∀c,AliveLe V c→AliveLe V' (c+d)
  sz: ∀c,SzLe L c→SzLe L' (c+e)
  pg:Pgs V V'
theorem StepX.refl {ex:Int→Int} {m d e:Nat} {L:LvD} {V:VS} (h:LvX ex m L V):StepX ex m L V ex m d e L V:=⟨h,rfl, fun _ q=>q.mono (by omega), fun _ q=>q.mono (by omega),.refl⟩
theorem StepX.trans {ex ex1 ex2:Int→Int} {m m1 m2:Nat} {L L1 L2:LvD} {V V1 V2:VS} {d d1 e e1:Nat} (h:StepX ex m L V ex1 m1 d e L1 V1) (h':StepX ex1 m1 L1 V1 ex2 m2 d1 e1 L2 V2):StepX ex m L V ex2 m2 (d+d1) (e+e1) L2 V2:=
  ⟨h'.inv,h'.sp.trans h.sp, fun c q=>(h'.al _ (h.al c q)).mono (by omega), fun c q=>(h'.sz _ (h.sz c q)).mono (by omega),h.pg.trans h'.pg⟩
theorem StepX.up {ex ex1:Int→Int} {m m1:Nat} {L L1:LvD} {V V1:VS} {d d1 e e1:Nat} (h:StepX ex m L V ex1 m1 d e L1 V1) (h1:d≤d1) (h2:e≤e1):StepX ex m L V ex1 m1 d1 e1 L1 V1:=
  ⟨h.inv,h.sp, fun c q=>(h.al c q).mono (by omega), fun c q=>(h.sz c q).mono (by omega),h.pg⟩
theorem StepX.plain {m m1:Nat} {L L1:LvD} {V V1:VS} {d e:Nat} (h:StepX (fun _=>0) m L V (fun _=>0) m1 d e L1 V1):StepI m L V m1 d e L1 V1:=⟨h.inv,h.sp,h.al,h.sz⟩
def NG (L:LvD) (j:Int) (q:KD):Prop:=(j=0∧L.pres q≠0)∨ ∃t x,L.tr j=some t∧t.lv q=some x
def OthK (L L':LvD) (p:Int) (P:KD→Prop):Prop:=(∀i,i≠p→L'.tr i=L.tr i)∧ ∀j q,NG L' j q→NG L j q∨(j=p∧P q)
theorem OthK.refl {L:LvD} {p:Int} {P:KD→Prop}:OthK L L p P:=⟨fun _ _=>rfl, fun _ _ h=> .inl h⟩
theorem OthK.trans {L L1 L2:LvD} {p:Int} {P Q R:KD→Prop} (h:OthK L L1 p P) (h':OthK L1 L2 p Q) (hP: ∀q,P q→R q) (hQ: ∀q,Q q→R q):OthK L L2 p R:=
  ⟨fun i hi=>(h'.1 i hi).trans (h.1 i hi), fun j q hk=> by
    rcases h'.2 j q hk with a | ⟨a,b⟩
    · rcases h.2 j q a with c | ⟨c,d⟩
      · exact .inl c
      · exact .inr ⟨c,hP q d⟩
    · exact .inr ⟨a,hQ q b⟩⟩
theorem SzLe.keys {L:LvD} {c:Nat} (h:SzLe L c): ∃l:List (Int×KD),l.length≤c∧ ∀j q,NG L j q→(j,q)∈l:= by
  obtain⟨l,a,b,d⟩:=h
  refine⟨l,a, fun j q hk=> ?_⟩
  rcases hk with⟨rfl,e⟩ | ⟨t,x,e,f⟩
  · exact b q e
  · exact d j t q x e f
theorem SzLe.of_keys {L:LvD} {c:Nat} {l:List (Int×KD)} (h:l.length≤c) (hk: ∀j q,NG L j q→(j,q)∈l):SzLe L c:=⟨l,h, fun k e=>hk 0 k (.inl ⟨rfl,e⟩), fun i t k x e f=>hk i k (.inr ⟨t,x,e,f⟩)⟩
theorem OthK.sz2 {L L':LvD} {p id:Int} {P:KD→Prop} {c:Nat} (h:OthK L L' p P) (hP: ∀q,P q→NG L id q) (hc:SzLe L c):SzLe L' (2*c):= by
  obtain⟨l,a,b⟩:=hc.keys
  refine SzLe.of_keys (l:=l++l.map fun e=>(p,e.2)) (by simp;omega) fun j q hk=> ?_
  rcases h.2 j q hk with e | ⟨rfl,e⟩
  · exact List.mem_append_left _ (b j q e)
  · exact List.mem_append_right _ (List.mem_map.2 ⟨(id,q),b id q (hP q e),rfl⟩)
theorem OthK.szRem {L L1 L':LvD} {p id:Int} {P:KD→Prop} {c:Nat} (h:OthK L L1 p P) (hP: ∀q,P q→NG L id q) (h0:id≠0) (hr:L'.pres=L1.pres) (ht:L'.tr=Xi L1.tr id none) (hc:SzLe L c):SzLe L' c:= by
  obtain⟨l,a,b⟩:=hc.keys
  refine SzLe.of_keys (l:=l.map fun e=> if e.1=id then(p,e.2)else e) (by simpa using a) fun j q hk=> ?_
  have hj:j≠id∧NG L1 j q:= by
    rcases hk with⟨rfl,e⟩ | ⟨t,x,e,f⟩
    · exact⟨fun a=>h0 a.symm,.inl ⟨rfl, by rwa [hr]at e⟩⟩
    · rw[ht]at e
      by_cases g:j=id
      · subst g; rw[Qy]at e; cases e
      · rw[Q7 g]at e; exact⟨g,.inr ⟨t,x,e,f⟩⟩
  rcases h.2 j q hj.2 with e | ⟨rfl,e⟩
  · exact List.mem_map.2 ⟨(j,q),b j q e, by rw[if_neg hj.1]⟩
  · exact List.mem_map.2 ⟨(id,q),b id q (hP q e), by rw[if_pos U]⟩
theorem TouR.oth {L L1:LvD} {V V1:VS} {id i:Int} {t t1:TrD} {k:KD} {x1:LfD} (hT:TouR L V id t k L1 V1 t1 x1) (hi:i≠id):L1.tr i=L.tr i:= by
  rcases hT with⟨_,rfl,_,_⟩ | ⟨_,a,_,_,rfl,_⟩
  · rfl
  · exact Q7 hi
theorem TouR.othK {L L1 L':LvD} {V V1:VS} {id:Int} {t t1:TrD} {k:KD} {x1 y:LfD} (hT:TouR L V id t k L1 V1 t1 x1) (ht:L.tr id=some t) (hp:L'.pres=L1.pres) (hT':L'.tr=Xi L1.tr id (some {t1 with lv:=Xi t1.lv k (some y)})):OthK L L' id (fun q=>q=k):= by
  refine⟨fun i hi=> by rw[hT',Q7 hi,hT.oth hi], fun j q hk=> ?_⟩
  have hpr:L1.pres=L.pres:= by
    rcases hT with⟨_,rfl,_,_⟩ | ⟨_,a,_,_,rfl,_⟩
    · rfl
    · rfl
  have hlv: ∀q,q≠k→t1.lv q=t.lv q:= fun q hq=> by
    rcases hT with⟨_,_,_,rfl⟩ | ⟨_,a,_,rfl,_,_⟩
    · rfl
    · exact Q7 hq
  by_cases e:j=id
  · subst e
    by_cases e2:q=k
    · exact .inr ⟨rfl,e2⟩
    · left
      rcases hk with⟨e3,e4⟩ | ⟨u,x,e3,e4⟩
      · exact .inl ⟨e3, by rwa [hp,hpr]at e4⟩
      · rw[hT',Qy]at e3
        cases e3
        dsimp only at e4
        rw[Q7 e2,hlv q e2]at e4
        exact .inr ⟨t,x,ht,e4⟩
  · left
    rcases hk with⟨e3,e4⟩ | ⟨u,x,e3,e4⟩
    · exact .inl ⟨e3, by rwa [hp,hpr]at e4⟩
    · rw[hT',Q7 e,hT.oth e]at e3
      exact .inr ⟨u,x,e3,e4⟩
theorem E7 {L:LvD} {k:KD} {s:Int} {f:Int→Bool}:OthK L {L with pres:=Zv L.pres k s,sh:=f} 0 (fun q=>q=k):= by
  refine⟨fun _ _=>rfl, fun j q hk=> ?_⟩
  rcases hk with⟨e,h⟩ | h
  · by_cases e2:q=k
    · exact .inr ⟨e,e2⟩
    · simp only[Zv,if_neg e2]at h
      exact .inl (.inl ⟨e,h⟩)
  · exact .inl (.inr h)
theorem Px {L L':LvD} {p:Int} {P:KD→Prop} (hp: ∀q,L'.pres q≠0→L.pres q≠0) (hT:L'.tr=L.tr):OthK L L' p P:=
  ⟨fun i _=> by rw[hT], fun j q hk=> .inl (hk.imp (fun a=>⟨a.1,hp q a.2⟩) (fun ⟨t,x,a,b⟩=>⟨t,x, by rwa [hT]at a,b⟩))⟩
theorem Pw {L L':LvD} {id:Int} {t t':TrD} {P:KD→Prop} (ht:L.tr id=some t) (hp:L'.pres=L.pres) (hT:L'.tr=Xi L.tr id (some t')) (hg: ∀k x,t'.lv k=some x→t.lv k≠none):OthK L L' id P:= by
  refine⟨fun i hi=> by rw[hT,Q7 hi], fun j q hk=> .inl ?_⟩
  rcases hk with⟨e,h⟩ | ⟨u,x,e,h⟩
  · exact .inl ⟨e, by rwa [hp]at h⟩
  · rw[hT]at e
    by_cases e2:j=id
    · subst e2
      rw[Qy]at e
      cases e
      cases q2:t.lv q with
      | none=> exact absurd q2 (hg q x h)
      | some y=> exact .inr ⟨t,y,ht,q2⟩
    · rw[Q7 e2]at e; exact .inr ⟨u,x,e,h⟩
end Go.Proofs.YtkcjfoaejijdoaaGreatDoor
