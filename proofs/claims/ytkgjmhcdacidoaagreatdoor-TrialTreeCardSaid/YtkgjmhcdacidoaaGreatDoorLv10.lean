/- leaves: Byte, Begin, Sheet -/
import Derived.Test.YtkgjmhcdacidoaaGreatDoorLv5
import Derived.Shelf.Lays7
import Derived.Ground.Names7Prog
import Derived.Test.YtkgjmhcdacidoaaGreatDoorProg
import Derived.Test.YtkgjmhcdacidoaaGreatDoorSh13
import Derived.Test.YtkgjmhcdacidoaaGreatDoorCk2
import Derived.Shelf.Spec.TrailingZeros
set_option linter.unusedSectionVars false
set_option linter.unusedVariables false
set_option maxRecDepth 100000
set_option maxHeartbeats 80000000000
namespace Go.Proofs.YtkgjmhcdacidoaaGreatDoor
open Go.RowKit M Proofs.Tryz
variable [Inhabited SlW]
section
variable {L L1 L':LvD} {V V1 V':VS} {id:Int} {t t1 t':TrD} {k:KD} {x y x1:LfD} {m Fr:Nat} {a:Int}
theorem TouR.step (hT:TouR L V id t k L1 V1 t1 x1) (ht:L.tr id=some t) (hI:LvI m L V):StepI m L V m 0 1 L1 V1:= by
  obtain⟨h1,h2,h3,h4,h5⟩:=hT.inv ht hI
  exact⟨h1,hT.sp, fun c q=>(h4 c q).mono (by omega), fun c q=>hT.sz ht q⟩
def btA (c:Bs) (a:Int):UInt8:=c.getD a.toNat 0
theorem btV_pg {s:Int} (ha:0≤a∧a<64):btV V s a=btA (Zf V s) a:= by unfold btV btA; rw[if_pos ha]
theorem RankI.beg {T:Int→Option TrD} (h:RankI T m) {i p:Int} {u:TrD} (hi:1≤i) (hn:T i=none) (hp:u.parent=0∨T u.parent≠none):RankI (QO T i (some u)) (m+1):= by
  obtain⟨h0,r,a,b⟩:=h
  refine⟨by rw[Qz (by omega)]; exact h0,KQ r i (r u.parent+1), fun j=> ?_, fun j v hj=> ?_⟩
  · by_cases e:j=i
    · subst e; rw[XK]; have :=a u.parent;omega
    · rw[XT e]; have :=a j;omega
  · have hsome: ∀q,T q≠none→QO T i (some u) q≠none∧q≠i:= fun q hq=> by
      have :q≠i:= fun e=>hq (e▸hn)
      exact⟨by rw[Qz this]; exact hq,this⟩
    by_cases e:j=i
    · subst e
      rw[Qu]at hj
      cases hj
      rcases hp with hp | hp
      · exact .inl hp
      · obtain⟨h1,h2⟩:=hsome _ hp
        exact .inr ⟨h1, by rw[XK,XT h2];omega⟩
    · rw[Qz e]at hj
      rcases b j v hj with h1 | ⟨h1,h2⟩
      · exact .inl h1
      · obtain⟨h3,h4⟩:=hsome _ h1
        exact .inr ⟨h3, by rw[XT e,XT h4]; exact h2⟩
def Cz (A:LvA) (id parent:Int):Int:= if id<1 then 1 else if(A.tr id).isSome=true then 5 else if GM A parent=false then 4 else 0
noncomputable def UD (A:LvA) (id parent:Int):LvA:= if Cz A id parent=0 then{A with tr:=QO A.tr id (some ⟨parent, fun _=>none, fun _=>false⟩)}else A
theorem Cy {parent:Int}:Cz (QG L V) id parent=Jv L id parent:= by unfold Cz Jv; rw[Sj]; simp [QG]
theorem beg_fin (hI:LvI m L V) {parent:Int} {ad ml md:Nat}:StepI m L V (m+1) 0 0 (Cx L id parent ad ml md) V∧QG (Cx L id parent ad ml md) V=UD (QG L V) id parent:= by
  unfold UD
  rw[Cy]
  unfold Cx
  by_cases he:Jv L id parent=0
  · rw[if_pos he,if_pos he]
    have h1: ¬id<1:= fun q=> by unfold Jv at he; rw[if_pos q]at he;omega
    have h2:L.tr id=none:= by
      unfold Jv at he; rw[if_neg h1]at he
      cases q:L.tr id with
      | none=>rfl
      | some u=> rw[q]at he; simp at he
    have h3:JL L parent=true:= by
      unfold Jv at he; rw[if_neg h1,h2]at he
      cases q:JL L parent with
      | true=>rfl
      | false=> rw[q]at he; simp at he
    have h4:parent=0∨L.tr parent≠none:= by
      unfold JL at h3
      simp only[Bool.or_eq_true,decide_eq_true_eq]at h3
      exact h3.imp_right fun q e=> by rw[e]at q; cases q
    generalize hL':({L with tr:=QO L.tr id (some ⟨ad,ml,md,parent, fun _=>none, fun _=>false⟩)}:LvD)=L'
    have hP:L'.pres=L.pres:= by subst hL';rfl
    have hT:L'.tr=QO L.tr id (some ⟨ad,ml,md,parent, fun _=>none, fun _=>false⟩):= by subst hL';rfl
    have hf: ∀q,Xy L' q=Xy L q:= fun q=> by
      cases q with
      | inl j=> simp [Xy,hP]
      | inr q=>
        obtain⟨i,j,o⟩:=q
        simp only[Xy,hT]
        by_cases e:i=id
        · subst e; rw[Qu,h2]
        · rw[Qz e]
    have e1:QG L' V={QG L V with tr:=QO (QG L V).tr id (some ⟨parent, fun _=>none, fun _=>false⟩)}:= by
      unfold QG
      rw[hP,hT]
      congr 1
      funext i
      by_cases e:i=id
      · subst e; rw[Qu,Qu];rfl
      · rw[Qz e,Qz e]
    refine⟨⟨⟨hI.ref.fn hf, by rw[hT]; exact hI.rank.beg (p:=parent) (by omega) h2 h4, ?_⟩, by subst hL';rfl, fun _ q=>q, fun c q=> ?_⟩,e1⟩
    · rw[e1]
      intro i u k x hi hk
      dsimp only at hi
      by_cases e:i=id
      · subst e; rw[Qu]at hi; cases hi; cases hk
      · rw[Qz e]at hi; exact hI.agree i u k x hi hk
    · obtain⟨l,a,b,d⟩:=q
      refine⟨l,a, fun k hk=>b k (by rwa [hP]at hk), fun j u k x hj hk=> ?_⟩
      rw[hT]at hj
      by_cases e:j=id
      · subst e; rw[Qu]at hj; cases hj; cases hk
      · rw[Qz e]at hj; exact d j u k x hj hk
  · rw[if_neg he,if_neg he]
    exact⟨⟨⟨hI.ref,(by obtain⟨h0,r,a,b⟩:=hI.rank; exact⟨h0,r, fun i=>Nat.le_succ_of_le (a i),b⟩),hI.agree⟩,rfl, fun _ q=>q, fun _ q=>q⟩,rfl⟩
def leafB (L:LvD) (id:Int) (k:KD):Bool:= match L.tr id with | none=>false | some t=>(t.lv k).isSome
def oneB (L:LvD) (V:VS) (id:Int) (k:KD):Bool:=decide (X4 L id k≠0)&&(decide (Z9 V (X4 L id k)=1)&&(decide (id=0) || leafB L id k))
end
theorem Fi {w:World} {m:Nat} {b n Fr:Nat} {L:LvD} {V:VS} {F:Th} (hS:Sat w [WU b L,ZT L.sp n Fr V,F]) (hn:n≤60000000000) (ob:Bs) (a:Int) (hI:LvI m L V) (hm:m<Wd) (hr:0≤a∧a<16384):
    Calls prog 41 #[ptrV b 0,intV 0,strV ob,intV a] w (Ret fun v w'=>v=Y3 (btA ((QG L V).pres (ob,a/ 64)) (a%64))∧Sat w' [WU b L,ZT L.sp n Fr V,F]):= by
  refine(ER hS hn ob a (hI.rank.ends hm) hr).mono fun e w h=>h.mono fun v w h=> ?_
  exact⟨by rw[h.1,btV_pg (by omega)];rfl,h.2⟩
theorem begI_sp {w:World} {m b n Fr:Nat} {L:LvD} {V:VS} {F:Th} (hS:Sat w [WU b L,ZT L.sp n Fr V,F]) (hI:LvI m L V) (id parent:Int):
    Calls prog 48 #[ptrV b 0,intV id,intV parent] w (Ret fun v w'=> ∃L',v=intV (Cz (QG L V) id parent)∧StepI m L V (m+1) 0 0 L' V∧QG L' V=UD (QG L V) id parent∧Sat w' [WU b L',ZT L'.sp n Fr V,F]):= by
  refine(EY (hS.split [0] [true,false,false] U) id parent).mono fun e w h=>h.mono fun v w h=> ?_
  obtain⟨rfl,ad,ml,md,h⟩:=h
  have h1:=h.join U
  obtain⟨h2,h3⟩:=beg_fin (id:=id) (parent:=parent) (ad:=ad) (ml:=ml) (md:=md) hI
  refine⟨_, by rw[Cy],h2,h3, ?_⟩
  rw[h2.sp]; exact h1
end Go.Proofs.YtkgjmhcdacidoaaGreatDoor
namespace Go.Proofs
open Proofs.Tryz
open Go.Shelf
def Tryz.tz64_ren:Go.Shelf.Ren:=⟨fun | 29=>56 | n=>n, fun | 22=>118 | 3=>3 | 4=>4 | 25=>167 | 54=>166 | 0=>0 | 5=>5 | n=>n, fun | 1=>0 | n=>n⟩
theorem Tryz.tz64:Go.Proofs.Lays7.n29 prog Tryz.tz64_ren:={
  mixed:= by kernel_rfl
  f29:=func56.trans (congrArg some (by kernel_rfl))
  t0:=underlying0
  a0:=Tryz.isAgg0
  z0:=Tryz.sizeOf0
  v0:=Tryz.zeroValue0
  i0:= by kernel_rfl
  t3:=underlying3
  a3:=Tryz.isAgg3
  z3:=Tryz.sizeOf3
  v3:=Tryz.zeroValue3
  i3:= by kernel_rfl
  t4:=underlying4
  a4:=Tryz.isAgg4
  z4:=Tryz.sizeOf4
  v4:=Tryz.zeroValue4
  i4:= by kernel_rfl
  t5:=underlying5
  a5:=Tryz.isAgg5
  z5:=Tryz.sizeOf5
  v5:=Tryz.zeroValue5
  i5:= by kernel_rfl
  t22:=underlying118
  a22:=Tryz.isAgg118
  z22:=Tryz.sizeOf118
  v22:=Tryz.zeroValue118
  i22:= by kernel_rfl
  t25:=underlying167
  a25:=Tryz.isAgg167
  z25:=Tryz.sizeOf167
  v25:=Tryz.zeroValue167
  i25:= by kernel_rfl
  t54:=underlying166
  a54:=Tryz.isAgg166
  z54:=Tryz.sizeOf166
  g1:= by kernel_rfl}
end Go.Proofs
namespace Go.Proofs.YtkgjmhcdacidoaaGreatDoor.M
open Go.RowKit Go.Sort Proofs.Tryz
def kC:RowC (Bs×Int):=⟨fun x=>[strV x.1,intV x.2],2, by decide, fun _=>rfl, fun _=>rfl⟩
def GrW (W w:World):Prop:= ∃q os,w=grow (W.drewN q) os
theorem GrW.refl (W:World):GrW W W:=⟨0, #[], by rw[grow_empty];rfl⟩
theorem GrW.trans {W w w':World} (h:GrW W w) (h':GrW w w'):GrW W w':= by
  obtain⟨q,os,rfl⟩:=h
  obtain⟨q',os',rfl⟩:=h'
  exact⟨q+q',os++os', by show grow (grow ((W.drewN q).drewN q') os) os'=_; rw[grow_grow,World.drewN_drewN]⟩
theorem GrW.drew {W:World}:GrW W W.drew:=⟨1, #[], by rw[grow_empty];rfl⟩
theorem GrW.alloc {W:World} {o:Obj}:GrW W (W.alloc o):=⟨0, #[o], by rw[alloc_eq_grow];rfl⟩
section
variable {P:Program} {n:Nat} {ops:Array Oper} {Q:Exit→Act→World→Prop} {rest:List Oper} {L:Env} {w:World} {d:Nat} {ty:TypeId} {pos:String} {aft:Array Edge}
theorem RZ {t:Nat} {x:Operand} {v:Value} {As:List Th} (hS:Sat w As) (hx:look L x=some v) {cs:List Value} (hcs:v.cells.toList=cs) (hd:Nat.blt d n=true) (hk: ∀b w',GrW w w'→Sat w' (QE b cs::As)→wl P n ops Q rest ((d,ptrV b 0)::L) w'):wl P n ops Q (⟨some d,.box t x,ty,pos,aft,none⟩::rest) L w:= by
  subst hcs
  refine XG U hd (R:= fun u w'=>u=ptrV w.heap.size 0∧w'=w.alloc (.cells v.cells t)) (fun a ha=>⟨_,_,.inl ?_,rfl,rfl⟩) (fun u w' ⟨e1,e2⟩=> ?_)
  · simp [execOp,ha.eval hx,Instr.box,newVar,newRow]
  · subst e1 e2
    exact hk _ _ .alloc (hS.blk_new (Blk.new' w _ t) ((Only.refl _ _).alloc _) (Nat.le_refl _))
theorem G9 {As:List Th} (hS:Sat w As) {t e size len:Nat} {z:Value} {parts:List (Nat×Operand)} {vs:List Value} (hx:W8 L (parts.map (·.2))=some vs) (hu:P.underlying t=some (.slice e)) (hi:(P.info? e).map (fun i=>(i.zero,i.size))=some (some z,size)) (hlen:Nat.ble (len*size) 1000=true) (hzs:z.cells.size=size)
    (hok:Ju (len*size) ((parts.map (·.1)).map fun i=>(i*size,size)) vs=true) (hd:Nat.blt d n=true)
    (hk: ∀b w',GrW w w'→Sat w' (W6 (.slice (some ⟨b,0,none⟩) len len) len size (Wu (List.replicate len z.cells.toList).flatten ((parts.map (·.1)).map fun i=>(i*size,size)) vs)::As)→wl P n ops Q rest ((d,.slice (some ⟨b,0,none⟩) len len)::L) w'):wl P n ops Q (⟨some d,.buildSlice t len parts.toArray,ty,pos,aft,none⟩::rest) L w:= by
  obtain⟨ii,hi1,hi2⟩:=Option.map_eq_some_iff.1 hi
  simp only[Prod.mk.injEq]at hi2
  have hle:len*size≤1000:=Q7 hlen
  have hzl:((Array.range (len*size)).map (z.cells[· %z.cells.size]!)).toList=(List.replicate len z.cells.toList).flatten:= by
    rw[←hzs]; exact Jj z.cells len
  have hzsz:((Array.range (len*size)).map (z.cells[· %z.cells.size]!)).size=len*size:= by simp
  have hf:=Ue (fun i=>some (i*size,size)) (parts.map (·.1)) ((parts.map (·.1)).map fun i=>(i*size,size)) vs ((Array.range (len*size)).map (z.cells[· %z.cells.size]!)) (by simp [Function.comp_def]) (by rw[hzsz]; exact hok)
  rw[hzl]at hf
  generalize hcs:Wu (List.replicate len z.cells.toList).flatten ((parts.map (·.1)).map fun i=>(i*size,size)) vs=cells at hf hk
  have hcl:cells.length=len*size:= by
    have hgen: ∀(pls:List (Nat×Nat)) (vs:List Value) (zz:List Value),Ju zz.length pls vs=true→(Wu zz pls vs).length=zz.length:= by
      intro pls
      induction pls with
      | nil=> intro vs zz _; cases vs<;>rfl
      | cons p pls ih=>
        intro vs zz h
        cases vs with
        | nil=>rfl
        | cons v vs=>
          simp only[Ju,Bool.and_eq_true]at h
          have h1:=Nat.eq_of_beq_eq_true h.1.1
          have h2:=Q7 h.1.2
          have hl:(Xz zz p.1 v.cells.toList).length=zz.length:=WH (by simp [h1];omega)
          simp only[Wu]
          rw[ih vs _ (by rw[hl]; exact h.2),hl]
    have hzl2:(List.replicate len z.cells.toList).flatten.length=len*size:= by simp [hzs]
    rw[←hcs,hgen _ _ _ (by rw[hzl2]; exact hok),hzl2]
  refine XG U hd (R:= fun v w'=>v= .slice (some ⟨w.heap.size,0,none⟩) len len∧w'=w.alloc (.cells cells.toArray e)) (fun a ha=>⟨_,_,.inl ?_,rfl,rfl⟩) ?_
  · have hzv:(zeroValue e).run P w= .ok z w:= by simp [zeroValue,typeInfo,hi1,hi2.1]
    have hso:(sizeOf e).run P w= .ok size w:= by simp [sizeOf,typeInfo,hi1,hi2.2]
    have hev:=ha.evals hx
    have hp:(parts.toArray.map fun (i,x)=>(i,a.eval x)).toList=(parts.map (·.1)).zip vs:= by
      rw[←hev]
      simp
      clear hev hx hf hcs hok
      induction parts with
      | nil=>rfl
      | cons p ps ih=> simp [ih]
    have hno: ¬(2^24<len*size):= by omega
    by_cases hz0:len*size=0
    · have hf':Instr.fill (fun i=>some (i*size,size)) #[] ((parts.map (·.1)).zip vs)=some cells.toArray:= by
        rw[hz0, show Array.range 0= #[] from rfl]at hf;simpa using hf
      simp only[execOp,Instr.buildSlice]
      have hr0:Array.range 0= #[]:=rfl
      simp [run_underlying hu,hso,hz0,newRow,hr0]
      simp at hp
      rw[hp,hf']
      simp
    · simp only[execOp,Instr.buildSlice]
      simp [run_underlying hu,hso,hz0,hno,hzv,newRow]
      simp at hp
      rw[hp,hf]
      simp
  · rintro v w' ⟨rfl,rfl⟩
    exact hk _ _ .alloc (hS.new ((Only.refl _ _).alloc _) (F':= fun k=>k∈[w.heap.size]) (A:=W6 _ _ _ _) ⟨[w.heap.size],rfl,HZ (sp:=[]) (by simpa using Blk.new w cells e) (by simpa using hcl) (Nat.le_refl _) (by simpa using hcl)⟩ (fun k hk=> by simp at hk;omega))
theorem Kc {α:Type} {As:List Th} (C:RowC α) (l:List α) (hS:Sat w As) {t e len:Nat} {z:Value} {parts:List (Nat×Operand)} {vs:List Value} (hx:W8 L (parts.map (·.2))=some vs) (hu:P.underlying t=some (.slice e)) (hi:(P.info? e).map (fun i=>(i.zero,i.size))=some (some z,C.size)) (hlen:Nat.ble (len*C.size) 1000=true) (hzs:z.cells.size=C.size)
    (hok:Ju (len*C.size) ((parts.map (·.1)).map fun i=>(i*C.size,C.size)) vs=true) (hl:l.length=len) (he:Wu (List.replicate len z.cells.toList).flatten ((parts.map (·.1)).map fun i=>(i*C.size,C.size)) vs=C.cells l) (hd:Nat.blt d n=true)
    (hk: ∀b w',GrW w w'→Sat w' (rowT C (.slice (some ⟨b,0,none⟩) len len) l::As)→wl P n ops Q rest ((d,.slice (some ⟨b,0,none⟩) len len)::L) w'):wl P n ops Q (⟨some d,.buildSlice t len parts.toArray,ty,pos,aft,none⟩::rest) L w:= by
  refine G9 hS hx hu hi hlen hzs hok hd ?_
  intro b w' hg h
  exact hk b w' hg (h.row_cast hl.symm U he)
section
variable {P:Program} {n:Nat} {ops:Array Oper} {Q:Exit→Act→World→Prop} {rest:List Oper} {L:Env} {w:World} {d:Nat} {ty:TypeId} {pos:String} {aft:Array Edge} {t t2:TypeId} {x y:Operand}
theorem Ed {a b:BitVec 64} (hx:look L x=some (Zr a)) (hy:look L y=some (Zr b)):Ev P L w ⟨some d,.binOp .sub t x y t2,ty,pos,aft,none⟩ (Zr (a -b)):=
  Gn hx hy (by
    rw[IntKind.wrap_u64,BitVec.toNat_sub]
    have :=a.isLt; have :=b.isLt
    omega)
theorem FA {a b:BitVec 64} (hx:look L x=some (Zr a)) (hy:look L y=some (Zr b)) (hd:Nat.blt d n=true) (hk:wl P n ops Q rest ((d,Zr (a -b))::L) w):wl P n ops Q (⟨some d,.binOp .sub t x y t2,ty,pos,aft,none⟩::rest) L w:=Xv hd (Ed hx hy) hk
end
end
end Go.Proofs.YtkgjmhcdacidoaaGreatDoor.M
namespace Go.Proofs.YtkgjmhcdacidoaaGreatDoor
open Go.RowKit M Proofs.Tryz
variable [Inhabited SlW]
theorem Ck (x:BitVec 64) (h:x≠0#64):Lib.ctz 64 x.toNat<64∧ ∀j,j<64→((x&&&(x -1#64)).getLsbD j=(x.getLsbD j&&decide (j≠Lib.ctz 64 x.toNat)))∧x.getLsbD (Lib.ctz 64 x.toNat)=true:= by
  have h0:x.toNat≠0:= fun q=>h (BitVec.eq_of_toNat_eq (by simpa using q))
  obtain⟨m,hm,hk⟩:=Lib.ctzFrom_spec 64 x.toNat (by omega) x.isLt
  have e:Lib.ctz 64 x.toNat=Lib.ctzFrom 64 x.toNat:= by simp [Lib.ctz,h0]
  rw[←e]at hm hk
  generalize Lib.ctz 64 x.toNat=k at hm hk
  have hx1:(x -1#64).toNat=x.toNat -1:= by
    rw[BitVec.toNat_sub]; have :=x.isLt; simp;omega
  have hp:0<2^k:=Nat.two_pow_pos k
  have hbit: ∀j,x.getLsbD j=x.toNat.testBit j:= fun j=> by rw[←BitVec.testBit_toNat]
  have hbit1: ∀j,(x -1#64).getLsbD j=(x.toNat -1).testBit j:= fun j=> by rw[←BitVec.testBit_toNat,hx1]
  have q1:x.toNat=2^k*(2*m)+2^k:= by rw[hm]; rw[Nat.mul_add]; simp
  have q2:x.toNat -1=2^k*(2*m)+(2^k -1):= by omega
  refine⟨hk, fun j hj=>⟨?_, ?_⟩⟩
  · rw[BitVec.getLsbD_and,hbit,hbit1]
    rcases Nat.lt_trichotomy j k with hjk | rfl | hjk
    · have a:x.toNat.testBit j=false:= by
        rw[hm,Nat.testBit_two_pow_mul]; simp;omega
      simp [a]
    · have b:(x.toNat -1).testBit j=false:= by
        rw[q2,Nat.testBit_two_pow_mul_add _ (by omega)]; simp
      simp [b]
    · have b:(x.toNat -1).testBit j=x.toNat.testBit j:= by
        rw[q2,hm,Nat.testBit_two_pow_mul_add _ (by omega),Nat.testBit_two_pow_mul]
        have h3: ¬j<k:= by omega
        have h4:j≥k:= by omega
        simp only[h3,if_false,h4,decide_true,Bool.true_and]
        obtain⟨i,hi⟩: ∃i,j -k=i+1:=⟨j -k -1, by omega⟩
        rw[hi,Nat.testBit_succ,Nat.testBit_succ]
        congr 1;omega
      rw[b]
      have :j≠k:= by omega
      simp [this]
  · rw[hbit,hm,Nat.testBit_two_pow_mul]; simp
theorem RankI.av {T:Int→Option TrD} {m:Nat} (h:RankI T m) (i0:Int): ∃Av:Int→Prop,(∀t,T i0=some t→Av t.parent)∧ ∀i u,Av i→T i=some u→i≠i0∧Av u.parent:= by
  obtain⟨h0,r,a,b⟩:=h
  refine⟨fun i=>T i≠none→r i<r i0, fun t ht hp=> ?_, fun i u hi hu=> ?_⟩
  · rcases b i0 t ht with e | e
    · rw[e]at hp; exact absurd h0 hp
    · exact e.2
  · have h1:r i<r i0:=hi (by rw[hu]; simp)
    refine⟨fun e=> by rw[e]at h1;omega, fun hp=> ?_⟩
    rcases b i u hu with e | e
    · rw[e]at hp; exact absurd h0 hp
    · omega
def GT (w:World):Prop:=TabAt 0 Lib.deBruijn64tab w
def VK (L:LvD) (V:VS) (t:TrD) (k:KD) (x:LfD):Prop:= ∀j,j<64→x.rd.getLsbD j=true→(Zf V x.base)[j]? =(Zf V (X4 L t.parent k))[j]?
theorem Pd {κ α:Type} {ad:α→Nat} {f:κ→Option α} {k:κ} {v:Value} (h:XC ad f k=some v): ∃x,f k=some x∧v=ptrV (ad x) 0:= by
  unfold XC at h
  cases q:f k with
  | none=> rw[q]at h; cases h
  | some x=> rw[q]at h; exact⟨x,rfl, by simpa using h.symm⟩
theorem tz_sp (x:BitVec 64) (w:World) (hT:GT w):Calls prog 56 #[Zr x] w (Ret fun v w'=>v=intV (Lib.ctz 64 x.toNat)∧w'=w):=
  (Any7.bits_TrailingZeros64 Tryz.tz64 x.toNat x.isLt w (fun _=>hT)).mono fun e w' ⟨h1,h2⟩=>⟨_,h1,rfl,h2⟩
theorem Tn {w:World} {b:Nat} {L:LvD} {i0:Int} {F:Th} (hS:Sat w [QE b [ptrV L.sp 0,.map (some L.mp),.map (some L.mt),intV L.cur,.map (some L.ms)],Q6 X0 L.mp (Z3 L.pres),Q6 QX L.mt (XC TrD.ad L.tr),X6 VW (QO L.tr i0 none),Q6 QX L.ms (JF L.sh),F]) (hE: ∀i,HN L.tr Wd i) {Av:Int→Prop} (hAv: ∀i u,Av i→L.tr i=some u→i≠i0∧Av u.parent) (id:Int) (hA0:Av id) (k:KD):
    Calls prog 54 #[ptrV b 0,intV id,X0 k] w (Ret fun v w'=>v=intV (X4 L id k)∧Sat w' [QE b [ptrV L.sp 0,.map (some L.mp),.map (some L.mt),intV L.cur,.map (some L.ms)],Q6 X0 L.mp (Z3 L.pres),Q6 QX L.mt (XC TrD.ad L.tr),X6 VW (QO L.tr i0 none),Q6 QX L.ms (JF L.sh),F]):= by
 refine Qn func54 U ntmps54 U ?_
 refine Qe (Qa (XV hS U U U ?_))
 intro kb w1 j1
 change Sat w1 [QE kb [strV k.1,intV k.2],_,_,_,_,_,_]at j1
 refine Qd U U (Qf (Qc (Qe (Qw (Xe (fun K0 E0 W0=> ∃(m:Nat) (i:Int),K0=m+1∧E0=[(0,ptrV b 0),(1,intV i),(5,ptrV kb 0)]∧Sat W0 [QE kb [strV k.1,intV k.2],QE b [ptrV L.sp 0,.map (some L.mp),.map (some L.mt),intV L.cur,.map (some L.ms)],Q6 X0 L.mp (Z3 L.pres),Q6 QX L.mt (XC TrD.ad L.tr),X6 VW (QO L.tr i0 none),Q6 QX L.ms (JF L.sh),F]∧(X4 L id k=Jz L (m+1) i k)∧(HN L.tr m i)∧(m≤Wd)∧(Av i)) (L0:=[(0,_),(1,_),(5,_)]) (Wd+1) (CK U U U) ⟨Wd,id,rfl,rfl,j1,rfl,hE id,Nat.le_refl _,hA0⟩ ?_)))))
 rintro _ _ w2 ⟨m,i,rfl,rfl,j2,hse,hen,hm,hav⟩
 refine Qe (Qe (Qa (Qb U U (Xp U U U (Qf (Qc (Qt U (fun h3=> ?_) (fun h3=> ?_))))))))
 ·have hid0:i≠0:=h3
  refine Qs (Qc (Qw (Qe (Qa (Qb U U (Qi U U (Qg U ZJ U (Qo U WN (by first | assumption | exact j2.cell 0 U U | exact j2.cell 1 U U) U ?_))))))))
  refine Qb U U (X8 (k:=i) 3 j2 keysInt underlying106 U U U Yf (u:=(ptO TrD.ad (L.tr i))) (UO _) U (Qd U U (Qf (Qc (Qh [5,1,0,7] U (Qe (Qe (Qa (Qb U U ?_)))))))))
  rcases hq_T:L.tr i with _ | t
  ·refine Jh underlying104 U U U (Qf (Qc (XD U (Qe (Qa (Qd U U (Qf (Qc (Qv (Qr (Q1 (Qr (Q1 (Qr (QR (.inr U) U U ?_)))))))))))))))
   exact⟨_,rfl, by rw[hse,Do hid0 hq_T],j2.pick [1,2,3,4,5,6] U⟩
  refine XI underlying104 U U U ?_
  have hqH:QO L.tr i0 none i=some t:= by rw[Qz (hAv _ _ hav hq_T).1]; exact hq_T
  have j4:=ZQ (j2.pick [4,0,1,2,3,5,6] U) hqH
  refine Qf (Qc (QL U (Qs (Qc (Qe (Qe ?_))))))
  have j5:=j4.drew
  refine QH [0,1,2,3,4,5,6] [] ZW (by kernel_rfl) ?_
  refine QJ U U U (Xd U U U (QP U U U ZI (Q3 U U U (Qm U WF (by first | assumption | exact j5.cell 0 U U | exact j5.cell 5 U U | exact j5.cell 6 U U)) ?_)))
  refine Q3 U U U (X3 U X2 Xf (by first | exact j5.blk 0 U | exact j5.blk 5 U | exact j5.blk 6 U) (by first | decide | exact Q7 U | (simp;done) | omega) U) ?_
  refine Q3 U U U (Xt (k:=k) 1 j5 keysKey underlying110 U U U Yz (u:=(ptO LfD.ad (t.lv k))) (UO _)) (Zo U U U (VC.nil (Qc (Qh [5,1,0,7,8] U (Qe (Qa (Qb U U ?_)))))))
  rcases hq_X:t.lv k with _ | x
  ·refine Zz underlying116 U U U (Qf (Qc (QL U (Qs (Qc (Qe (Qe ?_)))))))
   have j7:=j5.drew
   refine QH [0,1,2,3,4,5,6] [] ZW (by kernel_rfl) ?_
   refine QJ U U U (Xd U U U (QP U U U U5 (Q3 U U U (Qm U R1 (by first | assumption | exact j7.cell 0 U U | exact j7.cell 5 U U | exact j7.cell 6 U U)) ?_)))
   refine QP U U U JZ (Q3 U U U (Qm U Yd (by first | assumption | exact j7.cell 0 U U | exact j7.cell 5 U U | exact j7.cell 6 U U)) ?_)
   refine Q3 U U U (Xt (k:=k.1) 3 j7 keysStr underlying111 U U U zr_4 (u:= .bool (t.dr k.1)) (MN _ _)) (VC.nil (Qc (Qh [5,1,0,7,37] U (QS U (fun h8=> ?_) (fun h8=> ?_)))))
   ·have hdr:t.dr k.1=true:=h8
    refine Qe (Qa (Qd U U (Qf (Qc (Qv (Qr (Q1 (Qr (Q1 (Qr (QR (.inr U) U U ?_)))))))))))
    have j9:=ZR hqH (j7.pick [0,1,2,3,4,5,6,7,8,9,10] U)
    exact⟨_,rfl, by rw[hse,Dq hid0 hq_T hq_X hdr],j9.pick [2,3,4,0,5,6] U⟩
   have hdr:t.dr k.1=false:=h8
   refine Qs (Qc (Qa (Qb U U (Qi U U (Qg U WZ U (Qo U QM (by first | assumption | exact j7.cell 0 U U | exact j7.cell 5 U U | exact j7.cell 6 U U) U ?_))))))
   refine Qd U U (Qf (Ql ?_))
   have j10:=ZR hqH (j7.pick [0,1,2,3,4,5,6,7,8,9,10] U)
   obtain⟨m2,hm2,hen2⟩:=P4 hen hid0 hq_T
   exact Q5 (L1:=[(0,_),(1,intV t.parent),(5,_)]) (CK U U U) (k1:=m2+1) (by omega) ⟨m2,t.parent,rfl,rfl,j10.pick [1,2,3,4,0,5,6] U, by rw[hse,hm2,NZ hid0 hq_T hq_X hdr],hen2, by omega,(hAv _ _ hav hq_T).2⟩
  refine ZB underlying116 U U U ?_
  have j6:=Hg (j5.pick [2,0,1,3,4,5,6,7,8,9,10] U) hq_X
  refine Qf (Qc (XD U (Qe (Qa (Qb U U (Qi U U (Qg U W4 U (Qo U QM (by first | assumption | exact j6.cell 0 U U | exact j6.cell 2 U U | exact j6.cell 6 U U | exact j6.cell 7 U U) U ?_))))))))
  refine Qd U U (Qf (Qc (Qh [5,1,0,7,6] U (Qv (Qr (Q1 (Qr (Q1 (Qr (QR (.inr U) U U ?_))))))))))
  have j11:=ZS hq_X (j6.pick [0,1,2,3,4,5,6,7,8,9,10,11] U)
  have j12:=ZR hqH (j11.pick [1,2,0,3,4,5,6,7,8,9,10] U)
  exact⟨_,rfl, by rw[hse,UM hid0 hq_T hq_X],j12.pick [2,3,4,0,5,6] U⟩
 have hid0:i=0:=Decidable.not_not.1 h3
 refine QT (Qq (Qq (Qy (Qc (Qe ?_)))))
 have j13:=j2.drew
 refine QH [0,1,2,3,4,5,6] [] ZW (by kernel_rfl) ?_
 refine QJ U U U (Xd U U U (QP U U U HC (Q3 U U U (Qm U VV (by first | assumption | exact j13.cell 0 U U | exact j13.cell 1 U U)) ?_)))
 refine Q3 U U U (X3 U X2 Xf (by first | exact j13.blk 0 U | exact j13.blk 1 U) (by first | decide | exact Q7 U | (simp;done) | omega) U) ?_
 refine Q3 U U U (Xt (k:=k) 2 j13 keysKey underlying105 U U U Hm (u:=intV (L.pres k)) (Rm _ _)) (Zo U U U (VC.nil (Qc (Qh [6] U (Qv (QR (.inr U) U U ?_))))))
 exact⟨_,rfl, by rw[hse,Ri hid0],j13.pick [1,2,3,4,5,6] U⟩
theorem Fp {st s2 rd:BitVec 64} {pa pb:Bs} (hne:st≠0#64) (hsub: ∀j,j<64→st.getLsbD j=true→rd.getLsbD j=true) (hin: ∀j,j<64→rd.getLsbD j=true→st.getLsbD j=true∨pa[j]? =pb[j]?) (heq:pa[Lib.ctz 64 st.toNat]? =pb[Lib.ctz 64 st.toNat]?):
    (∀j,j<64→(st&&&(st -1#64)).getLsbD j=true→rd.getLsbD j=true)∧(∀j,j<64→rd.getLsbD j=true→(st&&&(st -1#64)).getLsbD j=true∨pa[j]? =pb[j]?)∧(st&&&(st -1#64)).toNat<st.toNat:= by
  obtain⟨h1,h2⟩:=Ck st hne
  refine⟨fun j hj h=> ?_, fun j hj h=> ?_, ?_⟩
  · rw[(h2 j hj).1,Bool.and_eq_true]at h; exact hsub j hj h.1
  · rcases hin j hj h with q | q
    · by_cases e:j=Lib.ctz 64 st.toNat
      · right; rw[e]; exact heq
      · left; rw[(h2 j hj).1,q]; simp [e]
    · exact .inr q
  · have h0:st.toNat≠0:= fun q=>hne (BitVec.eq_of_toNat_eq (by simpa using q))
    have h3:(st -1#64).toNat=st.toNat -1:= by
      rw[BitVec.toNat_sub]; have :=st.isLt; simp;omega
    rw[BitVec.toNat_and,h3]
    have :=Nat.and_le_right (n:=st.toNat) (m:=st.toNat -1)
    omega
theorem Sg {w:World} {m:Nat} {b n Fr:Nat} {L:LvD} {V:VS} {F:Th} (hS:Sat w [WU b L,ZT L.sp n Fr V,F]) (hn:n≤60000000000) (hI:LvI m L V) (hm:m<Wd) (hG:Ent F GT) {id:Int} {t:TrD} (ht:L.tr id=some t):
    Calls prog 30 #[ptrV b 0,intV id] w (Ret fun v w'=> ∃r:Bool,v= .bool r∧(r=true↔ ∀k x,t.lv k=some x→VK L V t k x)∧Sat w' [WU b L,ZT L.sp n Fr V,F]):= by
 have h0:id≠0:=hI.rank.none0 ht
 obtain⟨Av,hA0,hAv⟩:=hI.rank.av id
 replace hS:=Zb hS
 refine Qn func30 U ntmps30 U ?_
 refine Qe (Qa (Qd U U (Qf (Qc (Qe (Qe (Qa (Qb U U (Xc U U U (Qf (Qc (Qt U (fun h1=> ?_) (fun h1=> ?_)))))))))))))
 ·exact absurd h1 h0
 refine Qs (Qc (Qe (Qa (Qb U U (Qi U U (Qg U ZJ U (Qo U WN (by first | assumption | exact hS.cell 0 U U) U ?_)))))))
 refine Qb U U (X8 (k:=id) 2 hS keysInt underlying106 U U U Yf (u:=ptrV t.ad 0) (XJ ht) U (Qd U U (Qf (Qc (Qh [0,4,5] U (Qe (Qe (Qa (Qb U U (XI underlying104 U U U (Qf (Qc (QL U (Qs (Qc (Qe (Qe ?_)))))))))))))))))
 have j2:=ZQ (hS.pick [3,0,1,2,4,5,6] U) ht
 refine Qa (Qb U U (Qi U U (Qg U ZI U (Qo U WF (by first | assumption | exact j2.cell 0 U U | exact j2.cell 5 U U) U ?_))))
 refine Jw 1 j2 underlying110 U U U ?_
 intro RR left0 wR hSR; dsimp only[List.set]at hSR
 refine Qf (Qc (Qw (Xe (fun K0 E0 W0=> ∃(dn:KD→Prop) (cur:Option KD) (left:Nat),K0=left∧E0=[(0,ptrV b 0),(4,.bool false),(5,ptrV t.ad 0),(27,ptrV RR 0)]∧Sat W0 [QE t.ad [intV t.parent,.map (some t.ml),.map (some t.md)],Jt X0 t.ml RR (XC LfD.ad t.lv) dn cur left,X6 KT t.lv,Q6 Zl t.md (JF t.dr),X6 VW (QO L.tr id none),QE b [ptrV L.sp 0,.map (some L.mp),.map (some L.mt),intV L.cur,.map (some L.ms)],Q6 X0 L.mp (Z3 L.pres),Q6 QX L.mt (XC TrD.ad L.tr),Q6 QX L.ms (JF L.sh),ZT L.sp n Fr V,F]∧(∀k x,dn k→t.lv k=some x→VK L V t k x)) (L0:=[(0,_),(4,_),(5,_),(27,_)]) (left0) (Vj U U U U) ⟨_,_,_,rfl,rfl,hSR.pick [0,1,2,3,4,5,6,7,8,9,10] U, fun _ _ h=>h.elim⟩ ?_)))
 rintro _ _ w3 ⟨dn,cur,left,rfl,rfl,j3,hok⟩
 refine Qe (Qa (Yk 1 j3 keysKey.inj U U U (fun hdone=> ?_) (fun k v left2 wN hleft hgk hnd hSN=> ?_)))
 ·refine Qp U U U (Qf (Qc (Qe (QL U (QT (Qq (Qq (Qy (Qc (Qe (Qa (Qd U U (Qf (Qc (Qv (QR (.inr U) U U ?_))))))))))))))))
  have hz:=W2 (j3.pick [1,0,2,3,4,5,6,7,8,9,10] U)
  have j4:=ZR ht (hz.pick [1,0,2,3,4,5,6,7,8,9,10] U)
  exact⟨_,rfl,true,rfl,⟨fun _ k x hx=>hok k x (hdone _ _ (show XC LfD.ad t.lv k=some (ptrV x.ad 0) by unfold XC; rw[hx];rfl)) hx, fun _=>rfl⟩,Xx (j4.pick [1,2,3,0,4,5,6] U)⟩
 dsimp only[List.set]at hSN
 obtain⟨x,hx,rfl⟩:=Pd hgk
 refine Qp U U U (Qf (Qc (Qe (XD U (Qs (Qc (Qw (Qe (Qa (JG 1 hSN U hgk U U (Qp U U U (Qp U U U (Xa hSN WK U U ?_)))))))))))))
 intro kb wk5 hk5
 clear hSN
 refine Q9 hk5 U U Xf U (by first | rfl | (simp [QV,Value.oneCell'];done)) (i:=0) U (by first | decide | exact Q7 U) ?_
 intro wk6 hk6; dsimp only[List.set]at hk6
 clear hk5
 replace hk6:=Z4 (k:=k) hk6
 refine Qd U U (Qf (Qc (Qh [27,5,4,0,6,7] U (Qe ?_))))
 have j7:=Hg (hk6.pick [3,0,1,2,4,5,6,7,8,9,10,11] U) hx
 have j8:=j7.drew
 refine QH [0,1,2,3,4,5,6,7] [6] ZW (by kernel_rfl) ?_
 refine QJ U U U (QJ U U U (Xd U U U (QP U U U WZ (Q3 U U U (Qm U QM (by first | assumption | exact j8.cell 0 U U | exact j8.cell 2 U U | exact j8.cell 3 U U | exact j8.cell 7 U U)) ?_))))
 refine Q3 U U U (X3 U X2 Xf (by first | exact j8.blk 0 U | exact j8.blk 2 U | exact j8.blk 3 U | exact j8.blk 7 U) (by first | decide | exact Q7 U | (simp;done) | omega) U) ?_
 refine Xl U U U U U U ?_
 refine Q0 B7 U (Tn (i0:=id) (j8.sp [7,8,9,6,10] U) (hI.rank.ends hm) hAv t.parent (hA0 t ht) k) U ?_
 rintro _ w9 ⟨rfl,j9⟩
 replace j9:=j9.jn U U
 refine XH (Xq (by kernel_rfl)) ?_
 refine Zo U U U (VC.nil (Qc (Qh [27,5,4,0,7,8] U (Qe (Qe (Qa (Qb U U (Qi U U (Qg U HB U (Qo U JB (by first | assumption | exact j9.cell 0 U U | exact j9.cell 5 U U | exact j9.cell 7 U U | exact j9.cell 8 U U) U ?_))))))))))
 refine Xc U U U (Qb U U (QZ 45 U (fun h10=> ?_) (fun h10=> ?_)))
 ·have hrd0:x.rd=0#64:=BitVec.eq_of_toNat_eq (by simpa using h10)
  refine Qk U U (det h10) U (Qk U U (det h10) U (Qk U U (det h10) U (Qk U U (det h10) U (Qk U U (det h10) U (Qk U U (det h10) U (QN U (det h10) U U (Qf (Qc (Qh [27,5,4,0,7,8,52] U (XD U (QT (Qq (Qy ?_)))))))))))))
  have hvk:VK L V t k x:= fun j hj h=>(by first | (rw[hrd0]at h; simp at h) | rw[hnb])
  have j11:=ZS hx (j9.pick [5,6,0,1,2,3,4,7,8,9,10,11,12] U)
  exact Q5 (L1:=[(0,_),(4,_),(5,_),(27,_)]) (Vj U U U U) (k1:=left2) (by omega) ⟨_,_,_,rfl,rfl,j11.pick [7,8,0,9,4,1,2,3,5,10,11] U, fun q y hq hy=>hq.elim (fun h=>hok q y h hy) (fun h=> by subst h; rw[hx]at hy; cases hy; exact hvk)⟩
 refine Qj U U (QF h10) (Qb U U (Qj U U (QF h10) (Qb U U (Qj U U (QF h10) (Qi U U (Qj U U (QF h10) (Qg U K7 U (Qj U U (QF h10) (Qo U QM (by first | assumption | exact j9.cell 0 U U | exact j9.cell 5 U U | exact j9.cell 7 U U | exact j9.cell 8 U U) U ?_)))))))))
 refine Qj U U (QF h10) (Xc U U U (QC U (QF h10) U U (Qf (Qc (Qh [27,5,4,0,7,8,52] U (Qt U (fun h12=> ?_) (fun h12=> ?_)))))))
 ·have hnb:X4 L t.parent k=x.base:=h12
  refine QT (Qq (Qy ?_))
  have hvk:VK L V t k x:= fun j hj h=>(by first | (rw[hrd0]at h; simp at h) | rw[hnb])
  have j13:=ZS hx (j9.pick [5,6,0,1,2,3,4,7,8,9,10,11,12] U)
  exact Q5 (L1:=[(0,_),(4,_),(5,_),(27,_)]) (Vj U U U U) (k1:=left2) (by omega) ⟨_,_,_,rfl,rfl,j13.pick [7,8,0,9,4,1,2,3,5,10,11] U, fun q y hq hy=>hq.elim (fun h=>hok q y h hy) (fun h=> by subst h; rw[hx]at hy; cases hy; exact hvk)⟩
 refine Qs (Qc (Qe ?_))
 have j14:=j9.drew
 refine QH [0,1,2,3,4,5,6,7,9,10,11,12,13,8,14,15,16] [8,14] ZW (by kernel_rfl) ?_
 refine QJ U U U (Xd U U U (QP U U U Zx (Q3 U U U (Qm U X5 (by first | assumption | exact j14.cell 0 U U | exact j14.cell 5 U U | exact j14.cell 7 U U | exact j14.cell 8 U U)) ?_)))
 refine QJ U U U (Xd U U U (QP U U U K7 (Q3 U U U (Qm U QM (by first | assumption | exact j14.cell 0 U U | exact j14.cell 5 U U | exact j14.cell 7 U U | exact j14.cell 8 U U)) ?_)))
 refine QJ U U U (Xd U U U (QP U U U Zx (Q3 U U U (Qm U X5 (by first | assumption | exact j14.cell 0 U U | exact j14.cell 5 U U | exact j14.cell 7 U U | exact j14.cell 8 U U)) ?_)))
 refine QJ U U U (Xl U U U U U U ?_)
 refine Q0 Hk U (Uv (j14.sp [11] U) (x.base)) U ?_
 rintro _ w15 ⟨rfl,j15⟩
 replace j15:=j15.jn U U
 refine XH (.cons (.inl ⟨rfl,(Qm U X5 (by first | assumption | exact j15.cell 1 U U | exact j15.cell 6 U U | exact j15.cell 8 U U | exact j15.cell 9 U U))⟩) (Xq (by kernel_rfl))) ?_
 refine Xl U U U U U U ?_
 refine Q0 Hk U (Uv (j15.sp [0] U) (X4 L t.parent k)) U ?_
 rintro _ w16 ⟨rfl,j16⟩
 replace j16:=j16.jn U U
 refine XH (Xq (by kernel_rfl)) ?_
 refine Zo U U U (Zo U U U (VC.nil (Qc (Qh [27,5,4,0,7,9,10] U (Qe ?_)))))
 have hlb:=hI.len (s:=x.base) (by have :=hI.alive (.inr (id,k,false));rwa [XF ht hx]at this)
 have hln:=hI.len (hI.aliveS t.parent k)
 refine Qa (Qb U U (Qi U U (Qg U HB U (Qo U JB (by first | assumption | exact j16.cell 1 U U | exact j16.cell 6 U U | exact j16.cell 8 U U | exact j16.cell 9 U U) U ?_))))
 refine Qd U U (Qf (Qc (Qh [27,5,4,0,9,10,11] U (Qw ?_))))
 refine Xe (fun K0 E0 W0=> ∃(st:BitVec 64),K0=st.toNat∧E0=[(0,ptrV b 0),(4,.bool false),(5,ptrV t.ad 0),(27,ptrV RR 0),(9,strV (Zf V x.base)),(10,strV (Zf V (X4 L t.parent k))),(11,Zr st)]∧Sat W0 [QE x.ad [intV x.base,intV x.own,Zr x.rd,Zr x.wr],X6 KT (QO t.lv k none),QE kb [strV k.1,intV k.2],QE t.ad [intV t.parent,.map (some t.ml),.map (some t.md)],Jt X0 t.ml RR (XC LfD.ad t.lv) (fun j=>dn j∨j=k) (some k) left2,Q6 Zl t.md (JF t.dr),X6 VW (QO L.tr id none),QE b [ptrV L.sp 0,.map (some L.mp),.map (some L.mt),intV L.cur,.map (some L.ms)],Q6 X0 L.mp (Z3 L.pres),Q6 QX L.mt (XC TrD.ad L.tr),Q6 QX L.ms (JF L.sh),ZT L.sp n Fr V,F]∧(∀j,j<64→st.getLsbD j=true→x.rd.getLsbD j=true)∧(∀j,j<64→x.rd.getLsbD j=true→st.getLsbD j=true∨(Zf V x.base)[j]? =(Zf V (X4 L t.parent k))[j]?)) (L0:=[(0,_),(4,_),(5,_),(27,_),(9,_),(10,_),(11,_)]) (x.rd.toNat) (DW U U U U U U U) ⟨x.rd,rfl,rfl,j16.pick [6,7,8,9,10,11,4,1,2,3,5,0,12] U, fun _ _ h=>h, fun _ _ h=> .inl h⟩ ?_
 rintro _ _ w17 ⟨st,rfl,rfl,j17,hsub,hin⟩
 refine Qe (Qe (Qa (Qb U U (Xp U U U (Qf (Qc (Qt U (fun h18=> ?_) (fun h18=> ?_))))))))
 ·have hne:st≠0#64:= fun q=> by subst q; exact absurd h18 (by decide)
  refine Qs (Qc (Qe (Qw (Qe (Qa (Qb U U (Q0 cal_56 U (tz_sp st _ (hG.sat j17 12 U)) U ?_)))))))
  rintro _ _ ⟨rfl,rfl⟩
  have hcz:=Ck st hne
  have hci:=hcz.1
  obtain⟨ca,hca⟩: ∃ca,(Zf V x.base)[Lib.ctz 64 st.toNat]? =some ca:=⟨_,Zd (by rw[hlb];omega)⟩
  obtain⟨cb,hcb⟩: ∃cb,(Zf V (X4 L t.parent k))[Lib.ctz 64 st.toNat]? =some cb:=⟨_,Zd (by rw[hln];omega)⟩
  refine Qd U U (Qf (Qc (Qh [11,10,9,27,5,4,0,12] U (Qe ?_))))
  have j19:=j17.drew
  refine QH [0,1,2,3,4,5,6] [] ZW (by kernel_rfl) ?_
  refine QJ U U U (QJ U U U (Q3 U U U (HE _ underlying9 U U (by first | rfl | omega) (by first | assumption | rfl)) ?_))
  refine QJ U U U (QJ U U U (Q3 U U U (HE _ underlying9 U U (by first | rfl | omega) (by first | assumption | rfl)) ?_))
  refine Xh U U U (fun _=>(Bw U U)) ?_
  refine VC.nil (Qc (Qh [11,10,9,27,5,4,0,86] U (Qt U (fun h20=> ?_) (fun h20=> ?_))))
  ·have hnq:ca≠cb:= fun q=> by subst q; exact h20 U
   refine Qe (Qa (Qd U U (Qf (Qc (Qv (Q1 (Qr (Qr (Q1 (Q1 (Qr (Q1 (Qr (QR (.inr U) U U ?_))))))))))))))
   have hbad: ¬VK L V t k x:= fun q=> by have h1:=q _ hci (hsub _ hci ((hcz.2 0 (by omega)).2)); rw[hca,hcb]at h1; simp at h1; subst h1; exact hnq U
   have j21:=ZS hx (j19.pick [0,1,2,3,4,5,6,7,8,9,10,11,12] U)
   have hz:=W2 (j21.pick [3,2,0,4,5,6,7,8,9,10,11] U)
   have j22:=ZR ht (hz.pick [1,0,2,3,4,5,6,7,8,9,10] U)
   exact⟨_,rfl,false,rfl,⟨(fun q=> by cases q), fun q=>absurd (q k x hx) hbad⟩,Xx (j22.pick [1,2,3,0,4,5,6] U)⟩
  have heq:(Zf V x.base)[Lib.ctz 64 st.toNat]? =(Zf V (X4 L t.parent k))[Lib.ctz 64 st.toNat]? := by rw[hca,hcb];congr 1; have h0:=Decidable.not_not.1 h20; exact UInt8.toNat_inj.1 (by omega)
  refine Qs (Ql (Qc (Qa (Qb U U (Qb U U (FA (b:=1#64) U U U (GA U U U (Qd U U (Qf ?_)))))))))
  have hbn:=Fp (s2:=st) hne hsub hin heq
  exact Q5 (L1:=[(0,_),(4,_),(5,_),(27,_),(9,_),(10,_),(11,Zr (st&&&(st -1#64)))]) (DW U U U U U U U) (k1:=(st&&&(st -1#64)).toNat) hbn.2.2 ⟨_,U,U,j19.pick [0,1,2,3,4,5,6,7,8,9,10,11,12] U,hbn.1,hbn.2.1⟩
 have hz0:st=0#64:=BitVec.eq_of_toNat_eq (by have :=Decidable.not_not.1 h18;simpa using this)
 refine QT (Qq (Qq (Qy (Ql ?_))))
 have hvk:VK L V t k x:= fun j hj h=>(hin j hj h).resolve_left (by rw[hz0]; simp)
 have j23:=ZS hx (j17.pick [0,1,2,3,4,5,6,7,8,9,10,11,12] U)
 exact Q5 (L1:=[(0,_),(4,_),(5,_),(27,_)]) (Vj U U U U) (k1:=left2) (by omega) ⟨_,_,_,rfl,rfl,j23.pick [2,3,0,4,5,6,7,8,9,10,11] U, fun q y hq hy=>hq.elim (fun h=>hok q y h hy) (fun h=> by subst h; rw[hx]at hy; cases hy; exact hvk)⟩
