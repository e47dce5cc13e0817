/- The shelf's contract of sorting ints as a contract of things. Conditions: each one's own hypotheses. -/
import Derived.Test.YtiibgheijbbmaaaGreatDoorOp4
import Derived.Test.YtiibgheijbbmaaaGreatDoorWire
set_option linter.unusedVariables false
set_option maxRecDepth 100000
namespace Go.Proofs.YtiibgheijbbmaaaGreatDoor.M
open Go.RowKit Go.Sort Proofs.Tryz
def Ug (l:List Int):List Int:=l.mergeSort fun x y=>decide (x≤y)
theorem BB (l:List Int):(Ug l).Perm l:=List.mergeSort_perm _ _
theorem U9 (l:List Int):(Ug l).length=l.length:=(BB l).length_eq
theorem Dy (d xs:List Int) (sp:List Value) (h:d.length=xs.length):(putCells (Value.int .i64) 0 d.toArray (xs.map intV++sp).toArray)=(d.map intV++sp).toArray:= by
  apply Array.ext_getElem?
  intro k
  unfold putCells
  simp only[Array.getElem?_mapIdx,List.getElem?_toArray,Nat.zero_le,true_and,Nat.zero_add,Nat.sub_zero,List.size_toArray]
  by_cases hk:k<d.length
  · rw[List.getElem?_append_left (by simpa [←h]using hk),List.getElem?_append_left (by simpa using hk)]
    simp [hk,h▸hk,intV]
  · rw[List.getElem?_append_right (by simp;omega),List.getElem?_append_right (by simp;omega)]
    have hk': ¬k<xs.length:= by omega
    simp only[List.length_map,h,hk',if_false,Option.map_id']
theorem N1 {P:Program} {f:Nat}
    (hsome: ∀(blk off cap:Nat) (ss:List Int) (w:World),Holds (Value.int .i64) w blk off ss.toArray→blk<w.heap.size→ss.length<4611686018427387904→Calls P f #[.slice (some ⟨blk,off,none⟩) ss.length cap] w fun e w'=>e= .returned (.tuple #[])∧ ∃n os,w'=grow (putRow (Value.int .i64) (Go.Sort.ahead w n) blk off (ss.mergeSort fun x y=>decide (x≤y)).toArray) os)
    (hnone: ∀(p:Option Addr) (cap:Nat) (w:World),Calls P f #[.slice p 0 cap] w fun e w'=>e= .returned (.tuple #[])∧w'=w)
    {w:World} {v:Value} {l:List Int} {As:List Th} (hS:Sat w (rowT inC v l::As)) (hl:l.length<4611686018427387904):Calls P f #[v] w (Ret fun u w'=>u= .tuple #[]∧Sat w' (rowT inC v (Ug l)::As)):= by
  obtain⟨foot,hlen,h⟩:=hS.own 0 rfl
  rcases h with⟨rfl,hn,hf⟩ | ⟨b,cap,sp,rfl,hcap,hb,hsz,hf⟩
  · have :l=[]:=List.eq_nil_of_length_eq_zero hn
    subst this
    exact(hnone none 0 w).mono fun e w' ⟨h1,h2⟩=>⟨_,h1,rfl, by rw[h2];simpa [Ug]using hS⟩
  · have hH:Holds (Value.int .i64) w b 0 l.toArray:= fun j hj=> by
      have hj':j<l.length:= by simpa using hj
      rw[KF]at hb
      refine⟨?_, ?_⟩
      · rw[Nat.zero_add]
        refine hb.cell ?_
        rw[List.getElem?_append_left (by simpa using hj')]
        simp [hj',intV]
      · exact hb.free _ (by simp;omega)
    refine(hsome b 0 cap l w hH hb.lt hl).mono fun e w' ⟨h1,n,os,h2⟩=>⟨_,h1,rfl, ?_⟩
    have hlt:=hb.lt
    have hheap: ∀k,k<w.heap.size→k≠b→w'.heap[k]? =w.heap[k]? := fun k hk hne=> by
      rw[h2,heap_grow_old _ _ (by simpa using hk)]
      simp only[putRow,mapBlock,heap_ahead,Array.getElem?_modify]
      rw[if_neg (fun q=>hne q.symm)]
    obtain⟨T,lo,hi,hc,hfz⟩:=hb
    have hnew:w'.heap[b]? =some (.cells ((Ug l).map intV++sp).toArray T (lo,hi)):= by
      rw[h2,heap_grow_old _ _ (by simpa using hlt)]
      simp only[putRow,mapBlock,heap_ahead,Array.getElem?_modify,if_pos,hc,Option.map_some,onCells,KF]
      rw[show(l.mergeSort fun x y=>decide (x≤y))=Ug l from rfl,Dy _ _ _ (U9 l)]
    have ho:Only [b] w w':= by
      refine⟨?_, ?_, ?_, ?_, fun k hk hn=>hheap k hk (by simpa using hn)⟩
      · rw[h2];rfl
      · rw[h2];rfl
      · rw[h2];rfl
      · rw[h2]; simp
    have hfin:=hS.own_set (w':=w') 0 Qa (v':= .slice (some ⟨b,0,none⟩) l.length cap) (n':=l.length) (size':=1) (xs':=inC.cells (Ug l)) (fun foot' g=> by
      obtain⟨_,g⟩:=g
      rcases g with⟨g0,_⟩ | ⟨b',cap',sp',g0,g1,g2,g3,g4⟩
      · cases g0
      · simp only[Value.slice.injEq,Option.some.injEq,Addr.mk.injEq,and_true,true_and]at g0
        obtain⟨rfl,rfl⟩:=g0
        refine⟨[b],⟨?_,.inr ⟨b,cap,sp,Qa,hcap,⟨T,lo,hi, ?_, ?_⟩, ?_,Qa⟩⟩, ?_, ?_⟩
        · rw[inC.cells_len,U9];rfl
        · rw[KF]; exact hnew
        · rcases hfz with q | q
          · exact .inl q
          · refine .inr ?_
            simp only[List.length_append,inC.cells_len,U9]at q⊢; exact q
        · simp only[List.length_append,inC.cells_len,U9]at hsz⊢; exact hsz
        · rw[g4]; exact ho
        · rw[g4]; intro k hk; exact .inl hk)
    have e:(Ug l).length=l.length:=U9 l
    show Sat w' (X7 _ (Ug l).length 1 _::As)
    rw[e]; exact hfin
end Go.Proofs.YtiibgheijbbmaaaGreatDoor.M
namespace Go.Proofs.YtiibgheijbbmaaaGreatDoor
open Go.RowKit M Proofs.Tryz
structure CS where
  f:Int
  slot:Nat
  val:Bytes
  sure:Bool
def YK (p:Nat) (C:CS):List Value:=[ptrV p 0,intV C.f,intV (C.slot:Int),strV C.val,.bool C.sure]
def QG (s:Nat):Int:= if s=2 then 131072 else 64
def KD (f:Int):CS:=⟨f,0,[],false⟩
def Uz (b1 b2 b3 b4:UInt8):Nat:=b1.toNat+256*b2.toNat+65536*b3.toNat+16777216*b4.toNat
inductive Hd where
  | none | bad | slot (s:Nat) (n:Nat)
def J9 (h:Bytes):Hd:=
  match h with
  | []=> .none
  | b0::r=> if b0=0 then .none else
    match r with
    | [b1,b2,b3,b4]=> if(b0=1∨b0=2)∧Uz b1 b2 b3 b4≤65536 then .slot b0.toNat (Uz b1 b2 b3 b4)else .bad
    | _=> .bad
def Hq (slot n:Nat):Bytes:=[UInt8.ofNat slot,UInt8.ofNat n,UInt8.ofNat (n/ 256),UInt8.ofNat (n/ 65536),0]
def Wo (D:DS) (f:Int):Int:=
  if ZT D f 0 5≠0 then ZT D f 0 5 else
  match J9 (Wx D f 0 5)with
  | .none=>0
  | .bad=>2
  | .slot s n=> if(Wx D f (QG s) n).length<n then 2 else 0
def Jr (D:DS) (f:Int):CS:=
  match J9 (Wx D f 0 5)with
  | .slot s n=>⟨f,s,Wx D f (QG s) n,false⟩
  | _=>KD f
def other (C:CS):Nat:= if C.slot=1 then 2 else 1
structure SR where
  e:Int
  D:DS
  C:CS
def Wm (D:DS) (C:CS) (s:Bytes):SR:=
  let D1:=XD D C.f (QG (other C)) s
  if W4 D C.f (QG (other C)) s≠0 then⟨W4 D C.f (QG (other C)) s,D1,C⟩else
  let D2:=X1 D1 C.f
  if Z0 D1 C.f≠0 then⟨Z0 D1 C.f,D2,C⟩else
  let D3:=XD D2 C.f 0 (Hq (other C) s.length)
  if W4 D2 C.f 0 (Hq (other C) s.length)≠0 then⟨W4 D2 C.f 0 (Hq (other C) s.length),D3,C⟩else
  ⟨Z0 D3 C.f,X1 D3 C.f,⟨C.f,other C,s,decide (Z0 D3 C.f=0)⟩⟩
def Zq (D:DS) (C:CS) (s:Bytes):SR:=
  if 65536<s.length then⟨6,D,C⟩else
  if C.sure=false∧0<C.slot then
    (if Z0 D C.f≠0 then⟨Z0 D C.f,X1 D C.f,C⟩else Wm (X1 D C.f) {C with sure:=true} s)
  else Wm D C s
def Glob (g:Nat) (w:World):Prop:= ∀(j:Nat) (v:Value),[intV 0,intV 64,intV 131072][j]? =some v→w.cell? ⟨g,j,none⟩=some v
theorem Glob.off {g s:Nat} {w:World} (h:Glob g w) (hs:s=1∨s=2):w.cell? ⟨g,0+s*1,none⟩=some (intV (QG s)):= by
  rw[Nat.zero_add,Nat.mul_one]
  rcases hs with rfl | rfl
  · exact h 1 _ Qa
  · exact h 2 _ Qa
theorem JG {D:DS} {f a b n m:Int} (h:ZT D f a n=0) (hb:0≤b) (hm:0≤m):ZT D f b m=0:= by
  unfold ZT at h⊢
  split at h
  · rename_i h1; exact absurd h h1
  · rename_i h1
    rw[if_neg h1,if_neg (by omega)]
theorem WO (s:Nat):0≤QG s:= by unfold QG;split<;>decide
theorem GA (b:UInt8):b.toNat<256:=b.toNat_lt
theorem G3 {D:DS} {f a n:Int}:((Wx D f a n).length:Int)≤max n 0:= by
  unfold Wx;split
  · simp;omega
  · simp;omega
theorem keysInt:KeyOk prog 3 XH:=FJ underlying3
theorem keysSec:KeyOk prog 126 Wf:=Pi (t:=3) underlying126 (by kernel_rfl) underlying3 Qa Qa Qa Qa (by decide) (by decide)
theorem Ph {w:World} {p:Nat} {kp:Value} {D:DS} {F:Th} (hS:Sat w [XX p kp D,F]) (f:Int):
    Calls prog 93 #[ptrV p 0,intV f] w (Ret fun v w'=>v=intV (ZM D f)∧w=w'):= by
 obtain⟨⟨bf,bs,qv⟩,hI,hS⟩:=Ws hS; dsimp only at hS
 refine Qy func93 Qa ntmps93 Qa ?_
 refine Qf (Qb (Qc Qa Qa (Qh (Qd (Qf (QK (Qf (Qb (Qe Qa Qa (Ql Qa Qa (Qi Qa V7 Qa (Qr Qa J2 (hS.cell 0 Qa Qa) Qa (Qc Qa Qa (Qh (Qd (QZ Qa (fun h1=> ?_) (fun h1=> ?_)))))))))))))))))
 ·have hd:D.down=true:=h1
  refine Qf (Qb (Qc Qa Qa (Qh (Qd (Qo (Qz (Qm (Q5 (.inr Qa) Qa Qa ?_))))))))
  exact⟨_,rfl, by simp [ZM, *],rfl⟩
 have hd:D.down=false:=h1
 refine Qf (Qb (Qe Qa Qa (X5 Qa Qa Qa (Qe Qa Qa (Q4 13 Qa (fun h2=> ?_) (fun h2=> ?_))))))
 ·refine Qg Qa Qa (QD h2) Qa (Qg Qa Qa (QD h2) Qa (Q1 Qa (QD h2) Qa Qa (Qc Qa Qa (Qh (Qd (Qk [4,10] Qa (QP Qa (Qf (Qb (Qc Qa Qa (Qh (Qd (Qo (Qz (Qm (Q5 (.inr Qa) Qa Qa ?_))))))))))))))))
  exact⟨_,rfl, by simp [ZM, *],rfl⟩
 refine Qj Qa Qa (Qx h2) (Qe Qa Qa (Qj Qa Qa (Qx h2) (Jm Qa Qa Qa (Q3 Qa (Qx h2) Qa Qa (Qc Qa Qa (Qh (Qd (Qk [4,10] Qa (Qv Qa (fun h3=> ?_) (fun h3=> ?_))))))))))
 ·refine Qf (Qb (Qc Qa Qa (Qh (Qd (Qo (Qz (Qm (Q5 (.inr Qa) Qa Qa ?_))))))))
  exact⟨_,rfl, by simp [ZM, *],rfl⟩
 refine Qt (Qq (Qd (Qf (Qb (Qc Qa Qa (Qh (Qd (Qo (Q5 (.inr Qa) Qa Qa ?_)))))))))
 exact⟨_,rfl, by simp [ZM, *],rfl⟩
theorem S5 {w:World} {p:Nat} {kp:Value} {D:DS} {F:Th} (hS:Sat w [XX p kp D,F]):
    Calls prog 92 #[ptrV p 0] w (Ret fun v w'=>v= .bool (JD D)∧Sat w' [XX p kp (Zl D),F]):= by
 obtain⟨⟨bf,bs,qv⟩,hI,hS⟩:=Ws hS; dsimp only at hS
 refine Qy func92 Qa ntmps92 Qa ?_
 have ha:=hI.armed
 refine Qf (Qb (Qc Qa Qa (Qh (Qd (Qf (Qf (Qb (Qe Qa Qa (Ql Qa Qa (Qi Qa V7 Qa (Qr Qa J2 (hS.cell 0 Qa Qa) Qa (Qe Qa Qa (ZO 7 Qa (fun h1=> ?_) (fun h1=> ?_))))))))))))))
 ·refine Qg Qa Qa h1 Qa (Qg Qa Qa h1 Qa (Qg Qa Qa h1 Qa (Qg Qa Qa h1 Qa (Qg Qa Qa h1 Qa (Q1 Qa h1 Qa Qa (Qh (Qd (Qk [0,2,13] Qa (QP Qa (Qf (Qb (Qc Qa Qa (Qh (Qd (Qo (Qm (Q5 (.inr Qa) Qa Qa ?_)))))))))))))))))
  exact⟨_,rfl, by simp [JD, *], by rw[show Zl D=D by simp [Zl, *]]; exact ZF _ hI hS⟩
 refine Qj Qa Qa h1 (Qe Qa Qa (Qj Qa Qa h1 (Ql Qa Qa (Qj Qa Qa h1 (Qi Qa UJ Qa (Qj Qa Qa h1 (Qr Qa QH (hS.cell 0 Qa Qa) Qa (Qj Qa Qa h1 (QL Qa Qa Qa (Q3 Qa h1 Qa Qa (Qh (Qd (Qk [0,2,13] Qa (Qv Qa (fun h2=> ?_) (fun h2=> ?_)))))))))))))))
 ·refine Qf (Qb (Qc Qa Qa (Qh (Qd (Qo (Qm (Q5 (.inr Qa) Qa Qa ?_)))))))
  exact⟨_,rfl, by simp [JD, *], by rw[show Zl D=D by simp [Zl, *]]; exact ZF _ hI hS⟩
 refine Qt (Qd (Qf (Qb (Qe Qa Qa (Ql Qa Qa (Qi Qa UJ Qa (Qr Qa QH (hS.cell 0 Qa Qa) Qa (JH Qa Qa (by omega) (by omega) Qa ?_))))))))
 refine Ql Qa Qa (Qi Qa UJ Qa ?_)
 first | (refine Qw hS Qa Qa WA (by rfl) (i:=0) Qa (QC Qa) ?_)
 intro w3 hS4; dsimp only[List.set]at hS4
 refine Qh (Qd (Qf (Qb (Qe Qa Qa (Ql Qa Qa (Qi Qa UJ Qa (Qr Qa QH (hS4.cell 0 Qa Qa) Qa (QL Qa Qa Qa (Qc Qa Qa (Qh (Qd (Qk [2] Qa (Qo (Q5 (.inr Qa) Qa Qa ?_))))))))))))))
 exact⟨_,rfl, by rw[show JD D=decide (D.armed=1) by simp [JD, *]];congr 2; simp;omega, by rw[show Zl D={D with armed:=D.armed -1} by simp [Zl, *]]; exact ZF ⟨bf,bs,qv⟩ {hI with armed:=⟨by simp;omega, by simp;omega⟩} hS4⟩
theorem TU {w:World} {p:Nat} {kp:Value} {D:DS} {F:Th} (hS:Sat w [XX p kp D,F]):
    Calls prog 51 #[ptrV p 0] w (Ret fun v w'=>v= .tuple #[]∧Sat w' [XX p kp {D with down:=false},F]):= by
 obtain⟨⟨bf,bs,qv⟩,hI,hS⟩:=Ws hS; dsimp only at hS
 refine Qy func51 Qa ntmps51 Qa ?_
 refine Qb (Qe Qa Qa (Ql Qa Qa (Qi Qa V7 Qa ?_)))
 first | (refine Qw hS Qa Qa XU (by rfl) (i:=0) Qa (QC Qa) ?_)
 intro w1 hS2; dsimp only[List.set]at hS2
 exact Qh (Yl (.inl Qa) Qa (⟨_,Qa,Qa,ZF ⟨bf,bs,qv⟩ {hI with } hS2⟩))
theorem lose_sp {w:World} {p:Nat} {kp:Value} {D:DS} {F:Th} (hS:Sat w [XX p kp D,F]) (n:Int) (hn:n≤9223372036854775807):
    Calls prog 55 #[ptrV p 0,intV n] w (Ret fun v w'=>v= .tuple #[]∧Sat w' [XX p kp {D with lost:=max n 0},F]):= by
 obtain⟨⟨bf,bs,qv⟩,hI,hS⟩:=Ws hS; dsimp only at hS
 refine Qy func55 Qa ntmps55 Qa ?_
 refine Qb (Qe Qa Qa (Qe Qa Qa (GY Qa Qa Qa (Ql Qa Qa (Qi Qa Rw Qa ?_)))))
 first | (refine Qw hS Qa Qa WA (by rfl) (i:=0) Qa (QC Qa) ?_)
 intro w1 hS2; dsimp only[List.set]at hS2
 refine Qh (Yl (.inl Qa) Qa ?_)
 exact⟨_,rfl,rfl,ZF ⟨bf,bs,qv⟩ {hI with lost:=⟨by simp;omega, by simp;omega⟩} hS2⟩
def newD:DS:=⟨fun _=>([],[]),[],0,false,0,[]⟩
theorem Ej:DInv newD:=⟨by simp [newD], by simp [newD], by simp [newD], by simp [newD], by simp [newD], by simp [newD]⟩
theorem Eh {w:World} {p bf bs:Nat} {F:Th} (h:Sat w [Xb p [.map (some bf),.slice none 0 0,.map (some bs),intV 0,.bool false,intV 0,.slice none 0 0],X3 Wf bs (fun _=>none),X3 XH bf (fun _=>none),F]):
    Sat w [Xb p (Yb ⟨bf,bs,.slice none 0 0⟩ (.slice none 0 0) newD),Jo bf newD.F,X7 (.slice none 0 0) newD.Q.length 2 (Zy newD.Q),Y8 bs newD.Q,F]:= by
  have h1:=Yz (Q:=[]) (fun _=>none) (by simp) (h.pull 1 Qa); dsimp only[List.eraseIdx]at h1
  have h2:=WQ (F:= fun _=>([],[])) (fun _=>none) (fun _=>rfl) (h1.pull 2 Qa); dsimp only[List.eraseIdx]at h2
  have h3:=h2.new (Only.refl [] w) (A:=X7 (.slice none 0 0) 0 2 []) (F':= fun k=>k∈([]:List Nat)) ⟨[],rfl,Own.nil w 2⟩ (by simp)
  exact h3.reorder [3,1,0,2,4] Qa
theorem new_sp {w:World} {F:Th} (hS:Sat w [F]):
    Calls prog 63 #[] w (Ret fun v w'=> ∃p,v=ptrV p 0∧Sat w' [XX p (.slice none 0 0) newD,F]):= by
 refine Qy func63 Qa ntmps63 Qa ?_
 refine Qf (Qb (Qc Qa Qa (Qh (Qd (Qf (Qb (Wq XH hS Qa ?_)))))))
 intro b1 w1 hS1
 refine Wq Wf hS1 Qa ?_
 intro b2 w2 hS2
 refine Zs Qa Pa asz_120 Lw Qa Qa (Za hS2 Qa Qa Qa ?_)
 intro b3 w3 hS3
 exact Qc Qa Qa (Qh (Qd (Qo (Q5 (.inr Qa) Qa Qa (⟨_,Qa,_,Qa,ZF ⟨b1,b2,.slice none 0 0⟩ Ej (Eh hS3)⟩)))))
theorem read_ok {D:DS} {f at_ size:Int} {A B:Nat} (h: ¬ZM D f≠0) (h1:0≤at_) (h2:0≤size) (hA:min at_ ((D.F f).1.length:Int)=A) (hB:min size ((((D.F f).1.take (D.F f).1.length).drop A).length:Int)=B):
    Value.tuple #[strV (((((D.F f).1.take (D.F f).1.length).drop A).take B).drop 0),intV 0]= .tuple #[strV (Wx D f at_ size),intV (ZT D f at_ size)]:= by
  have e:ZT D f at_ size=0:= by simp only[ZT]; rw[if_neg h,if_neg (by omega)]
  rw[e,Wx,if_pos e]
  have e2:((D.F f).1.drop at_.toNat)=(((D.F f).1.take (D.F f).1.length).drop A):= by
    rw[List.take_length]
    by_cases hc:at_≤(D.F f).1.length
    · rw[show A=at_.toNat by omega]
    · rw[List.drop_eq_nil_of_le (by omega),List.drop_eq_nil_of_le (by omega)]
  have e3:(((D.F f).1.drop at_.toNat).take size.toNat)=((((D.F f).1.take (D.F f).1.length).drop A).take B):= by
    rw[←e2]at hB⊢
    by_cases hc:size≤((D.F f).1.drop at_.toNat).length
    · rw[show B=size.toNat by omega]
    · rw[List.take_of_length_le (by omega),List.take_of_length_le (by omega)]
  rw[e3,List.drop_zero]
theorem read_sp {w:World} {p:Nat} {kp:Value} {D:DS} {F:Th} (hS:Sat w [XX p kp D,F]) (f at_ size:Int):
    Calls prog 88 #[ptrV p 0,intV f,intV at_,intV size] w (Ret fun v w'=>v= .tuple #[strV (Wx D f at_ size),intV (ZT D f at_ size)]∧w=w'):= by
 have hS0:=hS
 obtain⟨⟨bf,bs,qv⟩,hI,hS⟩:=Ws hS; dsimp only at hS
 obtain⟨g,hg,hS⟩:=JC (hS.pull 1 rfl); dsimp only[List.eraseIdx]at hS
 refine Qy func88 Qa ntmps88 Qa ?_
 refine Qf (Qb (Qc Qa Qa (Qc Qa Qa (Qh (Qd (Qf (Qf (Qb (Qe Qa Qa (Qe Qa Qa (Q0 P1 Qa (Ph (hS0) f) Qa ?_)))))))))))
 rintro _ _ ⟨rfl,rfl⟩
 refine Qc Qa Qa (Qh (Qd (Qf (Qb (Qe Qa Qa (Xu Qa Qa Qa (Qh (Qd (Qk [3,2,1,0,8,9,10,16] Qa (Qv Qa (fun h2=> ?_) (fun h2=> ?_)))))))))))
 ·refine Qf (Qb (Qe Qa Qa (Qc Qa Qa (Qc Qa Qa (Qh (Qd (Qo (Qm (Z8 (.inr Qa) Qa Qa Qa ?_)))))))))
  exact⟨_,rfl, by simp [ZT,Wx, *],rfl⟩
 refine Qt (Qd (Qf (Qf (Qb (Qe Qa Qa (X5 Qa Qa Qa (Qe Qa Qa (Q4 20 Qa (fun h3=> ?_) (fun h3=> ?_)))))))))
 ·refine Qg Qa Qa (QD h3) Qa (Qg Qa Qa (QD h3) Qa (Q1 Qa (QD h3) Qa Qa (Qh (Qd (Qk [3,2,1,0,8,9,23] Qa (QP Qa (Qf (Qb (Qc Qa Qa (Qc Qa Qa (Qh (Qd (Qo (Qm (Z8 (.inr Qa) Qa Qa Qa ?_)))))))))))))))
  exact⟨_,rfl, by simp [ZT,Wx, *],rfl⟩
 refine Qj Qa Qa (Qx h3) (Qe Qa Qa (Qj Qa Qa (Qx h3) (X5 Qa Qa Qa (Q3 Qa (Qx h3) Qa Qa (Qh (Qd (Qk [3,2,1,0,8,9,23] Qa (Qv Qa (fun h4=> ?_) (fun h4=> ?_)))))))))
 ·refine Qf (Qb (Qc Qa Qa (Qc Qa Qa (Qh (Qd (Qo (Qm (Z8 (.inr Qa) Qa Qa Qa ?_))))))))
  exact⟨_,rfl, by simp [ZT,Wx, *],rfl⟩
 refine Qt (Qd (Qf (Qb (Qe Qa Qa (Ql Qa Qa (Qi Qa JB Qa (Qr Qa Ua (hS.cell 1 Qa Qa) Qa (Qe Qa Qa (YN 0 hS keysInt underlying116 Qa Qa Qa Uv (hg _) Qa (B0 CZ Qa Qa Qa (Qc Qa Qa (Qh (Qd (Qk [3,2,8,9,11] Qa (Qf ?_)))))))))))))))
 obtain⟨A,hA⟩: ∃A:Nat,min at_ ((D.F f).1.length:Int)=A:=⟨(min at_ ((D.F f).1.length:Int)).toNat, by omega⟩
 refine Qb (Qe Qa Qa (Qe Qa Qa (Qe Qa Qa (Zf underlying9 Qa Qa (Uc Qa Qa Qa (YM A _ underlying9 Qa (Hx A _ Qa hA) (UN _) (by omega) (by omega) Qa ?_))))))
 refine Qc Qa Qa (Qh (Qd (Qk [3,8,9,11] Qa (Qf ?_))))
 obtain⟨B,hB⟩: ∃B:Nat,min size ((((D.F f).1.take (D.F f).1.length).drop A).length:Int)=B:=⟨(min size ((((D.F f).1.take (D.F f).1.length).drop A).length:Int)).toNat, by omega⟩
 refine Qb (Qe Qa Qa (Qe Qa Qa (Qe Qa Qa (Zf underlying9 Qa Qa (Uc Qa Qa Qa (YM _ B underlying9 Qa (UN _) (Hx B _ Qa hB) (by omega) (by omega) Qa ?_))))))
 exact Qc Qa Qa (Qc Qa Qa (Qh (Qd (Qo (Z8 (.inr Qa) Qa Qa Qa (⟨_,rfl,read_ok (by assumption) (by omega) (by omega) hA hB,rfl⟩))))))
theorem put3 (s t:Bytes) (a:Nat) (hne:t≠[]) (hc:max s.length (a+t.length)≠a):Xc (XI (GL s (max s.length (a+t.length)))) (0+a*1) (XI (t.take (max s.length (a+t.length) -a)))=XI (Jq s a t):= by
  rw[List.take_of_length_le (by omega),K2,Nat.zero_add,Nat.mul_one,put2 s t a hne]
theorem LR {w:World} {F:Th} (hS:Sat w [F]) (s t:Bytes) (a:Nat) (h1:s.length≤16777216) (h2:a+t.length≤33554432):
    Calls prog 110 #[strV s,intV a,strV t] w (Ret fun v w'=>v=strV (Jq s a t)∧Sat w' [F]):= by
 refine Qy func110 Qa ntmps110 Qa ?_
 refine Qf (Qb (Qc Qa Qa (Qh (Qd (Qf (Qf (Qb (Qe Qa Qa (VH Qa Qa Qa (Qh (Qd (Qv Qa (fun h1=> ?_) (fun h1=> ?_)))))))))))))
 ·have hne:t=[]:=h1
  refine Qf (Qb (Qe Qa Qa (Qc Qa Qa (Qh (Qd (Qo (Qm (Q5 (.inr Qa) Qa Qa ?_))))))))
  exact⟨_,rfl, by rw[hne,Vw],hS⟩
 have hne:t≠[]:=h1
 refine Qt (Qd (Qf (Qb (Qe Qa Qa (Zf underlying9 Qa Qa (Qe Qa Qa (Qe Qa Qa (Zf underlying9 Qa Qa (XC Qa Qa (by omega) (by omega) Qa ?_)))))))))
 refine GY Qa Qa Qa (PO hS (max s.length (a+t.length)) Qa Qa (by omega) underlying98 Su Qa (by omega) (by omega) Qa ?_)
 intro b w1 hS1; rw[NA]at hS1
 refine Qc Qa Qa (Qh (Qd (Qk [2,1,0,6,7] Qa (Qf (Qb (Qe Qa Qa (Qe Qa Qa ?_)))))))
 refine TM 0 hS1 Qa Qa Qa Qa underlying98 sz_5 (by simp [XI];omega) (put1 s _ (by omega)) Qa ?_
 intro w2 hS2; dsimp only[List.set]at hS2
 refine Qh (Qd (Qf (Qb (Qe Qa Qa (Qe Qa Qa (Bz a (max s.length (a+t.length)) underlying98 sz_5 Qa (Hx a _ Qa Qa) (UN _) (by omega) (by omega) Qa ?_))))))
 have hc:max s.length (a+t.length)≠a:= by have :0<t.length:=List.length_pos_iff.2 hne;omega
 rw[if_neg hc]
 refine Qe Qa Qa ?_
 refine TM 0 hS2 Qa Qa Qa Qa underlying98 sz_5 (by simp [XI,GL];omega) (put3 s t a hne hc) Qa ?_
 intro w3 hS3; dsimp only[List.set]at hS3
 refine Qh (Qd (Qk [6,7] Qa (Qf (Qb (Qe Qa Qa ?_)))))
 refine wl_strB 0 hS3 (Jq s a t) Qa Qa Qa underlying98 underlying5 underlying9 (by rw[List.drop_zero,List.take_of_length_le (by rw[U2,Vx s t a hne];omega)]) (Vx s t a hne) Qa ?_
 exact Qc Qa Qa (Qh (Qd (Qo (Q5 (.inr Qa) Qa Qa (⟨_,Qa,Qa,hS3.tail⟩)))))
theorem Uh (Q:List (Int×Int)):(Zy Q).length=Q.length*2:= by
  induction Q with
  | nil=>rfl
  | cons p Q ih=> simp only[Zy,List.flatMap_cons,List.length_append,List.length_cons,List.length_nil]at ih⊢;omega
theorem Fg (Q:List (Int×Int)) (p:Int×Int):Zy Q++[intV p.1,intV p.2]=Zy (Q++[p]):= by simp [Zy]
theorem G0 {g:Int→Option Value} {F:Int→Bytes×Bytes} (h:YL g F) (f:Int) (x:Bytes×Bytes):YL (upd g f (some (UL x))) (J7 F f x):= by
  intro k
  by_cases hk:k=f
  · subst hk; simp [Hj,J7]
  · rw[K4 hk,h k]; simp [J7,hk]
theorem DX (f:Int) (k:Nat): ∀(n:Int) (Q:List (Int×Int)),Jn f (k+1) n Q=(let Q':=Jn f k n Q; if(f,n+k)∈Q' then Q' else Q'++[(f,n+k)]):= by
  induction k with
  | zero=> intro n Q; simp [Jn]
  | succ k ih=>
    intro n Q
    rw[Jn,ih]
    simp only[Jn]
    rw[show n+1+(k:Int)=n+((k+1:Nat):Int) by omega]
    rfl
theorem KA (f:Int) (hf:0≤f∧f<16): ∀(k:Nat) (n:Int) (Q:List (Int×Int)),0≤n→n+k≤262145→(∀p∈Q,(0≤p.1∧p.1<16)∧0≤p.2∧p.2≤262144)→Q.Nodup→(∀p∈Jn f k n Q,(0≤p.1∧p.1<16)∧0≤p.2∧p.2≤262144)∧(Jn f k n Q).Nodup
  | 0,n,Q,_,_,h1,h2=>⟨h1,h2⟩
  | k+1,n,Q,h0,hn,h1,h2=> by
    simp only[Jn]
    refine KA f hf k (n+1) _ (by omega) (by omega) ?_ ?_
    · intro p hp
      split at hp
      · exact h1 p hp
      · rcases List.mem_append.1 hp with hp | hp
        · exact h1 p hp
        · simp only[List.mem_singleton]at hp; subst hp; exact⟨hf, by simp;omega⟩
    · split
      · exact h2
      · rename_i hn'
        exact List.nodup_append.2 ⟨h2, by simp, by intro a ha b hb; simp only[List.mem_singleton]at hb; subst hb; intro e; subst e; exact hn' ha⟩
theorem VR {Q:List (Int×Int)} (h: ∀p∈Q,(0≤p.1∧p.1<16)∧0≤p.2∧p.2≤262144) (hn:Q.Nodup):Q.length≤4194320:= by
  have hm:(Q.map fun p=>(p.1*262145+p.2).toNat).Nodup:= by
    refine List.pairwise_map.2 (hn.imp_of_mem ?_)
    intro a b ha hb hne e
    apply hne
    have h1:=h a ha; have h2:=h b hb
    have :a.1*262145+a.2=b.1*262145+b.2:= by omega
    have e1:a.1=b.1:= by omega
    have e2:a.2=b.2:= by omega
    exact Prod.ext e1 e2
  have hs: ∀x∈Q.map (fun p=>(p.1*262145+p.2).toNat),x∈List.range 4194320:= by
    intro x hx
    obtain⟨p,hp,rfl⟩:=List.mem_map.1 hx
    have :=h p hp
    simp;omega
  have :=List.Nodup.length_le_of_subset hm hs
  simpa using this
theorem El {D:DS} {f:Int} (h:ZM D f=0):0≤f∧f<16:= by
  unfold ZM at h;split at h
  · cases h
  · split at h
    · cases h
    · omega
theorem Mx {w:World} {p bf bs:Nat} {kp qv:Value} {D:DS} {g:Int→Option Value} {F:Th} (hI:DInv D) (hg:YL g D.F) (h:Sat w [X3 XH bf g,Xb p (Yb ⟨bf,bs,qv⟩ kp D),X7 qv D.Q.length 2 (Zy D.Q),Y8 bs D.Q,F]):Sat w [XX p kp D,F]:=
  ZF ⟨bf,bs,qv⟩ hI ((WQ g hg h).reorder [1,0,2,3,4] Qa)
theorem set_val {Q:List (Int×Int)} {gs:Int×Int→Option Value} (hgs: ∀p,gs p= if p∈Q then some (.bool true)else none) (x:Int×Int):(gs x).getD (.bool false)= .bool (decide (x∈Q)):= by
  rw[hgs];by_cases h:x∈Q<;> simp [h]
theorem wfull {w:World} {p bf bs:Nat} {kp qv:Value} {D:DS} {g:Int→Option Value} {F:Th} {f at_:Int} {s:Bytes} (hI:DInv D) (hg:YL g D.F) (hm:ZM D f=0) (hat:0≤at_) (hx:16777216<at_∨16777216 -at_<s.length) (h:Sat w [X3 XH bf g,Xb p (Yb ⟨bf,bs,qv⟩ kp D),X7 qv D.Q.length 2 (Zy D.Q),Y8 bs D.Q,F]):Ret (fun v w'=>v=intV (WE D f at_ s)∧Sat w' [XX p kp (WU D f at_ s),F]) (.returned (intV 6)) w:= by
  have e:WE D f at_ s=6:= by simp only[WE]; rw[if_neg (by simp [hm]),if_neg (by omega),if_pos hx]
  exact⟨_,rfl, by rw[e], by rw[WU,if_neg (by rw[e];decide)]; exact Mx hI hg h⟩
theorem wnone {w:World} {p bf bs:Nat} {kp qv:Value} {D:DS} {g:Int→Option Value} {F:Th} {f at_:Int} {s:Bytes} (hI:DInv D) (hg:YL g D.F) (hm:ZM D f=0) (hat:0≤at_) (hx: ¬(16777216<at_∨16777216 -at_<s.length)) (hs:s=[]) (h:Sat w [X3 XH bf g,Xb p (Yb ⟨bf,bs,qv⟩ kp D),X7 qv D.Q.length 2 (Zy D.Q),Y8 bs D.Q,F]):Ret (fun v w'=>v=intV (WE D f at_ s)∧Sat w' [XX p kp (WU D f at_ s),F]) (.returned (intV 0)) w:= by
  have e:WE D f at_ s=0:= by simp only[WE]; rw[if_neg (by simp [hm]),if_neg (by omega),if_neg hx]
  exact⟨_,rfl, by rw[e], by rw[WU,if_pos e,Yn,if_pos hs]; exact Mx hI hg h⟩
theorem wstart {w:World} {p bf bs:Nat} {kp qv:Value} {D:DS} {g:Int→Option Value} {F X:Th} {f:Int} {a:Nat} {s:Bytes} (hg:YL g D.F) (h:Sat w [X,X3 XH bf (upd g f (some (UL (Jq (D.F f).1 a s,(D.F f).2)))),Xb p (Yb ⟨bf,bs,qv⟩ kp D),X7 qv D.Q.length 2 (Zy D.Q),Y8 bs D.Q,F]):
    Sat w [Xb p [.map (some bf),qv,.map (some bs),intV D.lost,.bool D.down,intV D.armed,kp],Jo bf (J7 D.F f (Jq (D.F f).1 a s,(D.F f).2)),X7 qv (Jn f 0 ((a:Int)/ 64) D.Q).length 2 (Zy (Jn f 0 ((a:Int)/ 64) D.Q)),Y8 bs (Jn f 0 ((a:Int)/ 64) D.Q),F]:=
  (WQ _ (G0 hg f _) h.tail).reorder [1,0,2,3,4] Qa
theorem ND {w:World} {p bf bs:Nat} {C:List Value} {qv:Value} {Q:List (Int×Int)} {G:Int→Bytes×Bytes} {gs:Int×Int→Option Value} {F X:Th} {f n:Int} {j:Nat} (hgs: ∀p,gs p= if p∈Jn f j n Q then some (.bool true)else none) (hold:(f,n+j)∈Jn f j n Q) (h:Sat w [X,X3 Wf bs gs,Xb p C,Jo bf G,X7 qv (Jn f j n Q).length 2 (Zy (Jn f j n Q)),F]):
    Sat w [Xb p C,Jo bf G,X7 qv (Jn f (j+1) n Q).length 2 (Zy (Jn f (j+1) n Q)),Y8 bs (Jn f (j+1) n Q),F]:= by
  rw[DX,if_pos hold]
  exact(Yz gs hgs h.tail).reorder [1,2,3,0,4] Qa
theorem NE {w:World} {p bf bs:Nat} {C:List Value} {qv:Value} {Q:List (Int×Int)} {G:Int→Bytes×Bytes} {gs:Int×Int→Option Value} {F X Y:Th} {f n:Int} {j:Nat} (hgs: ∀p,gs p= if p∈Jn f j n Q then some (.bool true)else none) (hnew:(f,n+j)∉Jn f j n Q) (h:Sat w [Y,X,X3 Wf bs (upd gs (f,n+j) (some (.bool true))),Xb p C,Jo bf G,X7 qv ((Jn f j n Q).length+1) 2 (Zy (Jn f j n Q)++[intV f,intV (n+j)]),F]):
    Sat w [Xb p C,Jo bf G,X7 qv (Jn f (j+1) n Q).length 2 (Zy (Jn f (j+1) n Q)),Y8 bs (Jn f (j+1) n Q),F]:= by
  rw[DX,if_neg hnew,←Fg,List.length_append]
  refine(Yz (Q:=Jn f j n Q++[(f,n+j)]) (upd gs (f,n+j) (some (.bool true))) ?_ h.tail.tail).reorder [1,2,3,0,4] Qa
  intro x
  by_cases hx:x=(f,n+j)
  · subst hx; simp [Hj]
  · rw[K4 hx,hgs]; simp [hx]
theorem wdone {w:World} {p bf bs N j:Nat} {kp qv:Value} {D:DS} {gs:Int×Int→Option Value} {F:Th} {f:Int} {a:Nat} {s:Bytes} (hI:DInv D) (hm:ZM D f=0) (hf:0≤f∧f<16) (hx: ¬(16777216<(a:Int)∨16777216 -(a:Int)<s.length)) (hs:s≠[]) (hput:(Jq (D.F f).1 a s).length≤16777216) (hN:N=(((a:Int)+s.length -1)/ 64 -(a:Int)/ 64+1).toNat) (hj:j≤N) (hend: ¬(a:Int)/ 64+j≤((a:Int)+s.length -1)/ 64)
    (hgs: ∀p,gs p= if p∈Jn f j ((a:Int)/ 64) D.Q then some (.bool true)else none)
    (h:Sat w [X3 Wf bs gs,Xb p [.map (some bf),qv,.map (some bs),intV D.lost,.bool D.down,intV D.armed,kp],Jo bf (J7 D.F f (Jq (D.F f).1 a s,(D.F f).2)),X7 qv (Jn f j ((a:Int)/ 64) D.Q).length 2 (Zy (Jn f j ((a:Int)/ 64) D.Q)),F]):
    Ret (fun v w'=>v=intV (WE D f a s)∧Sat w' [XX p kp (WU D f a s),F]) (.returned (intV 0)) w:= by
  have hlen:0<s.length:=List.length_pos_iff.2 hs
  have hjN:j=N:= by omega
  subst hjN
  have e:WE D f a s=0:= by simp only[WE]; rw[if_neg (by simp [hm]),if_neg (by omega),if_neg hx]
  have hpb:=KA f hf j ((a:Int)/ 64) D.Q (by omega) (by omega) hI.secs hI.nodup
  have eD:WU D f a s={D with F:=J7 D.F f (Jq (D.F f).1 a s,(D.F f).2),Q:=Jn f j ((a:Int)/ 64) D.Q}:= by
    rw[WU,if_pos e,Yn,if_neg hs,hN]; simp
  refine⟨_,rfl, by rw[e], ?_⟩
  rw[eD]
  refine ZF ⟨bf,bs,qv⟩ ({hI with now:= fun k=> ?_,last:= fun k=> ?_,nodup:=hpb.2,secs:=hpb.1}) ((Yz gs hgs h).reorder [1,2,3,0,4] Qa)
  · simp only[J7];split
    · exact hput
    · exact hI.now k
  · simp only[J7];split
    · exact hI.last f
    · exact hI.last k
theorem Lz {w:World} {p:Nat} {kp:Value} {D:DS} {F:Th} (hS:Sat w [XX p kp D,F]) (f at_:Int) (s:Bytes):
    Calls prog 130 #[ptrV p 0,intV f,intV at_,strV s] w (Ret fun v w'=>v=intV (WE D f at_ s)∧Sat w' [XX p kp (WU D f at_ s),F]):= by
 have hS0:=hS
 obtain⟨⟨bf,bs,qv⟩,hI,hS⟩:=Ws hS; dsimp only at hS
 obtain⟨g,hg,hS⟩:=JC (hS.pull 1 rfl); dsimp only[List.eraseIdx]at hS
 refine Qy func130 Qa ntmps130 Qa ?_
 refine Qf (Qb (Qc Qa Qa (Qh (Qd (Qf (Qf (Qb (Qe Qa Qa (Qe Qa Qa (Q0 P1 Qa (Ph (hS0) f) Qa ?_))))))))))
 rintro _ _ ⟨rfl,rfl⟩
 refine Qc Qa Qa (Qh (Qd (Qf (Qb (Qe Qa Qa (Xu Qa Qa Qa (Qh (Qd (Qk [3,2,1,0,8,9,17] Qa (Qv Qa (fun h2=> ?_) (fun h2=> ?_)))))))))))
 ·have hm:ZM D f≠0:=h2
  refine Qf (Qb (Qe Qa Qa (Qc Qa Qa (Qh (Qd (Qo (Qm (Q5 (.inr Qa) Qa Qa ?_))))))))
  exact⟨_,rfl, by simp [WE,hm], by rw[show WU D f at_ s=D by simp [WU,WE,hm]]; exact Mx hI hg hS⟩
 have hm:ZM D f=0:=Decidable.not_not.1 h2
 have hf16:=El hm
 refine Qt (Qd (Qf (QK (Qf (Qb (Qe Qa Qa (X5 Qa Qa Qa (Qc Qa Qa (Qh (Qd (Qv Qa (fun h3=> ?_) (fun h3=> ?_))))))))))))
 ·have hat:at_<0:=h3
  refine Qf (Qb (Qc Qa Qa (Qh (Qd (Qo (Qz (Qm (Q5 (.inr Qa) Qa Qa ?_))))))))
  exact⟨_,rfl, by simp [WE,hm,hat], by rw[show WU D f at_ s=D by simp [WU,WE,hm,hat]]; exact Mx hI hg hS⟩
 have hat:0≤at_:= by omega
 refine Qf (Qb (Qe Qa Qa (Wr Qa Qa Qa (Qe Qa Qa (Q4 25 Qa (fun h4=> ?_) (fun h4=> ?_))))))
 ·exact Qg Qa Qa (QD h4) Qa (Qg Qa Qa (QD h4) Qa (Qg Qa Qa (QD h4) Qa (Qg Qa Qa (QD h4) Qa (Qg Qa Qa (QD h4) Qa (Q1 Qa (QD h4) Qa Qa (Qc Qa Qa (Qh (Qd (Qk [3,2,1,0,8,22] Qa (QP Qa (Qf (Qb (Qc Qa Qa (Qh (Qd (Qo (Qz (Qm (Q5 (.inr Qa) Qa Qa (wfull hI hg hm hat (by omega) hS))))))))))))))))))))
 refine Qj Qa Qa (Qx h4) (Qe Qa Qa (Qj Qa Qa (Qx h4) (Zf underlying9 Qa Qa (Qj Qa Qa (Qx h4) (Qe Qa Qa (Qj Qa Qa (Qx h4) (JH Qa Qa (by omega) (by omega) Qa ?_)))))))
 refine Qj Qa Qa (Qx h4) (Wr Qa Qa Qa (Q3 Qa (Qx h4) Qa Qa (Qc Qa Qa (Qh (Qd (Qk [3,2,1,0,8,22] Qa (Qv Qa (fun h5=> ?_) (fun h5=> ?_))))))))
 ·exact Qf (Qb (Qc Qa Qa (Qh (Qd (Qo (Qz (Qm (Q5 (.inr Qa) Qa Qa (wfull hI hg hm hat (by omega) hS)))))))))
 refine Qf (Qb (Qe Qa Qa (VH Qa Qa Qa (Qc Qa Qa (Qh (Qd (Qv Qa (fun h6=> ?_) (fun h6=> ?_))))))))
 ·have hs0:s=[]:=h6
  exact Qf (Qb (Qc Qa Qa (Qh (Qd (Qo (Qz (Qm (Q5 (.inr Qa) Qa Qa (wnone hI hg hm hat (by omega) hs0 hS)))))))))
 have hs0:s≠[]:=h6
 have hlen:0<s.length:=List.length_pos_iff.2 hs0
 obtain⟨a,rfl⟩:=Int.eq_ofNat_of_zero_le hat
 have hnow:=hI.now f
 refine Qt (Qq (Qd (Qf (Qb (Qe Qa Qa (Ql Qa Qa (Qi Qa JB Qa (Qr Qa Ua (hS.cell 1 Qa Qa) Qa (Qe Qa Qa (YN 0 hS keysInt underlying116 Qa Qa Qa Uv (hg _) Qa (Xs hS Uv Qa Qa ?_)))))))))))
 intro b7 w7 hS7
 (refine Q8 hS7 Qa Qa UQ Qa (by rfl) (i:=0) Qa (by decide) ?_)
 intro w8 hS9; dsimp only[List.set]at hS9
 refine Qh (Qd (Qk [3,2,1,0,8,10] Qa (Qf (Qb (Qi Qa V6 Qa (Qr Qa Zx (hS9.cell 0 Qa Qa) Qa (Qe Qa Qa (Qe Qa Qa (Q0 SA Qa (LR (hS9.sp [] Qa) _ s a hnow (by omega)) Qa ?_)))))))))
 rintro _ w10 ⟨rfl,hS10⟩
 replace hS10:=hS10.jn Qa Qa
 refine Qi Qa V6 Qa ?_
 (refine Qw hS10 Qa Qa Hz (by rfl) (i:=0) Qa (QC Qa) ?_)
 intro w11 hS12; dsimp only[List.set]at hS12
 refine Qh ?_
 have hput:=Sa (m:=16777216) hnow (show a+s.length≤16777216 by omega)
 refine Qd (Qk [3,2,1,0,8,10] Qa (Qf ?_))
 have hS13:=hS12.drew
 refine QN [0,1,2,3,4,5,6] [6] W5 (by kernel_rfl) ?_
 refine QI Qa Qa Qa (Xn Qa Qa Qa (QO Qa Qa Qa JB (QF Qa Qa Qa (Qn Qa Ua (hS13.cell 2 Qa Qa)) (QI Qa Qa Qa (QF Qa Qa Qa (Jw Qa AR UQ (hS13.blk 0 Qa) (QC Qa) Qa) (QV Qa Qa Qa Qa Qa Qa ?_))))))
 first | refine XP 1 hS13 keysInt underlying116 Qa Qa Qa Qa ?_
 intro w14 hS14; dsimp only[List.set]at hS14
 refine Z9 (Xq (by kernel_rfl)) ?_
 refine VC.nil (Qd (Qk [3,2,1,0,8] Qa (Qf (Qf (Qb (Qe Qa Qa (NG Qa Qa (by omega) (by omega) (by omega) Qa ?_)))))))
 refine Qc Qa Qa (Qh (Qd (QK ?_)))
 obtain⟨N,hN⟩: ∃N:Nat,N=(((a:Int)+s.length -1)/ 64 -(a:Int)/ 64+1).toNat:=⟨_,rfl⟩
 refine XJ (fun K0 E0 W0=> ∃(j:Nat) (qv:Value),K0=N -j∧E0=[(0,ptrV p 0),(1,intV f),(2,intV (a:Int)),(3,strV s),(11,intV ((a:Int)/ 64+(j:Int)))]∧Sat W0 [Xb p [.map (some bf),qv,.map (some bs),intV D.lost,.bool D.down,intV D.armed,kp],Jo bf (J7 D.F f (Jq (D.F f).1 a s,(D.F f).2)),X7 qv (Jn f j ((a:Int)/ 64) D.Q).length 2 (Zy (Jn f j ((a:Int)/ 64) D.Q)),Y8 bs (Jn f j ((a:Int)/ 64) D.Q),F]∧(j≤N)) (L0:=[(0,_),(1,_),(2,_),(3,_),(11,_)]) (N) (NC Qa Qa Qa Qa Qa) ⟨0,qv, by omega, by simp,wstart hg hS14, by omega⟩ ?_
 rintro _ _ w15 ⟨j,qv,rfl,rfl,hS15,hj⟩
 obtain⟨gs,hgs,hS15⟩:=RP (hS15.pull 3 rfl); dsimp only[List.eraseIdx]at hS15
 have hpb:=KA f hf16 j ((a:Int)/ 64) D.Q (by omega) (by omega) hI.secs hI.nodup
 have hcnt:=VR hpb.1 hpb.2
 refine Qf (Qf (Qb (Qe Qa Qa (Qe Qa Qa (Qe Qa Qa (Zf underlying9 Qa Qa (XC Qa Qa (by omega) (by omega) Qa ?_)))))))
 refine JH Qa Qa (by omega) (by omega) Qa ?_
 refine NG Qa Qa (by omega) (by omega) (by omega) Qa ?_
 refine W9 Qa Qa Qa (Qh (Qd (Qk [11,3,2,1,0,62] Qa (Qv Qa (fun h16=> ?_) (fun h16=> ?_)))))
 ·refine Qt (Qd (Qf (QK (Qf (Qb (Qe Qa Qa (Qe Qa Qa (Zs Qa NZ asz_126 RH Qa Qa (Xs hS15 RH Qa Qa ?_)))))))))
  intro b17 w17 hS17
  (refine Q8 hS17 Qa Qa WF Qa (by rfl) (i:=0) Qa (by decide) ?_)
  intro w18 hS19; dsimp only[List.set]at hS19
  refine Qh (Qd (Qf ?_))
  have hS20:=hS19.drew
  refine QN [0,1,2,3,4,5,6] [] W5 (by kernel_rfl) ?_
  refine QI Qa Qa Qa (Xn Qa Qa Qa (QO Qa Qa Qa UK (QF Qa Qa Qa (Qn Qa VG (hS20.cell 2 Qa Qa)) (QF Qa Qa Qa (Jw Qa YX WF (hS20.blk 0 Qa) (QC Qa) Qa) (QF Qa Qa Qa (JQ (k:=(f,(a:Int)/ 64+(j:Int))) 1 hS20 keysSec underlying118 Qa Qa Qa zr_4 (set_val hgs _)) (Q9 Qa Qa Qa (fun _=>(Gm Qa)) ?_))))))
  refine VC.nil (Qd (Qk [11,3,2,1,0,12,74] Qa (QZ Qa (fun h21=> ?_) (fun h21=> ?_))))
  ·have hnew:(f,(a:Int)/ 64+(j:Int))∉Jn f j ((a:Int)/ 64) D.Q:= by simpa using h21
   have hS22:=hS20.drew
   refine QN [0,1,2,3,4,5,6,7,8,9,10,11,12,13,14,15,16,17,18] [11,12,15,16,18] W5 (by kernel_rfl) ?_
   refine QI Qa Qa Qa (QI Qa Qa Qa (Xn Qa Qa Qa (QO Qa Qa Qa UK (QF Qa Qa Qa (Qn Qa VG (hS22.cell 2 Qa Qa)) (QF Qa Qa Qa (Jw Qa YX WF (hS22.blk 0 Qa) (QC Qa) Qa) (QI Qa Qa Qa (Xn Qa Qa Qa (QO Qa Qa Qa Hr (QF Qa Qa Qa (Qn Qa Gz (hS22.cell 2 Qa Qa)) (QF Qa Qa Qa (Jw Qa YX WF (hS22.blk 0 Qa) (QC Qa) Qa) (QV Qa Qa Qa Qa Qa Qa ?_)))))))))))
   refine Ha hS22 Qa underlying117 St Qa Qa Qa Qa ?_
   intro b23 w23 hS23
   refine Xd (.skip (by kernel_rfl) (.cons (.inl ⟨rfl,(Qn Qa Gz (hS23.cell 3 Qa Qa))⟩) (.cons (.inl ⟨rfl,(Jw Qa YX WF (hS23.blk 1 Qa) (QC Qa) Qa)⟩) (.cons (.inl ⟨rfl,(Qn Qa VG (hS23.cell 3 Qa Qa))⟩) .nil)))) ?_
   refine QV Qa Qa Qa Qa Qa Qa ?_
   refine U6 5 hS23 Qa Qa Qa underlying117 underlying117 (by intro k hk; cases hk) Tb Qa (by decide) (Gh hS23 0 Qa) (HS hS23 0 Qa) (by rfl) (by rfl) (by omega) (by omega) Qa ?_
   intro v24 w24 hS24; dsimp only[List.set]at hS24
   have h1v24:v24.oneCell'=true:= by exact hS24.own_one 5 Qa
   refine Xd (.skip (by kernel_rfl) (.skip (by kernel_rfl) (.cons (.inl ⟨rfl,(Jw Qa YX WF (hS24.blk 1 Qa) (QC Qa) Qa)⟩) (.cons (.inl ⟨rfl,(Qn Qa VG (hS24.cell 3 Qa Qa))⟩) .nil)))) ?_
   refine Xn Qa Qa Qa (QO Qa Qa Qa Hr (QV Qa Qa Qa Qa Qa Qa ?_))
   (refine Qw hS24 Qa Qa K5 (by assumption) (i:=3) Qa (QC Qa) ?_)
   intro w25 hS26; dsimp only[List.set]at hS26
   refine Z9 (.skip (by kernel_rfl) (.skip (by kernel_rfl) (.cons (.inl ⟨rfl,(Jw Qa YX WF (hS26.blk 1 Qa) (QC Qa) Qa)⟩) (Xq (by kernel_rfl))))) ?_
   refine QV Qa Qa Qa Qa Qa Qa ?_
   refine TL (k:=(f,(a:Int)/ 64+(j:Int))) 2 hS26 keysSec underlying118 Qa Qa Qa (by rw[hgs,if_neg hnew]) zr_4 Qa ?_
   intro c27 w27 hS27; dsimp only[List.set]at hS27
   refine Xd (Xq (by kernel_rfl)) ?_
   refine Y6 Qa Qa Qa Qa (QV Qa Qa Qa Qa Qa Qa ?_)
   refine Dt 2 hS27 keysSec Qa Qa Qa Qa ?_
   intro w28 hS28; dsimp only[List.set]at hS28
   refine Z9 (Xq (by kernel_rfl)) ?_
   refine VC.nil (Qq (Qd (Qk [11,3,2,1,0] Qa (Qb (Qe Qa Qa (XC Qa Qa (by omega) (by omega) Qa ?_))))))
   refine Qc Qa Qa (Qh ?_)
   exact Xj (L1:=[(0,ptrV p 0),(1,intV f),(2,intV (a:Int)),(3,strV s),(11,intV ((a:Int)/ 64+((j+1:Nat):Int)))]) (NC Qa Qa Qa Qa Qa) (k1:=N -(j+1)) (by omega) ⟨j+1,_, by omega,rfl,NE hgs hnew hS28, by omega⟩
  have hold:(f,(a:Int)/ 64+(j:Int))∈Jn f j ((a:Int)/ 64) D.Q:= by simpa using h21
  refine Qt (Qq (Qd (Qb (Qe Qa Qa (XC Qa Qa (by omega) (by omega) Qa ?_)))))
  refine Qc Qa Qa (Qh ?_)
  exact Xj (L1:=[(0,ptrV p 0),(1,intV f),(2,intV (a:Int)),(3,strV s),(11,intV ((a:Int)/ 64+((j+1:Nat):Int)))]) (NC Qa Qa Qa Qa Qa) (k1:=N -(j+1)) (by omega) ⟨j+1,_, by omega,rfl,ND hgs hold hS20, by omega⟩
 exact X6 (Q6 (Q6 (QR (Qd (Qf (Qb (Qc Qa Qa (Qh (Qd (Qo (Q5 (.inr Qa) Qa Qa (wdone hI hm hf16 (by omega) hs0 hput hN hj (by assumption) hgs hS15))))))))))))
def Gq (c:Nat) (f:Int) (w:World):Prop:=w.cell? ⟨c,0,none⟩=some (intV f)
theorem NW {Q:List (Int×Int)} {j:Nat} {p:Int×Int} (h:Q[j]? =some p):((Zy Q).drop (j*2)).take 2=[intV p.1,intV p.2]:= by
  induction Q generalizing j with
  | nil=> simp at h
  | cons q Q ih=>
    cases j with
    | zero=> simp at h; subst h; simp [Zy]
    | succ j=>
      simp at h
      have :=ih h
      rw[show(j+1)*2=2+j*2 by omega,←List.drop_drop]
      simpa [Zy]using this
theorem S7 {w:World} {F:Th} (hS:Sat w [F]) {c:Nat} {f:Int} (hc:Ent F (Gq c f)) (x y:Int):
    Calls prog 114 #[.agg #[intV x,intV y],ptrV c 0] w (Ret fun v w'=>v= .bool (decide (x=f))∧Sat w' [F]):= by
 refine Qy func114 Qa ntmps114 Qa ?_
 refine Qf (Qb (Za hS Qa Qa Qa ?_))
 intro b1 w1 hS1
 exact Qc Qa Qa (Qh (Qd (Qf (Qb (Qi Qa Ru Qa (Qr Qa QH (hS1.cell 0 Qa Qa) Qa (Qr Qa QH (hc.sat hS1 1 Qa) Qa (QL Qa Qa Qa (Qc Qa Qa (Qh (Qd (Qo (Q5 (.inr Qa) Qa Qa (⟨_,Qa,Qa,hS1.tail⟩))))))))))))))
theorem clo2_sp {w:World} {F:Th} (hS:Sat w [F]) {c:Nat} {f:Int} (hc:Ent F (Gq c f)) (x y:Int) (u:Value):
    Calls prog 116 #[.agg #[intV x,intV y],u,ptrV c 0] w (Ret fun v w'=>v= .bool (decide (x=f))∧Sat w' [F]):= by
 refine Qy func116 Qa ntmps116 Qa ?_
 refine Qf (Qb (Za hS Qa Qa Qa ?_))
 intro b1 w1 hS1
 exact Qc Qa Qa (Qh (Qd (Qf (Qb (Qi Qa Ru Qa (Qr Qa QH (hS1.cell 0 Qa Qa) Qa (Qr Qa QH (hc.sat hS1 1 Qa) Qa (QL Qa Qa Qa (Qc Qa Qa (Qh (Qd (Qo (Q5 (.inr Qa) Qa Qa (⟨_,Qa,Qa,hS1.tail⟩))))))))))))))
theorem Ey {w:World} {F:Th} {qv:Value} {Q:List (Int×Int)} (hS:Sat w [X7 qv Q.length 2 (Zy Q),F]) {c:Nat} {f:Int} (hc:Ent F (Gq c f)) (hl:Q.length≤4194320):
    Calls prog 129 #[qv,.func (.func 114) #[] #[ptrV c 0]] w (Ret fun v w'=> ∃r:Int,v=intV r∧((r= -1∧ ∀p∈Q,p.1≠f)∨ ∃(k:Nat) (p:Int×Int),r=k∧Q[k]? =some p∧p.1=f∧ ∀j q,j<k→Q[j]? =some q→q.1≠f)∧Sat w' [X7 qv Q.length 2 (Zy Q),F]):= by
 refine Qy func129 Qa ntmps129 Qa ?_
 refine Qf (Qb (Qc Qa Qa (Qh (Qd (Qf (Qf (Qb (Qe Qa Qa (Xa 0 hS underlying117 Qa Qa Qa (Qe Qa Qa (Qh (Qd (QK ?_)))))))))))))
 refine XJ (fun K0 E0 W0=> ∃(k:Nat),K0=Q.length -k∧E0=[(0,qv),(1,.func (.func 114) #[] #[ptrV c 0]),(7,intV (Q.length:Int)),(8,intV (k:Int))]∧Sat W0 [X7 qv Q.length 2 (Zy Q),F]∧(k≤Q.length)∧(∀j p,j<k→Q[j]? =some p→p.1≠f)) (L0:=[(0,_),(1,_),(7,_),(8,_)]) (Q.length) (By Qa Qa Qa Qa) ⟨0, by omega,rfl,hS, by omega, by omega⟩ ?_
 rintro _ _ w1 ⟨k,rfl,rfl,hS1,hk,hno⟩
 refine Qf (Qb (X5 Qa Qa Qa (Qh (Qd (Qf (Qv Qa (fun h2=> ?_) (fun h2=> ?_)))))))
 ·obtain⟨p,hp⟩: ∃p,Q[k]? =some p:=⟨_,WY (by omega)⟩
  refine Qt (Qd (Qf (QK (Qf (Qb (Qe Qa Qa (Qc Qa Qa (Qh (Qd (Qf (Qb (Qe Qa Qa (Qe Qa Qa (Qe Qa Qa (U4 0 k hS1 Qa Qa Qa Qa (by omega) Ts Qa ?_)))))))))))))))
  intro b cap hv
  refine KR 0 hS1 Qa hv Qa YX WF (NW hp) Qa Qa (Vp Qa S9 Qa (S7 (hS1.sp [] Qa) (hc.starL 1 Qa) _ _) Qa ?_)
  rintro e w3 ⟨_,rfl,rfl,hS3⟩; refine⟨_,rfl, ?_⟩
  replace hS3:=hS3.jn Qa Qa
  refine Qh (Qd (Qk [8,7,1,0,5,16] Qa (QZ Qa (fun h4=> ?_) (fun h4=> ?_))))
  ·have heq:p.1=f:= by simpa using h4
   exact Qf (Qb (Qe Qa Qa (Qc Qa Qa (Qh (Qd (Qo (Qz (Qm (Qm (Qz (Qm (Q5 (.inr Qa) Qa Qa (⟨_,Qa,_,Qa,.inr ⟨k,p,Qa,hp,heq,hno⟩,hS3⟩)))))))))))))
  have hne:p.1≠f:= by simpa using h4
  refine Qt (Qq (Qd (Qb (XC Qa Qa (by omega) (by omega) Qa ?_))))
  refine Qe Qa Qa (Qh ?_)
  exact Xj (L1:=[(0,qv),(1,.func (.func 114) #[] #[ptrV c 0]),(7,intV (Q.length:Int)),(8,intV ((k+1:Nat):Int))]) (By Qa Qa Qa Qa) (k1:=Q.length -(k+1)) (by omega) ⟨k+1, by omega,rfl,hS3, by omega, fun j q hj hq=> by by_cases e:j=k;(subst e; rw[hp]at hq; cases hq; exact hne); exact hno j q (by omega) hq⟩
 refine X6 (Q6 (Q6 (QR (Qd (Qf (Qb (Qc Qa Qa (Qh (Qd (Qo (Q5 (.inr Qa) Qa Qa ?_)))))))))))
 exact⟨_,rfl,_,rfl,.inl ⟨rfl, fun p hp=> by obtain⟨j,hj⟩:=List.mem_iff_getElem?.1 hp; exact hno j p (by have :=(ZD hj).1;omega) hj⟩,hS1⟩
