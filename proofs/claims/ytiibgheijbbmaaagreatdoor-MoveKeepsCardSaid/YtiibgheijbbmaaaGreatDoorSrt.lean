/- The shelf's contract of sorting ints as a contract of things. Conditions: each one's own hypotheses. -/
import Derived.Test.YtiibgheijbbmaaaGreatDoorOp4
import Derived.Test.YtiibgheijbbmaaaGreatDoorWire
set_option linter.unusedVariables false
set_option maxRecDepth 100000
namespace Go.Proofs.YtiibgheijbbmaaaGreatDoor.M
open Go.RowKit Go.Sort Proofs.Tryz
def UB (l:List Int):List Int:=l.mergeSort fun x y=>decide (x≤y)
theorem Mb (l:List Int):(UB l).Perm l:=List.mergeSort_perm _ _
theorem Vg (l:List Int):(UB l).length=l.length:=(Mb l).length_eq
theorem Ti (d xs:List Int) (sp:List Value) (h:d.length=xs.length):(putCells (Value.int .i64) 0 d.toArray (xs.map intV++sp).toArray)=(d.map intV++sp).toArray:= by
  apply Array.ext_getElem?
  intro k
  unfold putCells
  simp only[Array.getElem?_mapIdx,List.getElem?_toArray,Nat.zero_le,true_and,Nat.zero_add,Nat.sub_zero,List.size_toArray]
  by_cases hk:k<d.length
  · rw[List.getElem?_append_left (by simpa [←h]using hk),List.getElem?_append_left (by simpa using hk)]
    simp [hk,h▸hk,intV]
  · rw[List.getElem?_append_right (by simp;omega),List.getElem?_append_right (by simp;omega)]
    have hk': ¬k<xs.length:= by omega
    simp only[List.length_map,h,hk',if_false,Option.map_id']
theorem Ss {P:Program} {f:Nat}
    (hsome: ∀(blk off cap:Nat) (ss:List Int) (w:World),Holds (Value.int .i64) w blk off ss.toArray→blk<w.heap.size→ss.length<4611686018427387904→Calls P f #[.slice (some ⟨blk,off,none⟩) ss.length cap] w fun e w'=>e= .returned (.tuple #[])∧ ∃n os,w'=grow (putRow (Value.int .i64) (Go.Sort.ahead w n) blk off (ss.mergeSort fun x y=>decide (x≤y)).toArray) os)
    (hnone: ∀(p:Option Addr) (cap:Nat) (w:World),Calls P f #[.slice p 0 cap] w fun e w'=>e= .returned (.tuple #[])∧w'=w)
    {w:World} {v:Value} {l:List Int} {As:List Th} (hS:Sat w (rowT inC v l::As)) (hl:l.length<4611686018427387904):Calls P f #[v] w (Ret fun u w'=>u= .tuple #[]∧Sat w' (rowT inC v (UB l)::As)):= by
  obtain⟨foot,hlen,h⟩:=hS.own 0 rfl
  rcases h with⟨rfl,hn,hf⟩ | ⟨b,cap,sp,rfl,hcap,hb,hsz,hf⟩
  · have :l=[]:=List.eq_nil_of_length_eq_zero hn
    subst this
    exact(hnone none 0 w).mono fun e w' ⟨h1,h2⟩=>⟨_,h1,rfl, by rw[h2];simpa [UB]using hS⟩
  · have hH:Holds (Value.int .i64) w b 0 l.toArray:= fun j hj=> by
      have hj':j<l.length:= by simpa using hj
      rw[RD]at hb
      refine⟨?_, ?_⟩
      · rw[Nat.zero_add]
        refine hb.cell ?_
        rw[List.getElem?_append_left (by simpa using hj')]
        simp [hj',intV]
      · exact hb.free _ (by simp;omega)
    refine(hsome b 0 cap l w hH hb.lt hl).mono fun e w' ⟨h1,n,os,h2⟩=>⟨_,h1,rfl, ?_⟩
    have hlt:=hb.lt
    have hheap: ∀k,k<w.heap.size→k≠b→w'.heap[k]? =w.heap[k]? := fun k hk hne=> by
      rw[h2,heap_grow_old _ _ (by simpa using hk)]
      simp only[putRow,mapBlock,heap_ahead,Array.getElem?_modify]
      rw[if_neg (fun q=>hne q.symm)]
    obtain⟨T,lo,hi,hc,hfz⟩:=hb
    have hnew:w'.heap[b]? =some (.cells ((UB l).map intV++sp).toArray T (lo,hi)):= by
      rw[h2,heap_grow_old _ _ (by simpa using hlt)]
      simp only[putRow,mapBlock,heap_ahead,Array.getElem?_modify,if_pos,hc,Option.map_some,onCells,RD]
      rw[show(l.mergeSort fun x y=>decide (x≤y))=UB l from rfl,Ti _ _ _ (Vg l)]
    have ho:Only [b] w w':= by
      refine⟨?_, ?_, ?_, ?_, fun k hk hn=>hheap k hk (by simpa using hn)⟩
      · rw[h2];rfl
      · rw[h2];rfl
      · rw[h2];rfl
      · rw[h2]; simp
    have hfin:=hS.own_set (w':=w') 0 Qa (v':= .slice (some ⟨b,0,none⟩) l.length cap) (n':=l.length) (size':=1) (xs':=inC.cells (UB l)) (fun foot' g=> by
      obtain⟨_,g⟩:=g
      rcases g with⟨g0,_⟩ | ⟨b',cap',sp',g0,g1,g2,g3,g4⟩
      · cases g0
      · simp only[Value.slice.injEq,Option.some.injEq,Addr.mk.injEq,and_true,true_and]at g0
        obtain⟨rfl,rfl⟩:=g0
        refine⟨[b],⟨?_,.inr ⟨b,cap,sp,Qa,hcap,⟨T,lo,hi, ?_, ?_⟩, ?_,Qa⟩⟩, ?_, ?_⟩
        · rw[inC.cells_len,Vg];rfl
        · rw[RD]; exact hnew
        · rcases hfz with q | q
          · exact .inl q
          · refine .inr ?_
            simp only[List.length_append,inC.cells_len,Vg]at q⊢; exact q
        · simp only[List.length_append,inC.cells_len,Vg]at hsz⊢; exact hsz
        · rw[g4]; exact ho
        · rw[g4]; intro k hk; exact .inl hk)
    have e:(UB l).length=l.length:=Vg l
    show Sat w' (XH _ (UB l).length 1 _::As)
    rw[e]; exact hfin
end Go.Proofs.YtiibgheijbbmaaaGreatDoor.M
namespace Go.Proofs.YtiibgheijbbmaaaGreatDoor
open Go.RowKit M Proofs.Tryz
structure CS where
  f:Int
  slot:Nat
  val:Bytes
  sure:Bool
def Hm (p:Nat) (C:CS):List Value:=[ptrV p 0,intV C.f,intV (C.slot:Int),strV C.val,.bool C.sure]
def QJ (s:Nat):Int:= if s=2 then 131072 else 64
def RB (f:Int):CS:=⟨f,0,[],false⟩
def UV (b1 b2 b3 b4:UInt8):Nat:=b1.toNat+256*b2.toNat+65536*b3.toNat+16777216*b4.toNat
inductive Hd where
  | none | bad | slot (s:Nat) (n:Nat)
def JQ (h:Bytes):Hd:=
  match h with
  | []=> .none
  | b0::r=> if b0=0 then .none else
    match r with
    | [b1,b2,b3,b4]=> if(b0=1∨b0=2)∧UV b1 b2 b3 b4≤65536 then .slot b0.toNat (UV b1 b2 b3 b4)else .bad
    | _=> .bad
def HE (slot n:Nat):Bytes:=[UInt8.ofNat slot,UInt8.ofNat n,UInt8.ofNat (n/ 256),UInt8.ofNat (n/ 65536),0]
def W3 (D:DS) (f:Int):Int:=
  if Wf D f 0 5≠0 then Wf D f 0 5 else
  match JQ (WG D f 0 5)with
  | .none=>0
  | .bad=>2
  | .slot s n=> if(WG D f (QJ s) n).length<n then 2 else 0
def J3 (D:DS) (f:Int):CS:=
  match JQ (WG D f 0 5)with
  | .slot s n=>⟨f,s,WG D f (QJ s) n,false⟩
  | _=>RB f
def other (C:CS):Nat:= if C.slot=1 then 2 else 1
structure SR where
  e:Int
  D:DS
  C:CS
def Wz (D:DS) (C:CS) (s:Bytes):SR:=
  let D1:=XU D C.f (QJ (other C)) s
  if WK D C.f (QJ (other C)) s≠0 then⟨WK D C.f (QJ (other C)) s,D1,C⟩else
  let D2:=XD D1 C.f
  if ZC D1 C.f≠0 then⟨ZC D1 C.f,D2,C⟩else
  let D3:=XU D2 C.f 0 (HE (other C) s.length)
  if WK D2 C.f 0 (HE (other C) s.length)≠0 then⟨WK D2 C.f 0 (HE (other C) s.length),D3,C⟩else
  ⟨ZC D3 C.f,XD D3 C.f,⟨C.f,other C,s,decide (ZC D3 C.f=0)⟩⟩
def Z5 (D:DS) (C:CS) (s:Bytes):SR:=
  if 65536<s.length then⟨6,D,C⟩else
  if C.sure=false∧0<C.slot then
    (if ZC D C.f≠0 then⟨ZC D C.f,XD D C.f,C⟩else Wz (XD D C.f) {C with sure:=true} s)
  else Wz D C s
def Glob (g:Nat) (w:World):Prop:= ∀(j:Nat) (v:Value),[intV 0,intV 64,intV 131072][j]? =some v→w.cell? ⟨g,j,none⟩=some v
theorem Glob.off {g s:Nat} {w:World} (h:Glob g w) (hs:s=1∨s=2):w.cell? ⟨g,0+s*1,none⟩=some (intV (QJ s)):= by
  rw[Nat.zero_add,Nat.mul_one]
  rcases hs with rfl | rfl
  · exact h 1 _ Qa
  · exact h 2 _ Qa
theorem JY {D:DS} {f a b n m:Int} (h:Wf D f a n=0) (hb:0≤b) (hm:0≤m):Wf D f b m=0:= by
  unfold Wf at h⊢
  split at h
  · rename_i h1; exact absurd h h1
  · rename_i h1
    rw[if_neg h1,if_neg (by omega)]
theorem Jf (s:Nat):0≤QJ s:= by unfold QJ;split<;>decide
theorem BJ (b:UInt8):b.toNat<256:=b.toNat_lt
theorem BB {D:DS} {f a n:Int}:((WG D f a n).length:Int)≤max n 0:= by
  unfold WG;split
  · simp;omega
  · simp;omega
theorem keysInt:KeyOk prog 3 XY:=EE underlying3
theorem keysSec:KeyOk prog 126 Wq:=Fc (t:=3) underlying126 (by kernel_rfl) underlying3 Qa Qa Qa Qa (by decide) (by decide)
theorem Fb {w:World} {p:Nat} {kp:Value} {D:DS} {F:Th} (hS:Sat w [Zo p kp D,F]) (f:Int):
    Calls prog 93 #[ptrV p 0,intV f] w (Ret fun v w'=>v=intV (ZZ D f)∧w=w'):= by
 obtain⟨⟨bf,bs,qv⟩,hI,hS⟩:=WC hS; dsimp only at hS
 refine Qx func93 Qa ntmps93 Qa ?_
 refine Qg (Qb (Qc Qa Qa (Qh (Qd (Qg (QD (Qg (Qb (Qe Qa Qa (Ql Qa Qa (Qi Qa Kk Qa (Qq Qa JG (hS.cell 0 Qa Qa) Qa (Qc Qa Qa (Qh (Qd (Xb Qa (fun h1=> ?_) (fun h1=> ?_)))))))))))))))))
 ·have hd:D.down=true:=h1
  refine Qg (Qb (Qc Qa Qa (Qh (Qd (Qo (Qy (Qm (Q5 (.inr Qa) Qa Qa ?_))))))))
  exact⟨_,rfl, by simp [ZZ, *],rfl⟩
 have hd:D.down=false:=h1
 refine Qg (Qb (Qe Qa Qa (X0 Qa Qa Qa (Qe Qa Qa (Q4 13 Qa (fun h2=> ?_) (fun h2=> ?_))))))
 ·refine Qf Qa Qa (Q8 h2) Qa (Qf Qa Qa (Q8 h2) Qa (Q0 Qa (Q8 h2) Qa Qa (Qc Qa Qa (Qh (Qd (Qk [4,10] Qa (QO Qa (Qg (Qb (Qc Qa Qa (Qh (Qd (Qo (Qy (Qm (Q5 (.inr Qa) Qa Qa ?_))))))))))))))))
  exact⟨_,rfl, by simp [ZZ, *],rfl⟩
 refine Qj Qa Qa (Qw h2) (Qe Qa Qa (Qj Qa Qa (Qw h2) (WX Qa Qa Qa (Q1 Qa (Qw h2) Qa Qa (Qc Qa Qa (Qh (Qd (Qk [4,10] Qa (Qt Qa (fun h3=> ?_) (fun h3=> ?_))))))))))
 ·refine Qg (Qb (Qc Qa Qa (Qh (Qd (Qo (Qy (Qm (Q5 (.inr Qa) Qa Qa ?_))))))))
  exact⟨_,rfl, by simp [ZZ, *],rfl⟩
 refine Qr (Qp (Qd (Qg (Qb (Qc Qa Qa (Qh (Qd (Qo (Q5 (.inr Qa) Qa Qa ?_)))))))))
 exact⟨_,rfl, by simp [ZZ, *],rfl⟩
theorem L5 {w:World} {p:Nat} {kp:Value} {D:DS} {F:Th} (hS:Sat w [Zo p kp D,F]):
    Calls prog 92 #[ptrV p 0] w (Ret fun v w'=>v= .bool (JV D)∧Sat w' [Zo p kp (Zx D),F]):= by
 obtain⟨⟨bf,bs,qv⟩,hI,hS⟩:=WC hS; dsimp only at hS
 refine Qx func92 Qa ntmps92 Qa ?_
 have ha:=hI.armed
 refine Qg (Qb (Qc Qa Qa (Qh (Qd (Qg (Qg (Qb (Qe Qa Qa (Ql Qa Qa (Qi Qa Kk Qa (Qq Qa JG (hS.cell 0 Qa Qa) Qa (Qe Qa Qa (Z4 7 Qa (fun h1=> ?_) (fun h1=> ?_))))))))))))))
 ·refine Qf Qa Qa h1 Qa (Qf Qa Qa h1 Qa (Qf Qa Qa h1 Qa (Qf Qa Qa h1 Qa (Qf Qa Qa h1 Qa (Q0 Qa h1 Qa Qa (Qh (Qd (Qk [0,2,13] Qa (QO Qa (Qg (Qb (Qc Qa Qa (Qh (Qd (Qo (Qm (Q5 (.inr Qa) Qa Qa ?_)))))))))))))))))
  exact⟨_,rfl, by simp [JV, *], by rw[show Zx D=D by simp [Zx, *]]; exact ZW _ hI hS⟩
 refine Qj Qa Qa h1 (Qe Qa Qa (Qj Qa Qa h1 (Ql Qa Qa (Qj Qa Qa h1 (Qi Qa Vt Qa (Qj Qa Qa h1 (Qq Qa QF (hS.cell 0 Qa Qa) Qa (Qj Qa Qa h1 (QL Qa Qa Qa (Q1 Qa h1 Qa Qa (Qh (Qd (Qk [0,2,13] Qa (Qt Qa (fun h2=> ?_) (fun h2=> ?_)))))))))))))))
 ·refine Qg (Qb (Qc Qa Qa (Qh (Qd (Qo (Qm (Q5 (.inr Qa) Qa Qa ?_)))))))
  exact⟨_,rfl, by simp [JV, *], by rw[show Zx D=D by simp [Zx, *]]; exact ZW _ hI hS⟩
 refine Qr (Qd (Qg (Qb (Qe Qa Qa (Ql Qa Qa (Qi Qa Vt Qa (Qq Qa QF (hS.cell 0 Qa Qa) Qa (JZ Qa Qa (by omega) (by omega) Qa ?_))))))))
 refine Ql Qa Qa (Qi Qa Vt Qa ?_)
 first | (refine Q7 hS Qa Qa Ya (by rfl) (i:=0) Qa (Xd Qa) ?_)
 intro w3 hS4; dsimp only[List.set]at hS4
 refine Qh (Qd (Qg (Qb (Qe Qa Qa (Ql Qa Qa (Qi Qa Vt Qa (Qq Qa QF (hS4.cell 0 Qa Qa) Qa (QL Qa Qa Qa (Qc Qa Qa (Qh (Qd (Qk [2] Qa (Qo (Q5 (.inr Qa) Qa Qa ?_))))))))))))))
 exact⟨_,rfl, by rw[show JV D=decide (D.armed=1) by simp [JV, *]];congr 2; simp;omega, by rw[show Zx D={D with armed:=D.armed -1} by simp [Zx, *]]; exact ZW ⟨bf,bs,qv⟩ {hI with armed:=⟨by simp;omega, by simp;omega⟩} hS4⟩
theorem NO {w:World} {p:Nat} {kp:Value} {D:DS} {F:Th} (hS:Sat w [Zo p kp D,F]):
    Calls prog 51 #[ptrV p 0] w (Ret fun v w'=>v= .tuple #[]∧Sat w' [Zo p kp {D with down:=false},F]):= by
 obtain⟨⟨bf,bs,qv⟩,hI,hS⟩:=WC hS; dsimp only at hS
 refine Qx func51 Qa ntmps51 Qa ?_
 refine Qb (Qe Qa Qa (Ql Qa Qa (Qi Qa Kk Qa ?_)))
 first | (refine Q7 hS Qa Qa Jd (by rfl) (i:=0) Qa (Xd Qa) ?_)
 intro w1 hS2; dsimp only[List.set]at hS2
 exact Qh (Y4 (.inl Qa) Qa (⟨_,Qa,Qa,ZW ⟨bf,bs,qv⟩ {hI with } hS2⟩))
theorem lose_sp {w:World} {p:Nat} {kp:Value} {D:DS} {F:Th} (hS:Sat w [Zo p kp D,F]) (n:Int) (hn:n≤9223372036854775807):
    Calls prog 55 #[ptrV p 0,intV n] w (Ret fun v w'=>v= .tuple #[]∧Sat w' [Zo p kp {D with lost:=max n 0},F]):= by
 obtain⟨⟨bf,bs,qv⟩,hI,hS⟩:=WC hS; dsimp only at hS
 refine Qx func55 Qa ntmps55 Qa ?_
 refine Qb (Qe Qa Qa (Qe Qa Qa (Dj Qa Qa Qa (Ql Qa Qa (Qi Qa Gy Qa ?_)))))
 first | (refine Q7 hS Qa Qa Ya (by rfl) (i:=0) Qa (Xd Qa) ?_)
 intro w1 hS2; dsimp only[List.set]at hS2
 refine Qh (Y4 (.inl Qa) Qa ?_)
 exact⟨_,rfl,rfl,ZW ⟨bf,bs,qv⟩ {hI with lost:=⟨by simp;omega, by simp;omega⟩} hS2⟩
def newD:DS:=⟨fun _=>([],[]),[],0,false,0,[]⟩
theorem O1:DInv newD:=⟨by simp [newD], by simp [newD], by simp [newD], by simp [newD], by simp [newD], by simp [newD]⟩
theorem Oz {w:World} {p bf bs:Nat} {F:Th} (h:Sat w [QR p [.map (some bf),.slice none 0 0,.map (some bs),intV 0,.bool false,intV 0,.slice none 0 0],XE Wq bs (fun _=>none),XE XY bf (fun _=>none),F]):
    Sat w [QR p (Ys ⟨bf,bs,.slice none 0 0⟩ (.slice none 0 0) newD),J0 bf newD.F,XH (.slice none 0 0) newD.Q.length 2 (Z9 newD.Q),YV bs newD.Q,F]:= by
  have h1:=YK (Q:=[]) (fun _=>none) (by simp) (h.pull 1 Qa); dsimp only[List.eraseIdx]at h1
  have h2:=Ji (F:= fun _=>([],[])) (fun _=>none) (fun _=>rfl) (h1.pull 2 Qa); dsimp only[List.eraseIdx]at h2
  have h3:=h2.new (Only.refl [] w) (A:=XH (.slice none 0 0) 0 2 []) (F':= fun k=>k∈([]:List Nat)) ⟨[],rfl,Own.nil w 2⟩ (by simp)
  exact h3.reorder [3,1,0,2,4] Qa
theorem new_sp {w:World} {F:Th} (hS:Sat w [F]):
    Calls prog 63 #[] w (Ret fun v w'=> ∃p,v=ptrV p 0∧Sat w' [Zo p (.slice none 0 0) newD,F]):= by
 refine Qx func63 Qa ntmps63 Qa ?_
 refine Qg (Qb (Qc Qa Qa (Qh (Qd (Qg (Qb (W7 XY hS Qa ?_)))))))
 intro b1 w1 hS1
 refine W7 Wq hS1 Qa ?_
 intro b2 w2 hS2
 refine Zi Qa SV asz_120 A7 Qa Qa (XT hS2 Qa Qa Qa ?_)
 intro b3 w3 hS3
 exact Qc Qa Qa (Qh (Qd (Qo (Q5 (.inr Qa) Qa Qa (⟨_,Qa,_,Qa,ZW ⟨b1,b2,.slice none 0 0⟩ O1 (Oz hS3)⟩)))))
theorem read_ok {D:DS} {f at_ size:Int} {A B:Nat} (h: ¬ZZ D f≠0) (h1:0≤at_) (h2:0≤size) (hA:min at_ ((D.F f).1.length:Int)=A) (hB:min size ((((D.F f).1.take (D.F f).1.length).drop A).length:Int)=B):
    Value.tuple #[strV (((((D.F f).1.take (D.F f).1.length).drop A).take B).drop 0),intV 0]= .tuple #[strV (WG D f at_ size),intV (Wf D f at_ size)]:= by
  have e:Wf D f at_ size=0:= by simp only[Wf]; rw[if_neg h,if_neg (by omega)]
  rw[e,WG,if_pos e]
  have e2:((D.F f).1.drop at_.toNat)=(((D.F f).1.take (D.F f).1.length).drop A):= by
    rw[List.take_length]
    by_cases hc:at_≤(D.F f).1.length
    · rw[show A=at_.toNat by omega]
    · rw[List.drop_eq_nil_of_le (by omega),List.drop_eq_nil_of_le (by omega)]
  have e3:(((D.F f).1.drop at_.toNat).take size.toNat)=((((D.F f).1.take (D.F f).1.length).drop A).take B):= by
    rw[←e2]at hB⊢
    by_cases hc:size≤((D.F f).1.drop at_.toNat).length
    · rw[show B=size.toNat by omega]
    · rw[List.take_of_length_le (by omega),List.take_of_length_le (by omega)]
  rw[e3,List.drop_zero]
theorem read_sp {w:World} {p:Nat} {kp:Value} {D:DS} {F:Th} (hS:Sat w [Zo p kp D,F]) (f at_ size:Int):
    Calls prog 88 #[ptrV p 0,intV f,intV at_,intV size] w (Ret fun v w'=>v= .tuple #[strV (WG D f at_ size),intV (Wf D f at_ size)]∧w=w'):= by
 have hS0:=hS
 obtain⟨⟨bf,bs,qv⟩,hI,hS⟩:=WC hS; dsimp only at hS
 obtain⟨g,hg,hS⟩:=JT (hS.pull 1 rfl); dsimp only[List.eraseIdx]at hS
 refine Qx func88 Qa ntmps88 Qa ?_
 refine Qg (Qb (Qc Qa Qa (Qc Qa Qa (Qh (Qd (Qg (Qg (Qb (Qe Qa Qa (Qe Qa Qa (Qz F5 Qa (Fb (hS0) f) Qa ?_)))))))))))
 rintro _ _ ⟨rfl,rfl⟩
 refine Qc Qa Qa (Qh (Qd (Qg (Qb (Qe Qa Qa (Xr Qa Qa Qa (Qh (Qd (Qk [3,2,1,0,8,9,10,16] Qa (Qt Qa (fun h2=> ?_) (fun h2=> ?_)))))))))))
 ·refine Qg (Qb (Qe Qa Qa (Qc Qa Qa (Qc Qa Qa (Qh (Qd (Qo (Qm (ZG (.inr Qa) Qa Qa Qa ?_)))))))))
  exact⟨_,rfl, by simp [Wf,WG, *],rfl⟩
 refine Qr (Qd (Qg (Qg (Qb (Qe Qa Qa (X0 Qa Qa Qa (Qe Qa Qa (Q4 20 Qa (fun h3=> ?_) (fun h3=> ?_)))))))))
 ·refine Qf Qa Qa (Q8 h3) Qa (Qf Qa Qa (Q8 h3) Qa (Q0 Qa (Q8 h3) Qa Qa (Qh (Qd (Qk [3,2,1,0,8,9,23] Qa (QO Qa (Qg (Qb (Qc Qa Qa (Qc Qa Qa (Qh (Qd (Qo (Qm (ZG (.inr Qa) Qa Qa Qa ?_)))))))))))))))
  exact⟨_,rfl, by simp [Wf,WG, *],rfl⟩
 refine Qj Qa Qa (Qw h3) (Qe Qa Qa (Qj Qa Qa (Qw h3) (X0 Qa Qa Qa (Q1 Qa (Qw h3) Qa Qa (Qh (Qd (Qk [3,2,1,0,8,9,23] Qa (Qt Qa (fun h4=> ?_) (fun h4=> ?_)))))))))
 ·refine Qg (Qb (Qc Qa Qa (Qc Qa Qa (Qh (Qd (Qo (Qm (ZG (.inr Qa) Qa Qa Qa ?_))))))))
  exact⟨_,rfl, by simp [Wf,WG, *],rfl⟩
 refine Qr (Qd (Qg (Qb (Qe Qa Qa (Ql Qa Qa (Qi Qa JS Qa (Qq Qa U3 (hS.cell 1 Qa Qa) Qa (Qe Qa Qa (Hp 0 hS keysInt underlying116 Qa Qa Qa US (hg _) Qa (DD PS Qa Qa Qa (Qc Qa Qa (Qh (Qd (Qk [3,2,8,9,11] Qa (Qg ?_)))))))))))))))
 obtain⟨A,hA⟩: ∃A:Nat,min at_ ((D.F f).1.length:Int)=A:=⟨(min at_ ((D.F f).1.length:Int)).toNat, by omega⟩
 refine Qb (Qe Qa Qa (Qe Qa Qa (Qe Qa Qa (Zu underlying9 Qa Qa (U7 Qa Qa Qa (Ho A _ underlying9 Qa (HL A _ Qa hA) (Vz _) (by omega) (by omega) Qa ?_))))))
 refine Qc Qa Qa (Qh (Qd (Qk [3,8,9,11] Qa (Qg ?_))))
 obtain⟨B,hB⟩: ∃B:Nat,min size ((((D.F f).1.take (D.F f).1.length).drop A).length:Int)=B:=⟨(min size ((((D.F f).1.take (D.F f).1.length).drop A).length:Int)).toNat, by omega⟩
 refine Qb (Qe Qa Qa (Qe Qa Qa (Qe Qa Qa (Zu underlying9 Qa Qa (U7 Qa Qa Qa (Ho _ B underlying9 Qa (Vz _) (HL B _ Qa hB) (by omega) (by omega) Qa ?_))))))
 exact Qc Qa Qa (Qc Qa Qa (Qh (Qd (Qo (ZG (.inr Qa) Qa Qa Qa (⟨_,rfl,read_ok (by assumption) (by omega) (by omega) hA hB,rfl⟩))))))
theorem put3 (s t:Bytes) (a:Nat) (hne:t≠[]) (hc:max s.length (a+t.length)≠a):XF (Za (BV s (max s.length (a+t.length)))) (0+a*1) (Za (t.take (max s.length (a+t.length) -a)))=Za (J2 s a t):= by
  rw[List.take_of_length_le (by omega),Ry,Nat.zero_add,Nat.mul_one,put2 s t a hne]
theorem Of {w:World} {F:Th} (hS:Sat w [F]) (s t:Bytes) (a:Nat) (h1:s.length≤16777216) (h2:a+t.length≤33554432):
    Calls prog 110 #[strV s,intV a,strV t] w (Ret fun v w'=>v=strV (J2 s a t)∧Sat w' [F]):= by
 refine Qx func110 Qa ntmps110 Qa ?_
 refine Qg (Qb (Qc Qa Qa (Qh (Qd (Qg (Qg (Qb (Qe Qa Qa (Kz Qa Qa Qa (Qh (Qd (Qt Qa (fun h1=> ?_) (fun h1=> ?_)))))))))))))
 ·have hne:t=[]:=h1
  refine Qg (Qb (Qe Qa Qa (Qc Qa Qa (Qh (Qd (Qo (Qm (Q5 (.inr Qa) Qa Qa ?_))))))))
  exact⟨_,rfl, by rw[hne,Kb],hS⟩
 have hne:t≠[]:=h1
 refine Qr (Qd (Qg (Qb (Qe Qa Qa (Zu underlying9 Qa Qa (Qe Qa Qa (Qe Qa Qa (Zu underlying9 Qa Qa (Xx Qa Qa (by omega) (by omega) Qa ?_)))))))))
 refine Dj Qa Qa Qa (FO hS (max s.length (a+t.length)) Qa Qa (by omega) underlying98 Lr Qa (by omega) (by omega) Qa ?_)
 intro b w1 hS1; rw[S4]at hS1
 refine Qc Qa Qa (Qh (Qd (Qk [2,1,0,6,7] Qa (Qg (Qb (Qe Qa Qa (Qe Qa Qa ?_)))))))
 refine NC 0 hS1 Qa Qa Qa Qa underlying98 sz_5 (by simp [Za];omega) (put1 s _ (by omega)) Qa ?_
 intro w2 hS2; dsimp only[List.set]at hS2
 refine Qh (Qd (Qg (Qb (Qe Qa Qa (Qe Qa Qa (DC a (max s.length (a+t.length)) underlying98 sz_5 Qa (HL a _ Qa Qa) (Vz _) (by omega) (by omega) Qa ?_))))))
 have hc:max s.length (a+t.length)≠a:= by have :0<t.length:=List.length_pos_iff.2 hne;omega
 rw[if_neg hc]
 refine Qe Qa Qa ?_
 refine NC 0 hS2 Qa Qa Qa Qa underlying98 sz_5 (by simp [Za,BV];omega) (put3 s t a hne hc) Qa ?_
 intro w3 hS3; dsimp only[List.set]at hS3
 refine Qh (Qd (Qk [6,7] Qa (Qg (Qb (Qe Qa Qa ?_)))))
 refine wl_strB 0 hS3 (J2 s a t) Qa Qa Qa underlying98 underlying5 underlying9 (by rw[List.drop_zero,List.take_of_length_le (by rw[UY,Kc s t a hne];omega)]) (Kc s t a hne) Qa ?_
 exact Qc Qa Qa (Qh (Qd (Qo (Q5 (.inr Qa) Qa Qa (⟨_,Qa,Qa,hS3.tail⟩)))))
theorem UC (Q:List (Int×Int)):(Z9 Q).length=Q.length*2:= by
  induction Q with
  | nil=>rfl
  | cons p Q ih=> simp only[Z9,List.flatMap_cons,List.length_append,List.length_cons,List.length_nil]at ih⊢;omega
theorem Ef (Q:List (Int×Int)) (p:Int×Int):Z9 Q++[intV p.1,intV p.2]=Z9 (Q++[p]):= by simp [Z9]
theorem BA {g:Int→Option Value} {F:Int→Bytes×Bytes} (h:Hn g F) (f:Int) (x:Bytes×Bytes):Hn (upd g f (some (Vv x))) (JN F f x):= by
  intro k
  by_cases hk:k=f
  · subst hk; simp [H3,JN]
  · rw[R1 hk,h k]; simp [JN,hk]
theorem TF (f:Int) (k:Nat): ∀(n:Int) (Q:List (Int×Int)),Jz f (k+1) n Q=(let Q':=Jz f k n Q; if(f,n+k)∈Q' then Q' else Q'++[(f,n+k)]):= by
  induction k with
  | zero=> intro n Q; simp [Jz]
  | succ k ih=>
    intro n Q
    rw[Jz,ih]
    simp only[Jz]
    rw[show n+1+(k:Int)=n+((k+1:Nat):Int) by omega]
    rfl
theorem R9 (f:Int) (hf:0≤f∧f<16): ∀(k:Nat) (n:Int) (Q:List (Int×Int)),0≤n→n+k≤262145→(∀p∈Q,(0≤p.1∧p.1<16)∧0≤p.2∧p.2≤262144)→Q.Nodup→(∀p∈Jz f k n Q,(0≤p.1∧p.1<16)∧0≤p.2∧p.2≤262144)∧(Jz f k n Q).Nodup
  | 0,n,Q,_,_,h1,h2=>⟨h1,h2⟩
  | k+1,n,Q,h0,hn,h1,h2=> by
    simp only[Jz]
    refine R9 f hf k (n+1) _ (by omega) (by omega) ?_ ?_
    · intro p hp
      split at hp
      · exact h1 p hp
      · rcases List.mem_append.1 hp with hp | hp
        · exact h1 p hp
        · simp only[List.mem_singleton]at hp; subst hp; exact⟨hf, by simp;omega⟩
    · split
      · exact h2
      · rename_i hn'
        exact List.nodup_append.2 ⟨h2, by simp, by intro a ha b hb; simp only[List.mem_singleton]at hb; subst hb; intro e; subst e; exact hn' ha⟩
theorem KA {Q:List (Int×Int)} (h: ∀p∈Q,(0≤p.1∧p.1<16)∧0≤p.2∧p.2≤262144) (hn:Q.Nodup):Q.length≤4194320:= by
  have hm:(Q.map fun p=>(p.1*262145+p.2).toNat).Nodup:= by
    refine List.pairwise_map.2 (hn.imp_of_mem ?_)
    intro a b ha hb hne e
    apply hne
    have h1:=h a ha; have h2:=h b hb
    have :a.1*262145+a.2=b.1*262145+b.2:= by omega
    have e1:a.1=b.1:= by omega
    have e2:a.2=b.2:= by omega
    exact Prod.ext e1 e2
  have hs: ∀x∈Q.map (fun p=>(p.1*262145+p.2).toNat),x∈List.range 4194320:= by
    intro x hx
    obtain⟨p,hp,rfl⟩:=List.mem_map.1 hx
    have :=h p hp
    simp;omega
  have :=List.Nodup.length_le_of_subset hm hs
  simpa using this
theorem O3 {D:DS} {f:Int} (h:ZZ D f=0):0≤f∧f<16:= by
  unfold ZZ at h;split at h
  · cases h
  · split at h
    · cases h
    · omega
theorem Cf {w:World} {p bf bs:Nat} {kp qv:Value} {D:DS} {g:Int→Option Value} {F:Th} (hI:DInv D) (hg:Hn g D.F) (h:Sat w [XE XY bf g,QR p (Ys ⟨bf,bs,qv⟩ kp D),XH qv D.Q.length 2 (Z9 D.Q),YV bs D.Q,F]):Sat w [Zo p kp D,F]:=
  ZW ⟨bf,bs,qv⟩ hI ((Ji g hg h).reorder [1,0,2,3,4] Qa)
theorem set_val {Q:List (Int×Int)} {gs:Int×Int→Option Value} (hgs: ∀p,gs p= if p∈Q then some (.bool true)else none) (x:Int×Int):(gs x).getD (.bool false)= .bool (decide (x∈Q)):= by
  rw[hgs];by_cases h:x∈Q<;> simp [h]
theorem wfull {w:World} {p bf bs:Nat} {kp qv:Value} {D:DS} {g:Int→Option Value} {F:Th} {f at_:Int} {s:Bytes} (hI:DInv D) (hg:Hn g D.F) (hm:ZZ D f=0) (hat:0≤at_) (hx:16777216<at_∨16777216 -at_<s.length) (h:Sat w [XE XY bf g,QR p (Ys ⟨bf,bs,qv⟩ kp D),XH qv D.Q.length 2 (Z9 D.Q),YV bs D.Q,F]):Ret (fun v w'=>v=intV (WW D f at_ s)∧Sat w' [Zo p kp (Jl D f at_ s),F]) (.returned (intV 6)) w:= by
  have e:WW D f at_ s=6:= by simp only[WW]; rw[if_neg (by simp [hm]),if_neg (by omega),if_pos hx]
  exact⟨_,rfl, by rw[e], by rw[Jl,if_neg (by rw[e];decide)]; exact Cf hI hg h⟩
theorem wnone {w:World} {p bf bs:Nat} {kp qv:Value} {D:DS} {g:Int→Option Value} {F:Th} {f at_:Int} {s:Bytes} (hI:DInv D) (hg:Hn g D.F) (hm:ZZ D f=0) (hat:0≤at_) (hx: ¬(16777216<at_∨16777216 -at_<s.length)) (hs:s=[]) (h:Sat w [XE XY bf g,QR p (Ys ⟨bf,bs,qv⟩ kp D),XH qv D.Q.length 2 (Z9 D.Q),YV bs D.Q,F]):Ret (fun v w'=>v=intV (WW D f at_ s)∧Sat w' [Zo p kp (Jl D f at_ s),F]) (.returned (intV 0)) w:= by
  have e:WW D f at_ s=0:= by simp only[WW]; rw[if_neg (by simp [hm]),if_neg (by omega),if_neg hx]
  exact⟨_,rfl, by rw[e], by rw[Jl,if_pos e,Y5,if_pos hs]; exact Cf hI hg h⟩
theorem wstart {w:World} {p bf bs:Nat} {kp qv:Value} {D:DS} {g:Int→Option Value} {F X:Th} {f:Int} {a:Nat} {s:Bytes} (hg:Hn g D.F) (h:Sat w [X,XE XY bf (upd g f (some (Vv (J2 (D.F f).1 a s,(D.F f).2)))),QR p (Ys ⟨bf,bs,qv⟩ kp D),XH qv D.Q.length 2 (Z9 D.Q),YV bs D.Q,F]):
    Sat w [QR p [.map (some bf),qv,.map (some bs),intV D.lost,.bool D.down,intV D.armed,kp],J0 bf (JN D.F f (J2 (D.F f).1 a s,(D.F f).2)),XH qv (Jz f 0 ((a:Int)/ 64) D.Q).length 2 (Z9 (Jz f 0 ((a:Int)/ 64) D.Q)),YV bs (Jz f 0 ((a:Int)/ 64) D.Q),F]:=
  (Ji _ (BA hg f _) h.tail).reorder [1,0,2,3,4] Qa
theorem S6 {w:World} {p bf bs:Nat} {C:List Value} {qv:Value} {Q:List (Int×Int)} {G:Int→Bytes×Bytes} {gs:Int×Int→Option Value} {F X:Th} {f n:Int} {j:Nat} (hgs: ∀p,gs p= if p∈Jz f j n Q then some (.bool true)else none) (hold:(f,n+j)∈Jz f j n Q) (h:Sat w [X,XE Wq bs gs,QR p C,J0 bf G,XH qv (Jz f j n Q).length 2 (Z9 (Jz f j n Q)),F]):
    Sat w [QR p C,J0 bf G,XH qv (Jz f (j+1) n Q).length 2 (Z9 (Jz f (j+1) n Q)),YV bs (Jz f (j+1) n Q),F]:= by
  rw[TF,if_pos hold]
  exact(YK gs hgs h.tail).reorder [1,2,3,0,4] Qa
theorem S7 {w:World} {p bf bs:Nat} {C:List Value} {qv:Value} {Q:List (Int×Int)} {G:Int→Bytes×Bytes} {gs:Int×Int→Option Value} {F X Y:Th} {f n:Int} {j:Nat} (hgs: ∀p,gs p= if p∈Jz f j n Q then some (.bool true)else none) (hnew:(f,n+j)∉Jz f j n Q) (h:Sat w [Y,X,XE Wq bs (upd gs (f,n+j) (some (.bool true))),QR p C,J0 bf G,XH qv ((Jz f j n Q).length+1) 2 (Z9 (Jz f j n Q)++[intV f,intV (n+j)]),F]):
    Sat w [QR p C,J0 bf G,XH qv (Jz f (j+1) n Q).length 2 (Z9 (Jz f (j+1) n Q)),YV bs (Jz f (j+1) n Q),F]:= by
  rw[TF,if_neg hnew,←Ef,List.length_append]
  refine(YK (Q:=Jz f j n Q++[(f,n+j)]) (upd gs (f,n+j) (some (.bool true))) ?_ h.tail.tail).reorder [1,2,3,0,4] Qa
  intro x
  by_cases hx:x=(f,n+j)
  · subst hx; simp [H3]
  · rw[R1 hx,hgs]; simp [hx]
theorem wdone {w:World} {p bf bs N j:Nat} {kp qv:Value} {D:DS} {gs:Int×Int→Option Value} {F:Th} {f:Int} {a:Nat} {s:Bytes} (hI:DInv D) (hm:ZZ D f=0) (hf:0≤f∧f<16) (hx: ¬(16777216<(a:Int)∨16777216 -(a:Int)<s.length)) (hs:s≠[]) (hput:(J2 (D.F f).1 a s).length≤16777216) (hN:N=(((a:Int)+s.length -1)/ 64 -(a:Int)/ 64+1).toNat) (hj:j≤N) (hend: ¬(a:Int)/ 64+j≤((a:Int)+s.length -1)/ 64)
    (hgs: ∀p,gs p= if p∈Jz f j ((a:Int)/ 64) D.Q then some (.bool true)else none)
    (h:Sat w [XE Wq bs gs,QR p [.map (some bf),qv,.map (some bs),intV D.lost,.bool D.down,intV D.armed,kp],J0 bf (JN D.F f (J2 (D.F f).1 a s,(D.F f).2)),XH qv (Jz f j ((a:Int)/ 64) D.Q).length 2 (Z9 (Jz f j ((a:Int)/ 64) D.Q)),F]):
    Ret (fun v w'=>v=intV (WW D f a s)∧Sat w' [Zo p kp (Jl D f a s),F]) (.returned (intV 0)) w:= by
  have hlen:0<s.length:=List.length_pos_iff.2 hs
  have hjN:j=N:= by omega
  subst hjN
  have e:WW D f a s=0:= by simp only[WW]; rw[if_neg (by simp [hm]),if_neg (by omega),if_neg hx]
  have hpb:=R9 f hf j ((a:Int)/ 64) D.Q (by omega) (by omega) hI.secs hI.nodup
  have eD:Jl D f a s={D with F:=JN D.F f (J2 (D.F f).1 a s,(D.F f).2),Q:=Jz f j ((a:Int)/ 64) D.Q}:= by
    rw[Jl,if_pos e,Y5,if_neg hs,hN]; simp
  refine⟨_,rfl, by rw[e], ?_⟩
  rw[eD]
  refine ZW ⟨bf,bs,qv⟩ ({hI with now:= fun k=> ?_,last:= fun k=> ?_,nodup:=hpb.2,secs:=hpb.1}) ((YK gs hgs h).reorder [1,2,3,0,4] Qa)
  · simp only[JN];split
    · exact hput
    · exact hI.now k
  · simp only[JN];split
    · exact hI.last f
    · exact hI.last k
theorem AB {w:World} {p:Nat} {kp:Value} {D:DS} {F:Th} (hS:Sat w [Zo p kp D,F]) (f at_:Int) (s:Bytes):
    Calls prog 130 #[ptrV p 0,intV f,intV at_,strV s] w (Ret fun v w'=>v=intV (WW D f at_ s)∧Sat w' [Zo p kp (Jl D f at_ s),F]):= by
 have hS0:=hS
 obtain⟨⟨bf,bs,qv⟩,hI,hS⟩:=WC hS; dsimp only at hS
 obtain⟨g,hg,hS⟩:=JT (hS.pull 1 rfl); dsimp only[List.eraseIdx]at hS
 refine Qx func130 Qa ntmps130 Qa ?_
 refine Qg (Qb (Qc Qa Qa (Qh (Qd (Qg (Qg (Qb (Qe Qa Qa (Qe Qa Qa (Qz F5 Qa (Fb (hS0) f) Qa ?_))))))))))
 rintro _ _ ⟨rfl,rfl⟩
 refine Qc Qa Qa (Qh (Qd (Qg (Qb (Qe Qa Qa (Xr Qa Qa Qa (Qh (Qd (Qk [3,2,1,0,8,9,17] Qa (Qt Qa (fun h2=> ?_) (fun h2=> ?_)))))))))))
 ·have hm:ZZ D f≠0:=h2
  refine Qg (Qb (Qe Qa Qa (Qc Qa Qa (Qh (Qd (Qo (Qm (Q5 (.inr Qa) Qa Qa ?_))))))))
  exact⟨_,rfl, by simp [WW,hm], by rw[show Jl D f at_ s=D by simp [Jl,WW,hm]]; exact Cf hI hg hS⟩
 have hm:ZZ D f=0:=Decidable.not_not.1 h2
 have hf16:=O3 hm
 refine Qr (Qd (Qg (QD (Qg (Qb (Qe Qa Qa (X0 Qa Qa Qa (Qc Qa Qa (Qh (Qd (Qt Qa (fun h3=> ?_) (fun h3=> ?_))))))))))))
 ·have hat:at_<0:=h3
  refine Qg (Qb (Qc Qa Qa (Qh (Qd (Qo (Qy (Qm (Q5 (.inr Qa) Qa Qa ?_))))))))
  exact⟨_,rfl, by simp [WW,hm,hat], by rw[show Jl D f at_ s=D by simp [Jl,WW,hm,hat]]; exact Cf hI hg hS⟩
 have hat:0≤at_:= by omega
 refine Qg (Qb (Qe Qa Qa (Wl Qa Qa Qa (Qe Qa Qa (Q4 25 Qa (fun h4=> ?_) (fun h4=> ?_))))))
 ·exact Qf Qa Qa (Q8 h4) Qa (Qf Qa Qa (Q8 h4) Qa (Qf Qa Qa (Q8 h4) Qa (Qf Qa Qa (Q8 h4) Qa (Qf Qa Qa (Q8 h4) Qa (Q0 Qa (Q8 h4) Qa Qa (Qc Qa Qa (Qh (Qd (Qk [3,2,1,0,8,22] Qa (QO Qa (Qg (Qb (Qc Qa Qa (Qh (Qd (Qo (Qy (Qm (Q5 (.inr Qa) Qa Qa (wfull hI hg hm hat (by omega) hS))))))))))))))))))))
 refine Qj Qa Qa (Qw h4) (Qe Qa Qa (Qj Qa Qa (Qw h4) (Zu underlying9 Qa Qa (Qj Qa Qa (Qw h4) (Qe Qa Qa (Qj Qa Qa (Qw h4) (JZ Qa Qa (by omega) (by omega) Qa ?_)))))))
 refine Qj Qa Qa (Qw h4) (Wl Qa Qa Qa (Q1 Qa (Qw h4) Qa Qa (Qc Qa Qa (Qh (Qd (Qk [3,2,1,0,8,22] Qa (Qt Qa (fun h5=> ?_) (fun h5=> ?_))))))))
 ·exact Qg (Qb (Qc Qa Qa (Qh (Qd (Qo (Qy (Qm (Q5 (.inr Qa) Qa Qa (wfull hI hg hm hat (by omega) hS)))))))))
 refine Qg (Qb (Qe Qa Qa (Kz Qa Qa Qa (Qc Qa Qa (Qh (Qd (Qt Qa (fun h6=> ?_) (fun h6=> ?_))))))))
 ·have hs0:s=[]:=h6
  exact Qg (Qb (Qc Qa Qa (Qh (Qd (Qo (Qy (Qm (Q5 (.inr Qa) Qa Qa (wnone hI hg hm hat (by omega) hs0 hS)))))))))
 have hs0:s≠[]:=h6
 have hlen:0<s.length:=List.length_pos_iff.2 hs0
 obtain⟨a,rfl⟩:=Int.eq_ofNat_of_zero_le hat
 have hnow:=hI.now f
 refine Qr (Qp (Qd (Qg (Qb (Qe Qa Qa (Ql Qa Qa (Qi Qa JS Qa (Qq Qa U3 (hS.cell 1 Qa Qa) Qa (Qe Qa Qa (Hp 0 hS keysInt underlying116 Qa Qa Qa US (hg _) Qa (Xl hS US Qa Qa ?_)))))))))))
 intro b7 w7 hS7
 (refine QZ hS7 Qa Qa DO Qa (by rfl) (i:=0) Qa (by decide) ?_)
 intro w8 hS9; dsimp only[List.set]at hS9
 refine Qh (Qd (Qk [3,2,1,0,8,10] Qa (Qg (Qb (Qi Qa Kj Qa (Qq Qa Zr (hS9.cell 0 Qa Qa) Qa (Qe Qa Qa (Qe Qa Qa (Qz LA Qa (Of (hS9.sp [] Qa) _ s a hnow (by omega)) Qa ?_)))))))))
 rintro _ w10 ⟨rfl,hS10⟩
 replace hS10:=hS10.jn Qa Qa
 refine Qi Qa Kj Qa ?_
 (refine Q7 hS10 Qa Qa R2 (by rfl) (i:=0) Qa (Xd Qa) ?_)
 intro w11 hS12; dsimp only[List.set]at hS12
 refine Qh ?_
 have hput:=FZ (m:=16777216) hnow (show a+s.length≤16777216 by omega)
 refine Qd (Qk [3,2,1,0,8,10] Qa (Qg ?_))
 have hS13:=hS12.drew
 refine QM [0,1,2,3,4,5,6] [6] Wv (by kernel_rfl) ?_
 refine QK Qa Qa Qa (Xm Qa Qa Qa (QN Qa Qa Qa JS (Q9 Qa Qa Qa (Qn Qa U3 (hS13.cell 2 Qa Qa)) (QK Qa Qa Qa (Q9 Qa Qa Qa (Ws Qa IW DO (hS13.blk 0 Qa) (Xd Qa) Qa) (QS Qa Qa Qa Qa Qa Qa ?_))))))
 first | refine Ze 1 hS13 keysInt underlying116 Qa Qa Qa Qa ?_
 intro w14 hS14; dsimp only[List.set]at hS14
 refine Z6 (Xp (by kernel_rfl)) ?_
 refine VC.nil (Qd (Qk [3,2,1,0,8] Qa (Qg (Qg (Qb (Qe Qa Qa (S9 Qa Qa (by omega) (by omega) (by omega) Qa ?_)))))))
 refine Qc Qa Qa (Qh (Qd (QD ?_)))
 obtain⟨N,hN⟩: ∃N:Nat,N=(((a:Int)+s.length -1)/ 64 -(a:Int)/ 64+1).toNat:=⟨_,rfl⟩
 refine X8 (fun K0 E0 W0=> ∃(j:Nat) (qv:Value),K0=N -j∧E0=[(0,ptrV p 0),(1,intV f),(2,intV (a:Int)),(3,strV s),(11,intV ((a:Int)/ 64+(j:Int)))]∧Sat W0 [QR p [.map (some bf),qv,.map (some bs),intV D.lost,.bool D.down,intV D.armed,kp],J0 bf (JN D.F f (J2 (D.F f).1 a s,(D.F f).2)),XH qv (Jz f j ((a:Int)/ 64) D.Q).length 2 (Z9 (Jz f j ((a:Int)/ 64) D.Q)),YV bs (Jz f j ((a:Int)/ 64) D.Q),F]∧(j≤N)) (L0:=[(0,_),(1,_),(2,_),(3,_),(11,_)]) (N) (Di Qa Qa Qa Qa Qa) ⟨0,qv, by omega, by simp,wstart hg hS14, by omega⟩ ?_
 rintro _ _ w15 ⟨j,qv,rfl,rfl,hS15,hj⟩
 obtain⟨gs,hgs,hS15⟩:=Ba (hS15.pull 3 rfl); dsimp only[List.eraseIdx]at hS15
 have hpb:=R9 f hf16 j ((a:Int)/ 64) D.Q (by omega) (by omega) hI.secs hI.nodup
 have hcnt:=KA hpb.1 hpb.2
 refine Qg (Qg (Qb (Qe Qa Qa (Qe Qa Qa (Qe Qa Qa (Zu underlying9 Qa Qa (Xx Qa Qa (by omega) (by omega) Qa ?_)))))))
 refine JZ Qa Qa (by omega) (by omega) Qa ?_
 refine S9 Qa Qa (by omega) (by omega) (by omega) Qa ?_
 refine W8 Qa Qa Qa (Qh (Qd (Qk [11,3,2,1,0,62] Qa (Qt Qa (fun h16=> ?_) (fun h16=> ?_)))))
 ·refine Qr (Qd (Qg (QD (Qg (Qb (Qe Qa Qa (Qe Qa Qa (Zi Qa SU asz_126 GQ Qa Qa (Xl hS15 GQ Qa Qa ?_)))))))))
  intro b17 w17 hS17
  (refine QZ hS17 Qa Qa Jr Qa (by rfl) (i:=0) Qa (by decide) ?_)
  intro w18 hS19; dsimp only[List.set]at hS19
  refine Qh (Qd (Qg ?_))
  have hS20:=hS19.drew
  refine QM [0,1,2,3,4,5,6] [] Wv (by kernel_rfl) ?_
  refine QK Qa Qa Qa (Xm Qa Qa Qa (QN Qa Qa Qa Vu (Q9 Qa Qa Qa (Qn Qa Kx (hS20.cell 2 Qa Qa)) (Q9 Qa Qa Qa (Ws Qa Hu Jr (hS20.blk 0 Qa) (Xd Qa) Qa) (Q9 Qa Qa Qa (JE (k:=(f,(a:Int)/ 64+(j:Int))) 1 hS20 keysSec underlying118 Qa Qa Qa zr_4 (set_val hgs _)) (QC Qa Qa Qa (fun _=>(Kn Qa)) ?_))))))
  refine VC.nil (Qd (Qk [11,3,2,1,0,12,74] Qa (Xb Qa (fun h21=> ?_) (fun h21=> ?_))))
  ·have hnew:(f,(a:Int)/ 64+(j:Int))∉Jz f j ((a:Int)/ 64) D.Q:= by simpa using h21
   have hS22:=hS20.drew
   refine QM [0,1,2,3,4,5,6,7,8,9,10,11,12,13,14,15,16,17,18] [11,12,15,16,18] Wv (by kernel_rfl) ?_
   refine QK Qa Qa Qa (QK Qa Qa Qa (Xm Qa Qa Qa (QN Qa Qa Qa Vu (Q9 Qa Qa Qa (Qn Qa Kx (hS22.cell 2 Qa Qa)) (Q9 Qa Qa Qa (Ws Qa Hu Jr (hS22.blk 0 Qa) (Xd Qa) Qa) (QK Qa Qa Qa (Xm Qa Qa Qa (QN Qa Qa Qa HF (Q9 Qa Qa Qa (Qn Qa B9 (hS22.cell 2 Qa Qa)) (Q9 Qa Qa Qa (Ws Qa Hu Jr (hS22.blk 0 Qa) (Xd Qa) Qa) (QS Qa Qa Qa Qa Qa Qa ?_)))))))))))
   refine Hx hS22 Qa underlying117 Lq Qa Qa Qa Qa ?_
   intro b23 w23 hS23
   refine Xe (.skip (by kernel_rfl) (.cons (.inl ⟨rfl,(Qn Qa B9 (hS23.cell 3 Qa Qa))⟩) (.cons (.inl ⟨rfl,(Ws Qa Hu Jr (hS23.blk 1 Qa) (Xd Qa) Qa)⟩) (.cons (.inl ⟨rfl,(Qn Qa Kx (hS23.cell 3 Qa Qa))⟩) .nil)))) ?_
   refine QS Qa Qa Qa Qa Qa Qa ?_
   refine K1 5 hS23 Qa Qa Qa underlying117 underlying117 (by intro k hk; cases hk) Ls Qa (by decide) (TR hS23 0 Qa) (Km hS23 0 Qa) (by rfl) (by rfl) (by omega) (by omega) Qa ?_
   intro v24 w24 hS24; dsimp only[List.set]at hS24
   have h1v24:v24.oneCell'=true:= by exact hS24.own_one 5 Qa
   refine Xe (.skip (by kernel_rfl) (.skip (by kernel_rfl) (.cons (.inl ⟨rfl,(Ws Qa Hu Jr (hS24.blk 1 Qa) (Xd Qa) Qa)⟩) (.cons (.inl ⟨rfl,(Qn Qa Kx (hS24.cell 3 Qa Qa))⟩) .nil)))) ?_
   refine Xm Qa Qa Qa (QN Qa Qa Qa HF (QS Qa Qa Qa Qa Qa Qa ?_))
   (refine Q7 hS24 Qa Qa Co (by assumption) (i:=3) Qa (Xd Qa) ?_)
   intro w25 hS26; dsimp only[List.set]at hS26
   refine Z6 (.skip (by kernel_rfl) (.skip (by kernel_rfl) (.cons (.inl ⟨rfl,(Ws Qa Hu Jr (hS26.blk 1 Qa) (Xd Qa) Qa)⟩) (Xp (by kernel_rfl))))) ?_
   refine QS Qa Qa Qa Qa Qa Qa ?_
   refine NB (k:=(f,(a:Int)/ 64+(j:Int))) 2 hS26 keysSec underlying118 Qa Qa Qa (by rw[hgs,if_neg hnew]) zr_4 Qa ?_
   intro c27 w27 hS27; dsimp only[List.set]at hS27
   refine Xe (Xp (by kernel_rfl)) ?_
   refine Yn Qa Qa Qa Qa (QS Qa Qa Qa Qa Qa Qa ?_)
   refine Td 2 hS27 keysSec Qa Qa Qa Qa ?_
   intro w28 hS28; dsimp only[List.set]at hS28
   refine Z6 (Xp (by kernel_rfl)) ?_
   refine VC.nil (Qp (Qd (Qk [11,3,2,1,0] Qa (Qb (Qe Qa Qa (Xx Qa Qa (by omega) (by omega) Qa ?_))))))
   refine Qc Qa Qa (Qh ?_)
   exact Xa (L1:=[(0,ptrV p 0),(1,intV f),(2,intV (a:Int)),(3,strV s),(11,intV ((a:Int)/ 64+((j+1:Nat):Int)))]) (Di Qa Qa Qa Qa Qa) (k1:=N -(j+1)) (by omega) ⟨j+1,_, by omega,rfl,S7 hgs hnew hS28, by omega⟩
  have hold:(f,(a:Int)/ 64+(j:Int))∈Jz f j ((a:Int)/ 64) D.Q:= by simpa using h21
  refine Qr (Qp (Qd (Qb (Qe Qa Qa (Xx Qa Qa (by omega) (by omega) Qa ?_)))))
  refine Qc Qa Qa (Qh ?_)
  exact Xa (L1:=[(0,ptrV p 0),(1,intV f),(2,intV (a:Int)),(3,strV s),(11,intV ((a:Int)/ 64+((j+1:Nat):Int)))]) (Di Qa Qa Qa Qa Qa) (k1:=N -(j+1)) (by omega) ⟨j+1,_, by omega,rfl,S6 hgs hold hS20, by omega⟩
 exact Xq (Q2 (Q2 (QH (Qd (Qg (Qb (Qc Qa Qa (Qh (Qd (Qo (Q5 (.inr Qa) Qa Qa (wdone hI hm hf16 (by omega) hs0 hput hN hj (by assumption) hgs hS15))))))))))))
def Bz (c:Nat) (f:Int) (w:World):Prop:=w.cell? ⟨c,0,none⟩=some (intV f)
theorem SS {Q:List (Int×Int)} {j:Nat} {p:Int×Int} (h:Q[j]? =some p):((Z9 Q).drop (j*2)).take 2=[intV p.1,intV p.2]:= by
  induction Q generalizing j with
  | nil=> simp at h
  | cons q Q ih=>
    cases j with
    | zero=> simp at h; subst h; simp [Z9]
    | succ j=>
      simp at h
      have :=ih h
      rw[show(j+1)*2=2+j*2 by omega,←List.drop_drop]
      simpa [Z9]using this
theorem L7 {w:World} {F:Th} (hS:Sat w [F]) {c:Nat} {f:Int} (hc:Ent F (Bz c f)) (x y:Int):
    Calls prog 114 #[.agg #[intV x,intV y],ptrV c 0] w (Ret fun v w'=>v= .bool (decide (x=f))∧Sat w' [F]):= by
 refine Qx func114 Qa ntmps114 Qa ?_
 refine Qg (Qb (XT hS Qa Qa Qa ?_))
 intro b1 w1 hS1
 exact Qc Qa Qa (Qh (Qd (Qg (Qb (Qi Qa Gw Qa (Qq Qa QF (hS1.cell 0 Qa Qa) Qa (Qq Qa QF (hc.sat hS1 1 Qa) Qa (QL Qa Qa Qa (Qc Qa Qa (Qh (Qd (Qo (Q5 (.inr Qa) Qa Qa (⟨_,Qa,Qa,hS1.tail⟩))))))))))))))
theorem clo2_sp {w:World} {F:Th} (hS:Sat w [F]) {c:Nat} {f:Int} (hc:Ent F (Bz c f)) (x y:Int) (u:Value):
    Calls prog 116 #[.agg #[intV x,intV y],u,ptrV c 0] w (Ret fun v w'=>v= .bool (decide (x=f))∧Sat w' [F]):= by
 refine Qx func116 Qa ntmps116 Qa ?_
 refine Qg (Qb (XT hS Qa Qa Qa ?_))
 intro b1 w1 hS1
 exact Qc Qa Qa (Qh (Qd (Qg (Qb (Qi Qa Gw Qa (Qq Qa QF (hS1.cell 0 Qa Qa) Qa (Qq Qa QF (hc.sat hS1 1 Qa) Qa (QL Qa Qa Qa (Qc Qa Qa (Qh (Qd (Qo (Q5 (.inr Qa) Qa Qa (⟨_,Qa,Qa,hS1.tail⟩))))))))))))))
theorem OF {w:World} {F:Th} {qv:Value} {Q:List (Int×Int)} (hS:Sat w [XH qv Q.length 2 (Z9 Q),F]) {c:Nat} {f:Int} (hc:Ent F (Bz c f)) (hl:Q.length≤4194320):
    Calls prog 129 #[qv,.func (.func 114) #[] #[ptrV c 0]] w (Ret fun v w'=> ∃r:Int,v=intV r∧((r= -1∧ ∀p∈Q,p.1≠f)∨ ∃(k:Nat) (p:Int×Int),r=k∧Q[k]? =some p∧p.1=f∧ ∀j q,j<k→Q[j]? =some q→q.1≠f)∧Sat w' [XH qv Q.length 2 (Z9 Q),F]):= by
 refine Qx func129 Qa ntmps129 Qa ?_
 refine Qg (Qb (Qc Qa Qa (Qh (Qd (Qg (Qg (Qb (Qe Qa Qa ?_))))))))
 first | refine Xi underlying117 Qa Qa ?_ | refine Xs 0 hS underlying117 Qa Qa Qa ?_
 refine Qe Qa Qa (Qh (Qd (QD ?_)))
 refine X8 (fun K0 E0 W0=> ∃(k:Nat),K0=Q.length -k∧E0=[(0,qv),(1,.func (.func 114) #[] #[ptrV c 0]),(7,intV (Q.length:Int)),(8,intV (k:Int))]∧Sat W0 [XH qv Q.length 2 (Z9 Q),F]∧(k≤Q.length)∧(∀j p,j<k→Q[j]? =some p→p.1≠f)) (L0:=[(0,_),(1,_),(7,_),(8,_)]) (Q.length) (DB Qa Qa Qa Qa) ⟨0, by omega,rfl,hS, by omega, by omega⟩ ?_
 rintro _ _ w1 ⟨k,rfl,rfl,hS1,hk,hno⟩
 refine Qg (Qb (X0 Qa Qa Qa (Qh (Qd (Qg (Qt Qa (fun h2=> ?_) (fun h2=> ?_)))))))
 ·obtain⟨p,hp⟩: ∃p,Q[k]? =some p:=⟨_,WB (by omega)⟩
  refine Qr (Qd (Qg (QD (Qg (Qb (Qe Qa Qa (Qc Qa Qa (Qh (Qd (Qg (Qb (Qe Qa Qa (Qe Qa Qa (Qe Qa Qa (Va 0 k hS1 Qa Qa Qa Qa (by omega) Nd Qa ?_)))))))))))))))
  intro b cap hv
  refine RS 0 hS1 Qa hv Qa Hu Jr (SS hp) Qa Qa (VV Qa L9 Qa (L7 (hS1.sp [] Qa) (hc.starL 1 Qa) _ _) Qa ?_)
  rintro e w3 ⟨_,rfl,rfl,hS3⟩; refine⟨_,rfl, ?_⟩
  replace hS3:=hS3.jn Qa Qa
  refine Qh (Qd (Qk [8,7,1,0,5,16] Qa (Xb Qa (fun h4=> ?_) (fun h4=> ?_))))
  ·have heq:p.1=f:= by simpa using h4
   exact Qg (Qb (Qe Qa Qa (Qc Qa Qa (Qh (Qd (Qo (Qy (Qm (Qm (Qy (Qm (Q5 (.inr Qa) Qa Qa (⟨_,Qa,_,Qa,.inr ⟨k,p,Qa,hp,heq,hno⟩,hS3⟩)))))))))))))
  have hne:p.1≠f:= by simpa using h4
  refine Qr (Qp (Qd (Qb (Xx Qa Qa (by omega) (by omega) Qa ?_))))
  refine Qe Qa Qa (Qh ?_)
  exact Xa (L1:=[(0,qv),(1,.func (.func 114) #[] #[ptrV c 0]),(7,intV (Q.length:Int)),(8,intV ((k+1:Nat):Int))]) (DB Qa Qa Qa Qa) (k1:=Q.length -(k+1)) (by omega) ⟨k+1, by omega,rfl,hS3, by omega, fun j q hj hq=> by by_cases e:j=k;(subst e; rw[hp]at hq; cases hq; exact hne); exact hno j q (by omega) hq⟩
 refine Xq (Q2 (Q2 (QH (Qd (Qg (Qb (Qc Qa Qa (Qh (Qd (Qo (Q5 (.inr Qa) Qa Qa ?_)))))))))))
 exact⟨_,rfl,_,rfl,.inl ⟨rfl, fun p hp=> by obtain⟨j,hj⟩:=List.mem_iff_getElem?.1 hp; exact hno j p (by have :=(Jh hj).1;omega) hj⟩,hS1⟩
