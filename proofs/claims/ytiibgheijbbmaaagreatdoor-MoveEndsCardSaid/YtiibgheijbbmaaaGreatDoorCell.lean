/- cell: what a cell is, in plain data, and what Open and Set do. -/
import Derived.Test.YtiibgheijbbmaaaGreatDoorWire
set_option linter.unusedVariables false
set_option maxRecDepth 100000
namespace Go.Proofs.YtiibgheijbbmaaaGreatDoor
open Go.RowKit M Proofs.Tryz
structure CS where
  f:Int
  slot:Nat
  val:Bytes
  sure:Bool
def Hv (p:Nat) (C:CS):List Value:=[ptrV p 0,intV C.f,intV (C.slot:Int),strV C.val,.bool C.sure]
def QI (s:Nat):Int:= if s=2 then 131072 else 64
def RG (f:Int):CS:=⟨f,0,[],false⟩
def UY (b1 b2 b3 b4:UInt8):Nat:=b1.toNat+256*b2.toNat+65536*b3.toNat+16777216*b4.toNat
inductive Hd where
  | none | bad | slot (s:Nat) (n:Nat)
def Ya (h:Bytes):Hd:=
  match h with
  | []=> .none
  | b0::r=> if b0=0 then .none else
    match r with
    | [b1,b2,b3,b4]=> if(b0=1∨b0=2)∧UY b1 b2 b3 b4≤65536 then .slot b0.toNat (UY b1 b2 b3 b4)else .bad
    | _=> .bad
def HJ (slot n:Nat):Bytes:=[UInt8.ofNat slot,UInt8.ofNat n,UInt8.ofNat (n/ 256),UInt8.ofNat (n/ 65536),0]
def WP (D:DS) (f:Int):Int:=
  if Wk D f 0 5≠0 then Wk D f 0 5 else
  match Ya (WC D f 0 5)with
  | .none=>0
  | .bad=>2
  | .slot s n=> if(WC D f (QI s) n).length<n then 2 else 0
def Hf (D:DS) (f:Int):CS:=
  match Ya (WC D f 0 5)with
  | .slot s n=>⟨f,s,WC D f (QI s) n,false⟩
  | _=>RG f
def other (C:CS):Nat:= if C.slot=1 then 2 else 1
structure SR where
  e:Int
  D:DS
  C:CS
def W2 (D:DS) (C:CS) (s:Bytes):SR:=
  let D1:=XU D C.f (QI (other C)) s
  if WJ D C.f (QI (other C)) s≠0 then⟨WJ D C.f (QI (other C)) s,D1,C⟩else
  let D2:=Zq D1 C.f
  if Wa D1 C.f≠0 then⟨Wa D1 C.f,D2,C⟩else
  let D3:=XU D2 C.f 0 (HJ (other C) s.length)
  if WJ D2 C.f 0 (HJ (other C) s.length)≠0 then⟨WJ D2 C.f 0 (HJ (other C) s.length),D3,C⟩else
  ⟨Wa D3 C.f,Zq D3 C.f,⟨C.f,other C,s,decide (Wa D3 C.f=0)⟩⟩
def ZB (D:DS) (C:CS) (s:Bytes):SR:=
  if 65536<s.length then⟨6,D,C⟩else
  if C.sure=false∧0<C.slot then
    (if Wa D C.f≠0 then⟨Wa D C.f,Zq D C.f,C⟩else W2 (Zq D C.f) {C with sure:=true} s)
  else W2 D C s
def Glob (g:Nat) (w:World):Prop:= ∀(j:Nat) (v:Value),[intV 0,intV 64,intV 131072][j]? =some v→w.cell? ⟨g,j,none⟩=some v
theorem Glob.off {g s:Nat} {w:World} (h:Glob g w) (hs:s=1∨s=2):w.cell? ⟨g,0+s*1,none⟩=some (intV (QI s)):= by
  rw[Nat.zero_add,Nat.mul_one]
  rcases hs with rfl | rfl
  · exact h 1 _ Qa
  · exact h 2 _ Qa
theorem Yi {D:DS} {f a b n m:Int} (h:Wk D f a n=0) (hb:0≤b) (hm:0≤m):Wk D f b m=0:= by
  unfold Wk at h⊢
  split at h
  · rename_i h1; exact absurd h h1
  · rename_i h1
    rw[if_neg h1,if_neg (by omega)]
theorem Ja (s:Nat):0≤QI s:= by unfold QI;split<;>decide
theorem BE (b:UInt8):b.toNat<256:=b.toNat_lt
theorem B8 {D:DS} {f a n:Int}:((WC D f a n).length:Int)≤max n 0:= by
  unfold WC;split
  · simp;omega
  · simp;omega
theorem keysInt:KeyOk prog 3 Za:=Ac underlying3
theorem keysSec:KeyOk prog 126 Wq:=Fo (t:=3) underlying126 (by kernel_rfl) underlying3 Qa Qa Qa Qa (by decide) (by decide)
theorem Fk {w:World} {p:Nat} {kp:Value} {D:DS} {F:Th} (hS:Sat w [Z7 p kp D,F]) (f:Int):
    Calls prog 93 #[ptrV p 0,intV f] w (Ret fun v w'=>v=intV (Wf D f)∧w=w'):= by
 obtain⟨⟨bf,bs,qv⟩,hI,hS⟩:=Jm hS; dsimp only at hS
 refine Qy func93 Qa ntmps93 Qa ?_
 refine Qg (Qb (Qc Qa Qa (Qh (Qe (Qg (QD (Qg (Qb (Qd Qa Qa (Ql Qa Qa (Qi Qa K2 Qa (Qp Qa JT (hS.cell 0 Qa Qa) Qa (Qc Qa Qa (Qh (Qe (Xd Qa (fun h1=> ?_) (fun h1=> ?_)))))))))))))))))
 ·have hd:D.down=true:=h1
  refine Qg (Qb (Qc Qa Qa (Qh (Qe (Qo (Q0 (Qm (Q7 (.inr Qa) Qa Qa ?_))))))))
  exact⟨_,rfl, by simp [Wf, *],rfl⟩
 have hd:D.down=false:=h1
 refine Qg (Qb (Qd Qa Qa (Xz Qa Qa Qa (Qd Qa Qa (Q3 13 Qa (fun h2=> ?_) (fun h2=> ?_))))))
 ·refine Qf Qa Qa (Q8 h2) Qa (Qf Qa Qa (Q8 h2) Qa (Qx Qa (Q8 h2) Qa Qa (Qc Qa Qa (Qh (Qe (Qk [4,10] Qa (QL Qa (Qg (Qb (Qc Qa Qa (Qh (Qe (Qo (Q0 (Qm (Q7 (.inr Qa) Qa Qa ?_))))))))))))))))
  exact⟨_,rfl, by simp [Wf, *],rfl⟩
 refine Qj Qa Qa (Qv h2) (Qd Qa Qa (Qj Qa Qa (Qv h2) (Jj Qa Qa Qa (Qz Qa (Qv h2) Qa Qa (Qc Qa Qa (Qh (Qe (Qk [4,10] Qa (Qw Qa (fun h3=> ?_) (fun h3=> ?_))))))))))
 ·refine Qg (Qb (Qc Qa Qa (Qh (Qe (Qo (Q0 (Qm (Q7 (.inr Qa) Qa Qa ?_))))))))
  exact⟨_,rfl, by simp [Wf, *],rfl⟩
 refine Qr (Qq (Qe (Qg (Qb (Qc Qa Qa (Qh (Qe (Qo (Q7 (.inr Qa) Qa Qa ?_)))))))))
 exact⟨_,rfl, by simp [Wf, *],rfl⟩
theorem LP {w:World} {p:Nat} {kp:Value} {D:DS} {F:Th} (hS:Sat w [Z7 p kp D,F]):
    Calls prog 92 #[ptrV p 0] w (Ret fun v w'=>v= .bool (Yf D)∧Sat w' [Z7 p kp (Zx D),F]):= by
 obtain⟨⟨bf,bs,qv⟩,hI,hS⟩:=Jm hS; dsimp only at hS
 refine Qy func92 Qa ntmps92 Qa ?_
 have ha:=hI.armed
 refine Qg (Qb (Qc Qa Qa (Qh (Qe (Qg (Qg (Qb (Qd Qa Qa (Ql Qa Qa (Qi Qa K2 Qa (Qp Qa JT (hS.cell 0 Qa Qa) Qa (Qd Qa Qa (Zz 7 Qa (fun h1=> ?_) (fun h1=> ?_))))))))))))))
 ·refine Qf Qa Qa h1 Qa (Qf Qa Qa h1 Qa (Qf Qa Qa h1 Qa (Qf Qa Qa h1 Qa (Qf Qa Qa h1 Qa (Qx Qa h1 Qa Qa (Qh (Qe (Qk [0,2,13] Qa (QL Qa (Qg (Qb (Qc Qa Qa (Qh (Qe (Qo (Qm (Q7 (.inr Qa) Qa Qa ?_)))))))))))))))))
  exact⟨_,rfl, by simp [Yf, *], by rw[show Zx D=D by simp [Zx, *]]; exact W8 _ hI hS⟩
 refine Qj Qa Qa h1 (Qd Qa Qa (Qj Qa Qa h1 (Ql Qa Qa (Qj Qa Qa h1 (Qi Qa K1 Qa (Qj Qa Qa h1 (Qp Qa QK (hS.cell 0 Qa Qa) Qa (Qj Qa Qa h1 (QO Qa Qa Qa (Qz Qa h1 Qa Qa (Qh (Qe (Qk [0,2,13] Qa (Qw Qa (fun h2=> ?_) (fun h2=> ?_)))))))))))))))
 ·refine Qg (Qb (Qc Qa Qa (Qh (Qe (Qo (Qm (Q7 (.inr Qa) Qa Qa ?_)))))))
  exact⟨_,rfl, by simp [Yf, *], by rw[show Zx D=D by simp [Zx, *]]; exact W8 _ hI hS⟩
 refine Qr (Qe (Qg (Qb (Qd Qa Qa (Ql Qa Qa (Qi Qa K1 Qa (Qp Qa QK (hS.cell 0 Qa Qa) Qa (JN Qa Qa (by omega) (by omega) Qa ?_))))))))
 refine Ql Qa Qa (Qi Qa K1 Qa ?_)
 first | (refine QC hS Qa Qa YH (by rfl) (i:=0) Qa (Xe Qa) ?_)
 intro w3 hS4; dsimp only[List.set]at hS4
 refine Qh (Qe (Qg (Qb (Qd Qa Qa (Ql Qa Qa (Qi Qa K1 Qa (Qp Qa QK (hS4.cell 0 Qa Qa) Qa (QO Qa Qa Qa (Qc Qa Qa (Qh (Qe (Qk [2] Qa (Qo (Q7 (.inr Qa) Qa Qa ?_))))))))))))))
 exact⟨_,rfl, by rw[show Yf D=decide (D.armed=1) by simp [Yf, *]];congr 2; simp;omega, by rw[show Zx D={D with armed:=D.armed -1} by simp [Zx, *]]; exact W8 ⟨bf,bs,qv⟩ {hI with armed:=⟨by simp;omega, by simp;omega⟩} hS4⟩
theorem Ox {w:World} {p:Nat} {kp:Value} {D:DS} {F:Th} (hS:Sat w [Z7 p kp D,F]):
    Calls prog 51 #[ptrV p 0] w (Ret fun v w'=>v= .tuple #[]∧Sat w' [Z7 p kp {D with down:=false},F]):= by
 obtain⟨⟨bf,bs,qv⟩,hI,hS⟩:=Jm hS; dsimp only at hS
 refine Qy func51 Qa ntmps51 Qa ?_
 refine Qb (Qd Qa Qa (Ql Qa Qa (Qi Qa K2 Qa ?_)))
 first | (refine QC hS Qa Qa Jy (by rfl) (i:=0) Qa (Xe Qa) ?_)
 intro w1 hS2; dsimp only[List.set]at hS2
 exact Qh (H5 (.inl Qa) Qa (⟨_,Qa,Qa,W8 ⟨bf,bs,qv⟩ {hI with } hS2⟩))
def newD:DS:=⟨fun _=>([],[]),[],0,false,0,[]⟩
theorem OV:DInv newD:=⟨by simp [newD], by simp [newD], by simp [newD], by simp [newD], by simp [newD], by simp [newD]⟩
theorem OT {w:World} {p bf bs:Nat} {F:Th} (h:Sat w [QR p [.map (some bf),.slice none 0 0,.map (some bs),intV 0,.bool false,intV 0,.slice none 0 0],XI Wq bs (fun _=>none),XI Za bf (fun _=>none),F]):
    Sat w [QR p (Y0 ⟨bf,bs,.slice none 0 0⟩ (.slice none 0 0) newD),JM bf newD.F,XT (.slice none 0 0) newD.Q.length 2 (ZF newD.Q),Hs bs newD.Q,F]:= by
  have h1:=YR (Q:=[]) (fun _=>none) (by simp) (h.pull 1 Qa); dsimp only[List.eraseIdx]at h1
  have h2:=Jg (F:= fun _=>([],[])) (fun _=>none) (fun _=>rfl) (h1.pull 2 Qa); dsimp only[List.eraseIdx]at h2
  have h3:=h2.new (Only.refl [] w) (A:=XT (.slice none 0 0) 0 2 []) (F':= fun k=>k∈([]:List Nat)) ⟨[],rfl,Own.nil w 2⟩ (by simp)
  exact h3.reorder [3,1,0,2,4] Qa
theorem new_sp {w:World} {F:Th} (hS:Sat w [F]):
    Calls prog 63 #[] w (Ret fun v w'=> ∃p,v=ptrV p 0∧Sat w' [Z7 p (.slice none 0 0) newD,F]):= by
 refine Qy func63 Qa ntmps63 Qa ?_
 refine Qg (Qb (Qc Qa Qa (Qh (Qe (Qg (Qb (W6 Za hS Qa ?_)))))))
 intro b1 w1 hS1
 refine W6 Wq hS1 Qa ?_
 intro b2 w2 hS2
 refine Zu Qa Fc asz_120 AU Qa Qa (XZ hS2 Qa Qa Qa ?_)
 intro b3 w3 hS3
 exact Qc Qa Qa (Qh (Qe (Qo (Q7 (.inr Qa) Qa Qa (⟨_,Qa,_,Qa,W8 ⟨b1,b2,.slice none 0 0⟩ OV (OT hS3)⟩)))))
theorem read_ok {D:DS} {f at_ size:Int} {A B:Nat} (h: ¬Wf D f≠0) (h1:0≤at_) (h2:0≤size) (hA:min at_ ((D.F f).1.length:Int)=A) (hB:min size ((((D.F f).1.take (D.F f).1.length).drop A).length:Int)=B):
    Value.tuple #[strV (((((D.F f).1.take (D.F f).1.length).drop A).take B).drop 0),intV 0]= .tuple #[strV (WC D f at_ size),intV (Wk D f at_ size)]:= by
  have e:Wk D f at_ size=0:= by simp only[Wk]; rw[if_neg h,if_neg (by omega)]
  rw[e,WC,if_pos e]
  have e2:((D.F f).1.drop at_.toNat)=(((D.F f).1.take (D.F f).1.length).drop A):= by
    rw[List.take_length]
    by_cases hc:at_≤(D.F f).1.length
    · rw[show A=at_.toNat by omega]
    · rw[List.drop_eq_nil_of_le (by omega),List.drop_eq_nil_of_le (by omega)]
  have e3:(((D.F f).1.drop at_.toNat).take size.toNat)=((((D.F f).1.take (D.F f).1.length).drop A).take B):= by
    rw[←e2]at hB⊢
    by_cases hc:size≤((D.F f).1.drop at_.toNat).length
    · rw[show B=size.toNat by omega]
    · rw[List.take_of_length_le (by omega),List.take_of_length_le (by omega)]
  rw[e3,List.drop_zero]
theorem read_sp {w:World} {p:Nat} {kp:Value} {D:DS} {F:Th} (hS:Sat w [Z7 p kp D,F]) (f at_ size:Int):
    Calls prog 88 #[ptrV p 0,intV f,intV at_,intV size] w (Ret fun v w'=>v= .tuple #[strV (WC D f at_ size),intV (Wk D f at_ size)]∧w=w'):= by
 have hS0:=hS
 obtain⟨⟨bf,bs,qv⟩,hI,hS⟩:=Jm hS; dsimp only at hS
 obtain⟨g,hg,hS⟩:=Yd (hS.pull 1 rfl); dsimp only[List.eraseIdx]at hS
 refine Qy func88 Qa ntmps88 Qa ?_
 refine Qg (Qb (Qc Qa Qa (Qc Qa Qa (Qh (Qe (Qg (Qg (Qb (Qd Qa Qa (Qd Qa Qa (Q4 FJ Qa (Fk (hS0) f) Qa ?_)))))))))))
 rintro _ _ ⟨rfl,rfl⟩
 refine Qc Qa Qa (Qh (Qe (Qg (Qb (Qd Qa Qa (Xt Qa Qa Qa (Qh (Qe (Qk [3,2,1,0,8,9,10,16] Qa (Qw Qa (fun h2=> ?_) (fun h2=> ?_)))))))))))
 ·refine Qg (Qb (Qd Qa Qa (Qc Qa Qa (Qc Qa Qa (Qh (Qe (Qo (Qm (ZI (.inr Qa) Qa Qa Qa ?_)))))))))
  exact⟨_,rfl, by simp [Wk,WC, *],rfl⟩
 refine Qr (Qe (Qg (Qg (Qb (Qd Qa Qa (Xz Qa Qa Qa (Qd Qa Qa (Q3 20 Qa (fun h3=> ?_) (fun h3=> ?_)))))))))
 ·refine Qf Qa Qa (Q8 h3) Qa (Qf Qa Qa (Q8 h3) Qa (Qx Qa (Q8 h3) Qa Qa (Qh (Qe (Qk [3,2,1,0,8,9,23] Qa (QL Qa (Qg (Qb (Qc Qa Qa (Qc Qa Qa (Qh (Qe (Qo (Qm (ZI (.inr Qa) Qa Qa Qa ?_)))))))))))))))
  exact⟨_,rfl, by simp [Wk,WC, *],rfl⟩
 refine Qj Qa Qa (Qv h3) (Qd Qa Qa (Qj Qa Qa (Qv h3) (Xz Qa Qa Qa (Qz Qa (Qv h3) Qa Qa (Qh (Qe (Qk [3,2,1,0,8,9,23] Qa (Qw Qa (fun h4=> ?_) (fun h4=> ?_)))))))))
 ·refine Qg (Qb (Qc Qa Qa (Qc Qa Qa (Qh (Qe (Qo (Qm (ZI (.inr Qa) Qa Qa Qa ?_))))))))
  exact⟨_,rfl, by simp [Wk,WC, *],rfl⟩
 refine Qr (Qe (Qg (Qb (Qd Qa Qa (Ql Qa Qa (Qi Qa Yc Qa (Qp Qa U4 (hS.cell 1 Qa Qa) Qa (Qd Qa Qa (Hy 0 hS keysInt underlying116 Qa Qa Qa US (hg _) Qa (DH PR Qa Qa Qa (Qc Qa Qa (Qh (Qe (Qk [3,2,8,9,11] Qa (Qg ?_)))))))))))))))
 obtain⟨A,hA⟩: ∃A:Nat,min at_ ((D.F f).1.length:Int)=A:=⟨(min at_ ((D.F f).1.length:Int)).toNat, by omega⟩
 refine Qb (Qd Qa Qa (Qd Qa Qa (Qd Qa Qa (Zs underlying9 Qa Qa (U7 Qa Qa Qa (Hx A _ underlying9 Qa (HP A _ Qa hA) (V4 _) (by omega) (by omega) Qa ?_))))))
 refine Qc Qa Qa (Qh (Qe (Qk [3,8,9,11] Qa (Qg ?_))))
 obtain⟨B,hB⟩: ∃B:Nat,min size ((((D.F f).1.take (D.F f).1.length).drop A).length:Int)=B:=⟨(min size ((((D.F f).1.take (D.F f).1.length).drop A).length:Int)).toNat, by omega⟩
 refine Qb (Qd Qa Qa (Qd Qa Qa (Qd Qa Qa (Zs underlying9 Qa Qa (U7 Qa Qa Qa (Hx _ B underlying9 Qa (V4 _) (HP B _ Qa hB) (by omega) (by omega) Qa ?_))))))
 exact Qc Qa Qa (Qc Qa Qa (Qh (Qe (Qo (ZI (.inr Qa) Qa Qa Qa (⟨_,rfl,read_ok (by assumption) (by omega) (by omega) hA hB,rfl⟩))))))
theorem put3 (s t:Bytes) (a:Nat) (hne:t≠[]) (hc:max s.length (a+t.length)≠a):XK (Zf (BS s (max s.length (a+t.length)))) (0+a*1) (Zf (t.take (max s.length (a+t.length) -a)))=Zf (J8 s a t):= by
  rw[List.take_of_length_le (by omega),R5,Nat.zero_add,Nat.mul_one,put2 s t a hne]
theorem OC {w:World} {F:Th} (hS:Sat w [F]) (s t:Bytes) (a:Nat) (h1:s.length≤16777216) (h2:a+t.length≤33554432):
    Calls prog 110 #[strV s,intV a,strV t] w (Ret fun v w'=>v=strV (J8 s a t)∧Sat w' [F]):= by
 refine Qy func110 Qa ntmps110 Qa ?_
 refine Qg (Qb (Qc Qa Qa (Qh (Qe (Qg (Qg (Qb (Qd Qa Qa (KH Qa Qa Qa (Qh (Qe (Qw Qa (fun h1=> ?_) (fun h1=> ?_)))))))))))))
 ·have hne:t=[]:=h1
  refine Qg (Qb (Qd Qa Qa (Qc Qa Qa (Qh (Qe (Qo (Qm (Q7 (.inr Qa) Qa Qa ?_))))))))
  exact⟨_,rfl, by rw[hne,Kp],hS⟩
 have hne:t≠[]:=h1
 refine Qr (Qe (Qg (Qb (Qd Qa Qa (Zs underlying9 Qa Qa (Qd Qa Qa (Qd Qa Qa (Zs underlying9 Qa Qa (Xq Qa Qa (by omega) (by omega) Qa ?_)))))))))
 refine Lb Qa Qa Qa (Lc hS (max s.length (a+t.length)) Qa Qa (by omega) underlying98 L8 Qa (by omega) (by omega) Qa ?_)
 intro b w1 hS1; rw[S9]at hS1
 refine Qc Qa Qa (Qh (Qe (Qk [2,1,0,6,7] Qa (Qg (Qb (Qd Qa Qa (Qd Qa Qa ?_)))))))
 refine NE 0 hS1 Qa Qa Qa Qa underlying98 sz_5 (by simp [Zf];omega) (put1 s _ (by omega)) Qa ?_
 intro w2 hS2; dsimp only[List.set]at hS2
 refine Qh (Qe (Qg (Qb (Qd Qa Qa (Qd Qa Qa (DG a (max s.length (a+t.length)) underlying98 sz_5 Qa (HP a _ Qa Qa) (V4 _) (by omega) (by omega) Qa ?_))))))
 have hc:max s.length (a+t.length)≠a:= by have :0<t.length:=List.length_pos_iff.2 hne;omega
 rw[if_neg hc]
 refine Qd Qa Qa ?_
 refine NE 0 hS2 Qa Qa Qa Qa underlying98 sz_5 (by simp [Zf,BS];omega) (put3 s t a hne hc) Qa ?_
 intro w3 hS3; dsimp only[List.set]at hS3
 refine Qh (Qe (Qk [6,7] Qa (Qg (Qb (Qd Qa Qa ?_)))))
 refine wl_strB 0 hS3 (J8 s a t) Qa Qa Qa underlying98 underlying5 underlying9 (by rw[List.drop_zero,List.take_of_length_le (by rw[Vc,Kq s t a hne];omega)]) (Kq s t a hne) Qa ?_
 exact Qc Qa Qa (Qh (Qe (Qo (Q7 (.inr Qa) Qa Qa (⟨_,Qa,Qa,hS3.tail⟩)))))
theorem UC (Q:List (Int×Int)):(ZF Q).length=Q.length*2:= by
  induction Q with
  | nil=>rfl
  | cons p Q ih=> simp only[ZF,List.flatMap_cons,List.length_append,List.length_cons,List.length_nil]at ih⊢;omega
theorem Ez (Q:List (Int×Int)) (p:Int×Int):ZF Q++[intV p.1,intV p.2]=ZF (Q++[p]):= by simp [ZF]
theorem B7 {g:Int→Option Value} {F:Int→Bytes×Bytes} (h:Hw g F) (f:Int) (x:Bytes×Bytes):Hw (upd g f (some (V0 x))) (JX F f x):= by
  intro k
  by_cases hk:k=f
  · subst hk; simp [HE,JX]
  · rw[R7 hk,h k]; simp [JX,hk]
theorem TH (f:Int) (k:Nat): ∀(n:Int) (Q:List (Int×Int)),J0 f (k+1) n Q=(let Q':=J0 f k n Q; if(f,n+k)∈Q' then Q' else Q'++[(f,n+k)]):= by
  induction k with
  | zero=> intro n Q; simp [J0]
  | succ k ih=>
    intro n Q
    rw[J0,ih]
    simp only[J0]
    rw[show n+1+(k:Int)=n+((k+1:Nat):Int) by omega]
    rfl
theorem RD (f:Int) (hf:0≤f∧f<16): ∀(k:Nat) (n:Int) (Q:List (Int×Int)),0≤n→n+k≤262145→(∀p∈Q,(0≤p.1∧p.1<16)∧0≤p.2∧p.2≤262144)→Q.Nodup→(∀p∈J0 f k n Q,(0≤p.1∧p.1<16)∧0≤p.2∧p.2≤262144)∧(J0 f k n Q).Nodup
  | 0,n,Q,_,_,h1,h2=>⟨h1,h2⟩
  | k+1,n,Q,h0,hn,h1,h2=> by
    simp only[J0]
    refine RD f hf k (n+1) _ (by omega) (by omega) ?_ ?_
    · intro p hp
      split at hp
      · exact h1 p hp
      · rcases List.mem_append.1 hp with hp | hp
        · exact h1 p hp
        · simp only[List.mem_singleton]at hp; subst hp; exact⟨hf, by simp;omega⟩
    · split
      · exact h2
      · rename_i hn'
        exact List.nodup_append.2 ⟨h2, by simp, by intro a ha b hb; simp only[List.mem_singleton]at hb; subst hb; intro e; subst e; exact hn' ha⟩
theorem KR {Q:List (Int×Int)} (h: ∀p∈Q,(0≤p.1∧p.1<16)∧0≤p.2∧p.2≤262144) (hn:Q.Nodup):Q.length≤4194320:= by
  have hm:(Q.map fun p=>(p.1*262145+p.2).toNat).Nodup:= by
    refine List.pairwise_map.2 (hn.imp_of_mem ?_)
    intro a b ha hb hne e
    apply hne
    have h1:=h a ha; have h2:=h b hb
    have :a.1*262145+a.2=b.1*262145+b.2:= by omega
    have e1:a.1=b.1:= by omega
    have e2:a.2=b.2:= by omega
    exact Prod.ext e1 e2
  have hs: ∀x∈Q.map (fun p=>(p.1*262145+p.2).toNat),x∈List.range 4194320:= by
    intro x hx
    obtain⟨p,hp,rfl⟩:=List.mem_map.1 hx
    have :=h p hp
    simp;omega
  have :=List.Nodup.length_le_of_subset hm hs
  simpa using this
theorem Ia {D:DS} {f:Int} (h:Wf D f=0):0≤f∧f<16:= by
  unfold Wf at h;split at h
  · cases h
  · split at h
    · cases h
    · omega
theorem Cj {w:World} {p bf bs:Nat} {kp qv:Value} {D:DS} {g:Int→Option Value} {F:Th} (hI:DInv D) (hg:Hw g D.F) (h:Sat w [XI Za bf g,QR p (Y0 ⟨bf,bs,qv⟩ kp D),XT qv D.Q.length 2 (ZF D.Q),Hs bs D.Q,F]):Sat w [Z7 p kp D,F]:=
  W8 ⟨bf,bs,qv⟩ hI ((Jg g hg h).reorder [1,0,2,3,4] Qa)
theorem set_val {Q:List (Int×Int)} {gs:Int×Int→Option Value} (hgs: ∀p,gs p= if p∈Q then some (.bool true)else none) (x:Int×Int):(gs x).getD (.bool false)= .bool (decide (x∈Q)):= by
  rw[hgs];by_cases h:x∈Q<;> simp [h]
theorem wfull {w:World} {p bf bs:Nat} {kp qv:Value} {D:DS} {g:Int→Option Value} {F:Th} {f at_:Int} {s:Bytes} (hI:DInv D) (hg:Hw g D.F) (hm:Wf D f=0) (hat:0≤at_) (hx:16777216<at_∨16777216 -at_<s.length) (h:Sat w [XI Za bf g,QR p (Y0 ⟨bf,bs,qv⟩ kp D),XT qv D.Q.length 2 (ZF D.Q),Hs bs D.Q,F]):Ret (fun v w'=>v=intV (WW D f at_ s)∧Sat w' [Z7 p kp (Ji D f at_ s),F]) (.returned (intV 6)) w:= by
  have e:WW D f at_ s=6:= by simp only[WW]; rw[if_neg (by simp [hm]),if_neg (by omega),if_pos hx]
  exact⟨_,rfl, by rw[e], by rw[Ji,if_neg (by rw[e];decide)]; exact Cj hI hg h⟩
theorem wnone {w:World} {p bf bs:Nat} {kp qv:Value} {D:DS} {g:Int→Option Value} {F:Th} {f at_:Int} {s:Bytes} (hI:DInv D) (hg:Hw g D.F) (hm:Wf D f=0) (hat:0≤at_) (hx: ¬(16777216<at_∨16777216 -at_<s.length)) (hs:s=[]) (h:Sat w [XI Za bf g,QR p (Y0 ⟨bf,bs,qv⟩ kp D),XT qv D.Q.length 2 (ZF D.Q),Hs bs D.Q,F]):Ret (fun v w'=>v=intV (WW D f at_ s)∧Sat w' [Z7 p kp (Ji D f at_ s),F]) (.returned (intV 0)) w:= by
  have e:WW D f at_ s=0:= by simp only[WW]; rw[if_neg (by simp [hm]),if_neg (by omega),if_neg hx]
  exact⟨_,rfl, by rw[e], by rw[Ji,if_pos e,Y9,if_pos hs]; exact Cj hI hg h⟩
theorem wstart {w:World} {p bf bs:Nat} {kp qv:Value} {D:DS} {g:Int→Option Value} {F X:Th} {f:Int} {a:Nat} {s:Bytes} (hg:Hw g D.F) (h:Sat w [X,XI Za bf (upd g f (some (V0 (J8 (D.F f).1 a s,(D.F f).2)))),QR p (Y0 ⟨bf,bs,qv⟩ kp D),XT qv D.Q.length 2 (ZF D.Q),Hs bs D.Q,F]):
    Sat w [QR p [.map (some bf),qv,.map (some bs),intV D.lost,.bool D.down,intV D.armed,kp],JM bf (JX D.F f (J8 (D.F f).1 a s,(D.F f).2)),XT qv (J0 f 0 ((a:Int)/ 64) D.Q).length 2 (ZF (J0 f 0 ((a:Int)/ 64) D.Q)),Hs bs (J0 f 0 ((a:Int)/ 64) D.Q),F]:=
  (Jg _ (B7 hg f _) h.tail).reorder [1,0,2,3,4] Qa
theorem SD {w:World} {p bf bs:Nat} {C:List Value} {qv:Value} {Q:List (Int×Int)} {G:Int→Bytes×Bytes} {gs:Int×Int→Option Value} {F X:Th} {f n:Int} {j:Nat} (hgs: ∀p,gs p= if p∈J0 f j n Q then some (.bool true)else none) (hold:(f,n+j)∈J0 f j n Q) (h:Sat w [X,XI Wq bs gs,QR p C,JM bf G,XT qv (J0 f j n Q).length 2 (ZF (J0 f j n Q)),F]):
    Sat w [QR p C,JM bf G,XT qv (J0 f (j+1) n Q).length 2 (ZF (J0 f (j+1) n Q)),Hs bs (J0 f (j+1) n Q),F]:= by
  rw[TH,if_pos hold]
  exact(YR gs hgs h.tail).reorder [1,2,3,0,4] Qa
theorem SE {w:World} {p bf bs:Nat} {C:List Value} {qv:Value} {Q:List (Int×Int)} {G:Int→Bytes×Bytes} {gs:Int×Int→Option Value} {F X Y:Th} {f n:Int} {j:Nat} (hgs: ∀p,gs p= if p∈J0 f j n Q then some (.bool true)else none) (hnew:(f,n+j)∉J0 f j n Q) (h:Sat w [Y,X,XI Wq bs (upd gs (f,n+j) (some (.bool true))),QR p C,JM bf G,XT qv ((J0 f j n Q).length+1) 2 (ZF (J0 f j n Q)++[intV f,intV (n+j)]),F]):
    Sat w [QR p C,JM bf G,XT qv (J0 f (j+1) n Q).length 2 (ZF (J0 f (j+1) n Q)),Hs bs (J0 f (j+1) n Q),F]:= by
  rw[TH,if_neg hnew,←Ez,List.length_append]
  refine(YR (Q:=J0 f j n Q++[(f,n+j)]) (upd gs (f,n+j) (some (.bool true))) ?_ h.tail.tail).reorder [1,2,3,0,4] Qa
  intro x
  by_cases hx:x=(f,n+j)
  · subst hx; simp [HE]
  · rw[R7 hx,hgs]; simp [hx]
theorem wdone {w:World} {p bf bs N j:Nat} {kp qv:Value} {D:DS} {gs:Int×Int→Option Value} {F:Th} {f:Int} {a:Nat} {s:Bytes} (hI:DInv D) (hm:Wf D f=0) (hf:0≤f∧f<16) (hx: ¬(16777216<(a:Int)∨16777216 -(a:Int)<s.length)) (hs:s≠[]) (hput:(J8 (D.F f).1 a s).length≤16777216) (hN:N=(((a:Int)+s.length -1)/ 64 -(a:Int)/ 64+1).toNat) (hj:j≤N) (hend: ¬(a:Int)/ 64+j≤((a:Int)+s.length -1)/ 64)
    (hgs: ∀p,gs p= if p∈J0 f j ((a:Int)/ 64) D.Q then some (.bool true)else none)
    (h:Sat w [XI Wq bs gs,QR p [.map (some bf),qv,.map (some bs),intV D.lost,.bool D.down,intV D.armed,kp],JM bf (JX D.F f (J8 (D.F f).1 a s,(D.F f).2)),XT qv (J0 f j ((a:Int)/ 64) D.Q).length 2 (ZF (J0 f j ((a:Int)/ 64) D.Q)),F]):
    Ret (fun v w'=>v=intV (WW D f a s)∧Sat w' [Z7 p kp (Ji D f a s),F]) (.returned (intV 0)) w:= by
  have hlen:0<s.length:=List.length_pos_iff.2 hs
  have hjN:j=N:= by omega
  subst hjN
  have e:WW D f a s=0:= by simp only[WW]; rw[if_neg (by simp [hm]),if_neg (by omega),if_neg hx]
  have hpb:=RD f hf j ((a:Int)/ 64) D.Q (by omega) (by omega) hI.secs hI.nodup
  have eD:Ji D f a s={D with F:=JX D.F f (J8 (D.F f).1 a s,(D.F f).2),Q:=J0 f j ((a:Int)/ 64) D.Q}:= by
    rw[Ji,if_pos e,Y9,if_neg hs,hN]; simp
  refine⟨_,rfl, by rw[e], ?_⟩
  rw[eD]
  refine W8 ⟨bf,bs,qv⟩ ({hI with now:= fun k=> ?_,last:= fun k=> ?_,nodup:=hpb.2,secs:=hpb.1}) ((YR gs hgs h).reorder [1,2,3,0,4] Qa)
  · simp only[JX];split
    · exact hput
    · exact hI.now k
  · simp only[JX];split
    · exact hI.last f
    · exact hI.last k
theorem AZ {w:World} {p:Nat} {kp:Value} {D:DS} {F:Th} (hS:Sat w [Z7 p kp D,F]) (f at_:Int) (s:Bytes):
    Calls prog 130 #[ptrV p 0,intV f,intV at_,strV s] w (Ret fun v w'=>v=intV (WW D f at_ s)∧Sat w' [Z7 p kp (Ji D f at_ s),F]):= by
 have hS0:=hS
 obtain⟨⟨bf,bs,qv⟩,hI,hS⟩:=Jm hS; dsimp only at hS
 obtain⟨g,hg,hS⟩:=Yd (hS.pull 1 rfl); dsimp only[List.eraseIdx]at hS
 refine Qy func130 Qa ntmps130 Qa ?_
 refine Qg (Qb (Qc Qa Qa (Qh (Qe (Qg (Qg (Qb (Qd Qa Qa (Qd Qa Qa (Q4 FJ Qa (Fk (hS0) f) Qa ?_))))))))))
 rintro _ _ ⟨rfl,rfl⟩
 refine Qc Qa Qa (Qh (Qe (Qg (Qb (Qd Qa Qa (Xt Qa Qa Qa (Qh (Qe (Qk [3,2,1,0,8,9,17] Qa (Qw Qa (fun h2=> ?_) (fun h2=> ?_)))))))))))
 ·have hm:Wf D f≠0:=h2
  refine Qg (Qb (Qd Qa Qa (Qc Qa Qa (Qh (Qe (Qo (Qm (Q7 (.inr Qa) Qa Qa ?_))))))))
  exact⟨_,rfl, by simp [WW,hm], by rw[show Ji D f at_ s=D by simp [Ji,WW,hm]]; exact Cj hI hg hS⟩
 have hm:Wf D f=0:=Decidable.not_not.1 h2
 have hf16:=Ia hm
 refine Qr (Qe (Qg (QD (Qg (Qb (Qd Qa Qa (Xz Qa Qa Qa (Qc Qa Qa (Qh (Qe (Qw Qa (fun h3=> ?_) (fun h3=> ?_))))))))))))
 ·have hat:at_<0:=h3
  refine Qg (Qb (Qc Qa Qa (Qh (Qe (Qo (Q0 (Qm (Q7 (.inr Qa) Qa Qa ?_))))))))
  exact⟨_,rfl, by simp [WW,hm,hat], by rw[show Ji D f at_ s=D by simp [Ji,WW,hm,hat]]; exact Cj hI hg hS⟩
 have hat:0≤at_:= by omega
 refine Qg (Qb (Qd Qa Qa (We Qa Qa Qa (Qd Qa Qa (Q3 25 Qa (fun h4=> ?_) (fun h4=> ?_))))))
 ·exact Qf Qa Qa (Q8 h4) Qa (Qf Qa Qa (Q8 h4) Qa (Qf Qa Qa (Q8 h4) Qa (Qf Qa Qa (Q8 h4) Qa (Qf Qa Qa (Q8 h4) Qa (Qx Qa (Q8 h4) Qa Qa (Qc Qa Qa (Qh (Qe (Qk [3,2,1,0,8,22] Qa (QL Qa (Qg (Qb (Qc Qa Qa (Qh (Qe (Qo (Q0 (Qm (Q7 (.inr Qa) Qa Qa (wfull hI hg hm hat (by omega) hS))))))))))))))))))))
 refine Qj Qa Qa (Qv h4) (Qd Qa Qa (Qj Qa Qa (Qv h4) (Zs underlying9 Qa Qa (Qj Qa Qa (Qv h4) (Qd Qa Qa (Qj Qa Qa (Qv h4) (JN Qa Qa (by omega) (by omega) Qa ?_)))))))
 refine Qj Qa Qa (Qv h4) (We Qa Qa Qa (Qz Qa (Qv h4) Qa Qa (Qc Qa Qa (Qh (Qe (Qk [3,2,1,0,8,22] Qa (Qw Qa (fun h5=> ?_) (fun h5=> ?_))))))))
 ·exact Qg (Qb (Qc Qa Qa (Qh (Qe (Qo (Q0 (Qm (Q7 (.inr Qa) Qa Qa (wfull hI hg hm hat (by omega) hS)))))))))
 refine Qg (Qb (Qd Qa Qa (KH Qa Qa Qa (Qc Qa Qa (Qh (Qe (Qw Qa (fun h6=> ?_) (fun h6=> ?_))))))))
 ·have hs0:s=[]:=h6
  exact Qg (Qb (Qc Qa Qa (Qh (Qe (Qo (Q0 (Qm (Q7 (.inr Qa) Qa Qa (wnone hI hg hm hat (by omega) hs0 hS)))))))))
 have hs0:s≠[]:=h6
 have hlen:0<s.length:=List.length_pos_iff.2 hs0
 obtain⟨a,rfl⟩:=Int.eq_ofNat_of_zero_le hat
 have hnow:=hI.now f
 refine Qr (Qq (Qe (Qg (Qb (Qd Qa Qa (Ql Qa Qa (Qi Qa Yc Qa (Qp Qa U4 (hS.cell 1 Qa Qa) Qa (Qd Qa Qa (Hy 0 hS keysInt underlying116 Qa Qa Qa US (hg _) Qa (Xk hS US Qa Qa ?_)))))))))))
 intro b7 w7 hS7
 (refine QX hS7 Qa Qa DU Qa (by rfl) (i:=0) Qa (by decide) ?_)
 intro w8 hS9; dsimp only[List.set]at hS9
 refine Qh (Qe (Qk [3,2,1,0,8,10] Qa (Qg (Qb (Qi Qa Kz Qa (Qp Qa Zw (hS9.cell 0 Qa Qa) Qa (Qd Qa Qa (Qd Qa Qa (Q4 LT Qa (OC (hS9.sp [] Qa) _ s a hnow (by omega)) Qa ?_)))))))))
 rintro _ w10 ⟨rfl,hS10⟩
 replace hS10:=hS10.jn Qa Qa
 refine Qi Qa Kz Qa ?_
 (refine QC hS10 Qa Qa R8 (by rfl) (i:=0) Qa (Xe Qa) ?_)
 intro w11 hS12; dsimp only[List.set]at hS12
 refine Qh ?_
 have hput:=Lk (m:=16777216) hnow (show a+s.length≤16777216 by omega)
 refine Qe (Qk [3,2,1,0,8,10] Qa (Qg ?_))
 have hS13:=hS12.drew
 refine QT [0,1,2,3,4,5,6] [6] Jk (by kernel_rfl) ?_
 refine QM Qa Qa Qa (Xw Qa Qa Qa (QQ Qa Qa Qa Yc (QH Qa Qa Qa (Qn Qa U4 (hS13.cell 2 Qa Qa)) (QM Qa Qa Qa (QH Qa Qa Qa (Jh Qa qaz DU (hS13.blk 0 Qa) (Xe Qa) Qa) (Xb Qa Qa Qa Qa Qa Qa ?_))))))
 first | refine Zj 1 hS13 keysInt underlying116 Qa Qa Qa Qa ?_
 intro w14 hS14; dsimp only[List.set]at hS14
 refine ZG (XC (by kernel_rfl)) ?_
 refine VC.nil (Qe (Qk [3,2,1,0,8] Qa (Qg (Qg (Qb (Qd Qa Qa (SG Qa Qa (by omega) (by omega) (by omega) Qa ?_)))))))
 refine Qc Qa Qa (Qh (Qe (QD ?_)))
 obtain⟨N,hN⟩: ∃N:Nat,N=(((a:Int)+s.length -1)/ 64 -(a:Int)/ 64+1).toNat:=⟨_,rfl⟩
 refine XD (fun K0 E0 W0=> ∃(j:Nat) (qv:Value),K0=N -j∧E0=[(0,ptrV p 0),(1,intV f),(2,intV (a:Int)),(3,strV s),(11,intV ((a:Int)/ 64+(j:Int)))]∧Sat W0 [QR p [.map (some bf),qv,.map (some bs),intV D.lost,.bool D.down,intV D.armed,kp],JM bf (JX D.F f (J8 (D.F f).1 a s,(D.F f).2)),XT qv (J0 f j ((a:Int)/ 64) D.Q).length 2 (ZF (J0 f j ((a:Int)/ 64) D.Q)),Hs bs (J0 f j ((a:Int)/ 64) D.Q),F]∧(j≤N)) (L0:=[(0,_),(1,_),(2,_),(3,_),(11,_)]) (N) (SC Qa Qa Qa Qa Qa) ⟨0,qv, by omega, by simp,wstart hg hS14, by omega⟩ ?_
 rintro _ _ w15 ⟨j,qv,rfl,rfl,hS15,hj⟩
 obtain⟨gs,hgs,hS15⟩:=GY (hS15.pull 3 rfl); dsimp only[List.eraseIdx]at hS15
 have hpb:=RD f hf16 j ((a:Int)/ 64) D.Q (by omega) (by omega) hI.secs hI.nodup
 have hcnt:=KR hpb.1 hpb.2
 refine Qg (Qg (Qb (Qd Qa Qa (Qd Qa Qa (Qd Qa Qa (Zs underlying9 Qa Qa (Xq Qa Qa (by omega) (by omega) Qa ?_)))))))
 refine JN Qa Qa (by omega) (by omega) Qa ?_
 refine SG Qa Qa (by omega) (by omega) (by omega) Qa ?_
 refine W7 Qa Qa Qa (Qh (Qe (Qk [11,3,2,1,0,62] Qa (Qw Qa (fun h16=> ?_) (fun h16=> ?_)))))
 ·refine Qr (Qe (Qg (QD (Qg (Qb (Qd Qa Qa (Qd Qa Qa (Zu Qa Fb asz_126 GO Qa Qa (Xk hS15 GO Qa Qa ?_)))))))))
  intro b17 w17 hS17
  (refine QX hS17 Qa Qa Js Qa (by rfl) (i:=0) Qa (by decide) ?_)
  intro w18 hS19; dsimp only[List.set]at hS19
  refine Qh (Qe (Qg ?_))
  have hS20:=hS19.drew
  refine QT [0,1,2,3,4,5,6] [] Jk (by kernel_rfl) ?_
  refine QM Qa Qa Qa (Xw Qa Qa Qa (QQ Qa Qa Qa Vz (QH Qa Qa Qa (Qn Qa KF (hS20.cell 2 Qa Qa)) (QH Qa Qa Qa (Jh Qa H7 Js (hS20.blk 0 Qa) (Xe Qa) Qa) (QH Qa Qa Qa (JK (k:=(f,(a:Int)/ 64+(j:Int))) 1 hS20 keysSec underlying118 Qa Qa Qa zr_4 (set_val hgs _)) (QG Qa Qa Qa (fun _=>(K5 Qa)) ?_))))))
  refine VC.nil (Qe (Qk [11,3,2,1,0,12,74] Qa (Xd Qa (fun h21=> ?_) (fun h21=> ?_))))
  ·have hnew:(f,(a:Int)/ 64+(j:Int))∉J0 f j ((a:Int)/ 64) D.Q:= by simpa using h21
   have hS22:=hS20.drew
   refine QT [0,1,2,3,4,5,6,7,8,9,10,11,12,13,14,15,16,17,18] [11,12,15,16,18] Jk (by kernel_rfl) ?_
   refine QM Qa Qa Qa (QM Qa Qa Qa (Xw Qa Qa Qa (QQ Qa Qa Qa Vz (QH Qa Qa Qa (Qn Qa KF (hS22.cell 2 Qa Qa)) (QH Qa Qa Qa (Jh Qa H7 Js (hS22.blk 0 Qa) (Xe Qa) Qa) (QM Qa Qa Qa (Xw Qa Qa Qa (QQ Qa Qa Qa HK (QH Qa Qa Qa (Qn Qa B6 (hS22.cell 2 Qa Qa)) (QH Qa Qa Qa (Jh Qa H7 Js (hS22.blk 0 Qa) (Xe Qa) Qa) (Xb Qa Qa Qa Qa Qa Qa ?_)))))))))))
   refine UU hS22 Qa underlying117 L7 Qa Qa Qa Qa ?_
   intro b23 w23 hS23
   refine Xn (.skip (by kernel_rfl) (.cons (.inl ⟨rfl,(Qn Qa B6 (hS23.cell 3 Qa Qa))⟩) (.cons (.inl ⟨rfl,(Jh Qa H7 Js (hS23.blk 1 Qa) (Xe Qa) Qa)⟩) (.cons (.inl ⟨rfl,(Qn Qa KF (hS23.cell 3 Qa Qa))⟩) .nil)))) ?_
   refine Xb Qa Qa Qa Qa Qa Qa ?_
   refine GS 5 hS23 Qa Qa Qa underlying117 underlying117 (by intro k hk; cases hk) L9 Qa (by decide) (TQ hS23 0 Qa) (K4 hS23 0 Qa) (by rfl) (by rfl) (by omega) (by omega) Qa ?_
   intro v24 w24 hS24; dsimp only[List.set]at hS24
   have h1v24:v24.oneCell'=true:= by exact hS24.own_one 5 Qa
   refine Xn (.skip (by kernel_rfl) (.skip (by kernel_rfl) (.cons (.inl ⟨rfl,(Jh Qa H7 Js (hS24.blk 1 Qa) (Xe Qa) Qa)⟩) (.cons (.inl ⟨rfl,(Qn Qa KF (hS24.cell 3 Qa Qa))⟩) .nil)))) ?_
   refine Xw Qa Qa Qa (QQ Qa Qa Qa HK (Xb Qa Qa Qa Qa Qa Qa ?_))
   (refine QC hS24 Qa Qa Cw (by assumption) (i:=3) Qa (Xe Qa) ?_)
   intro w25 hS26; dsimp only[List.set]at hS26
   refine ZG (.skip (by kernel_rfl) (.skip (by kernel_rfl) (.cons (.inl ⟨rfl,(Jh Qa H7 Js (hS26.blk 1 Qa) (Xe Qa) Qa)⟩) (XC (by kernel_rfl))))) ?_
   refine Xb Qa Qa Qa Qa Qa Qa ?_
   refine NC (k:=(f,(a:Int)/ 64+(j:Int))) 2 hS26 keysSec underlying118 Qa Qa Qa (by rw[hgs,if_neg hnew]) zr_4 Qa ?_
   intro c27 w27 hS27; dsimp only[List.set]at hS27
   refine Xn (XC (by kernel_rfl)) ?_
   refine Ha Qa Qa Qa Qa (Xb Qa Qa Qa Qa Qa Qa ?_)
   refine Tb 2 hS27 keysSec Qa Qa Qa Qa ?_
   intro w28 hS28; dsimp only[List.set]at hS28
   refine ZG (XC (by kernel_rfl)) ?_
   refine VC.nil (Qq (Qe (Qk [11,3,2,1,0] Qa (Qb (Qd Qa Qa (Xq Qa Qa (by omega) (by omega) Qa ?_))))))
   refine Qc Qa Qa (Qh ?_)
   exact QY (L1:=[(0,ptrV p 0),(1,intV f),(2,intV (a:Int)),(3,strV s),(11,intV ((a:Int)/ 64+((j+1:Nat):Int)))]) (SC Qa Qa Qa Qa Qa) (k1:=N -(j+1)) (by omega) ⟨j+1,_, by omega,rfl,SE hgs hnew hS28, by omega⟩
  have hold:(f,(a:Int)/ 64+(j:Int))∈J0 f j ((a:Int)/ 64) D.Q:= by simpa using h21
  refine Qr (Qq (Qe (Qb (Qd Qa Qa (Xq Qa Qa (by omega) (by omega) Qa ?_)))))
  refine Qc Qa Qa (Qh ?_)
  exact QY (L1:=[(0,ptrV p 0),(1,intV f),(2,intV (a:Int)),(3,strV s),(11,intV ((a:Int)/ 64+((j+1:Nat):Int)))]) (SC Qa Qa Qa Qa Qa) (k1:=N -(j+1)) (by omega) ⟨j+1,_, by omega,rfl,SD hgs hold hS20, by omega⟩
 exact Xu (Q1 (Q1 (QJ (Qe (Qg (Qb (Qc Qa Qa (Qh (Qe (Qo (Q7 (.inr Qa) Qa Qa (wdone hI hm hf16 (by omega) hs0 hput hN hj (by assumption) hgs hS15))))))))))))
def Bv (c:Nat) (f:Int) (w:World):Prop:=w.cell? ⟨c,0,none⟩=some (intV f)
theorem SZ {Q:List (Int×Int)} {j:Nat} {p:Int×Int} (h:Q[j]? =some p):((ZF Q).drop (j*2)).take 2=[intV p.1,intV p.2]:= by
  induction Q generalizing j with
  | nil=> simp at h
  | cons q Q ih=>
    cases j with
    | zero=> simp at h; subst h; simp [ZF]
    | succ j=>
      simp at h
      have :=ih h
      rw[show(j+1)*2=2+j*2 by omega,←List.drop_drop]
      simpa [ZF]using this
theorem LQ {w:World} {F:Th} (hS:Sat w [F]) {c:Nat} {f:Int} (hc:Ent F (Bv c f)) (x y:Int):
    Calls prog 114 #[.agg #[intV x,intV y],ptrV c 0] w (Ret fun v w'=>v= .bool (decide (x=f))∧Sat w' [F]):= by
 refine Qy func114 Qa ntmps114 Qa ?_
 refine Qg (Qb (XZ hS Qa Qa Qa ?_))
 intro b1 w1 hS1
 exact Qc Qa Qa (Qh (Qe (Qg (Qb (Qi Qa Gz Qa (Qp Qa QK (hS1.cell 0 Qa Qa) Qa (Qp Qa QK (hc.sat hS1 1 Qa) Qa (QO Qa Qa Qa (Qc Qa Qa (Qh (Qe (Qo (Q7 (.inr Qa) Qa Qa (⟨_,Qa,Qa,hS1.tail⟩))))))))))))))
theorem clo2_sp {w:World} {F:Th} (hS:Sat w [F]) {c:Nat} {f:Int} (hc:Ent F (Bv c f)) (x y:Int) (u:Value):
    Calls prog 116 #[.agg #[intV x,intV y],u,ptrV c 0] w (Ret fun v w'=>v= .bool (decide (x=f))∧Sat w' [F]):= by
 refine Qy func116 Qa ntmps116 Qa ?_
 refine Qg (Qb (XZ hS Qa Qa Qa ?_))
 intro b1 w1 hS1
 exact Qc Qa Qa (Qh (Qe (Qg (Qb (Qi Qa Gz Qa (Qp Qa QK (hS1.cell 0 Qa Qa) Qa (Qp Qa QK (hc.sat hS1 1 Qa) Qa (QO Qa Qa Qa (Qc Qa Qa (Qh (Qe (Qo (Q7 (.inr Qa) Qa Qa (⟨_,Qa,Qa,hS1.tail⟩))))))))))))))
theorem Im {w:World} {F:Th} {qv:Value} {Q:List (Int×Int)} (hS:Sat w [XT qv Q.length 2 (ZF Q),F]) {c:Nat} {f:Int} (hc:Ent F (Bv c f)) (hl:Q.length≤4194320):
    Calls prog 129 #[qv,.func (.func 114) #[] #[ptrV c 0]] w (Ret fun v w'=> ∃r:Int,v=intV r∧((r= -1∧ ∀p∈Q,p.1≠f)∨ ∃(k:Nat) (p:Int×Int),r=k∧Q[k]? =some p∧p.1=f∧ ∀j q,j<k→Q[j]? =some q→q.1≠f)∧Sat w' [XT qv Q.length 2 (ZF Q),F]):= by
 refine Qy func129 Qa ntmps129 Qa ?_
 refine Qg (Qb (Qc Qa Qa (Qh (Qe (Qg (Qg (Qb (Qd Qa Qa ?_))))))))
 first | refine Xj underlying117 Qa Qa ?_ | refine X3 0 hS underlying117 Qa Qa Qa ?_
 refine Qd Qa Qa (Qh (Qe (QD ?_)))
 refine XD (fun K0 E0 W0=> ∃(k:Nat),K0=Q.length -k∧E0=[(0,qv),(1,.func (.func 114) #[] #[ptrV c 0]),(7,intV (Q.length:Int)),(8,intV (k:Int))]∧Sat W0 [XT qv Q.length 2 (ZF Q),F]∧(k≤Q.length)∧(∀j p,j<k→Q[j]? =some p→p.1≠f)) (L0:=[(0,_),(1,_),(7,_),(8,_)]) (Q.length) (DF Qa Qa Qa Qa) ⟨0, by omega,rfl,hS, by omega, by omega⟩ ?_
 rintro _ _ w1 ⟨k,rfl,rfl,hS1,hk,hno⟩
 refine Qg (Qb (Xz Qa Qa Qa (Qh (Qe (Qg (Qw Qa (fun h2=> ?_) (fun h2=> ?_)))))))
 ·obtain⟨p,hp⟩: ∃p,Q[k]? =some p:=⟨_,WU (by omega)⟩
  refine Qr (Qe (Qg (QD (Qg (Qb (Qd Qa Qa (Qc Qa Qa (Qh (Qe (Qg (Qb (Qd Qa Qa (Qd Qa Qa (Qd Qa Qa (Ve 0 k hS1 Qa Qa Qa Qa (by omega) Ng Qa ?_)))))))))))))))
  intro b cap hv
  refine RU 0 hS1 Qa hv Qa H7 Js (SZ hp) Qa Qa (Kf Qa LS Qa (LQ (hS1.sp [] Qa) (hc.starL 1 Qa) _ _) Qa ?_)
  rintro e w3 ⟨_,rfl,rfl,hS3⟩; refine⟨_,rfl, ?_⟩
  replace hS3:=hS3.jn Qa Qa
  refine Qh (Qe (Qk [8,7,1,0,5,16] Qa (Xd Qa (fun h4=> ?_) (fun h4=> ?_))))
  ·have heq:p.1=f:= by simpa using h4
   exact Qg (Qb (Qd Qa Qa (Qc Qa Qa (Qh (Qe (Qo (Q0 (Qm (Qm (Q0 (Qm (Q7 (.inr Qa) Qa Qa (⟨_,Qa,_,Qa,.inr ⟨k,p,Qa,hp,heq,hno⟩,hS3⟩)))))))))))))
  have hne:p.1≠f:= by simpa using h4
  refine Qr (Qq (Qe (Qb (Xq Qa Qa (by omega) (by omega) Qa ?_))))
  refine Qd Qa Qa (Qh ?_)
  exact QY (L1:=[(0,qv),(1,.func (.func 114) #[] #[ptrV c 0]),(7,intV (Q.length:Int)),(8,intV ((k+1:Nat):Int))]) (DF Qa Qa Qa Qa) (k1:=Q.length -(k+1)) (by omega) ⟨k+1, by omega,rfl,hS3, by omega, fun j q hj hq=> by by_cases e:j=k;(subst e; rw[hp]at hq; cases hq; exact hne); exact hno j q (by omega) hq⟩
 refine Xu (Q1 (Q1 (QJ (Qe (Qg (Qb (Qc Qa Qa (Qh (Qe (Qo (Q7 (.inr Qa) Qa Qa ?_)))))))))))
 exact⟨_,rfl,_,rfl,.inl ⟨rfl, fun p hp=> by obtain⟨j,hj⟩:=List.mem_iff_getElem?.1 hp; exact hno j p (by have :=(Jo hj).1;omega) hj⟩,hS1⟩
