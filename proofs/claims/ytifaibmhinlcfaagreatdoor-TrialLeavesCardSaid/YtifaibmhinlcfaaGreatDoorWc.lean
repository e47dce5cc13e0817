/- world: SetByte, Drop, Copy -/
import Derived.Test.YtifaibmhinlcfaaGreatDoorLv33
import Derived.Test.YtifaibmhinlcfaaGreatDoorLv29
import Derived.Test.YtifaibmhinlcfaaGreatDoorLv1
import Derived.Test.YtifaibmhinlcfaaGreatDoorTr8
import Derived.Test.YtifaibmhinlcfaaGreatDoorCe9
import Derived.Test.YtifaibmhinlcfaaGreatDoorLvm
import Derived.Test.YtifaibmhinlcfaaGreatDoorCf5
set_option linter.unusedSectionVars false
set_option linter.unusedVariables false
set_option maxRecDepth 100000
namespace Go.Proofs.YtifaibmhinlcfaaGreatDoor
open Go.RowKit M Proofs.Tryz
variable {As:List Th} {LL:WL} {Lo:List (Bs×Nat)} {W:WS} {b p:Nat} {fi j q:Int} {frm m n s to:Bs} {o:Int→Option Bs} {w:World}
def Zs (s:Bs):List Value:=s.map XV
theorem Dx (s:Bs):(Zs s).length=s.length:=by simp [Zs]
theorem Dw (s:Bs):Uk (Zs s)=true:=BZ (by intro v a;obtain⟨c,_,rfl⟩:=List.mem_map.1 a;rfl)
theorem K1 {t:Bs} (h:s.length=t.length):X6 (Zs s) 0 (Zs t)=Zs t:=by
  simp [X6,Zs,h]
theorem Dv (s:Bs) (j:Nat) (c:UInt8):(Zs s).set j (XV c)=Zs (s.set j c):=by simp [Zs,List.map_set]
def Wb (W:WS) (n:Bs) (i:Int) (c:UInt8):WS:= if 0<=i/\i<16384 then B8 W n (i/ 64) ((Zy W n (i/ 64)).set (i%64).toNat c)else W
theorem Lp {F:Th} (b:Sat w [Xv p W,F]) (nm:Bs) (i:Int) (c:UInt8) (B:nm.length<=281474976710656):
    Calls prog 69 #[ptrV p 0,strV nm,intV i,XV c] w (Ret λv w'=>v= .tuple #[]/\Sat w' [Xv p (Wb W nm i c),F]):=by
 refine Qn func69 U ntmps69 U ?_;refine Qe<|Qe<|Qa<|Qb U U<|Qw AQ U (Sh (b.sp [] U) i) U ?_;rintro _ J ⟨rfl,j⟩;replace j:=j.jn U U;refine QX U U<|Qf<|Qc<|QR U (λq=> ?_) (λq=> ?_)
 ·have l: ¬(0<=i/\i<16384):=by have g:=q;simp at g;omega
  refine Qu<|Qq<|Zb (.inr U) U ?_;exact⟨_,rfl,rfl,by rw[Wb,if_neg l];exact j⟩
 have l:0<=i/\i<16384:=by simpa using q
 refine Qt<|Qc<|Qe ?_;have b:=j;obtain⟨LL,a,b⟩:=ZJ b;obtain⟨Lo,r,b⟩:=Ua (b.pull 2 rfl);dsimp only[List.eraseIdx]at b;refine Qa<|Qb U U<|Qj U U<|Qg U Ux U<|Qo U Bm (b.cell 2 U U) U<|Qb U U ?_;rcases g:Yk Lo nm with _ | m
 ·have s:=UH r g;refine Xf (k:=nm) 0 b keysStr underlying62 U U U VO (u:= .map none) (by simp [Z2,g]) U ?_;refine Qb U U<|R7 U U (by omega) (by omega) (by omega) U ?_;refine Vf (k:=(i/ 64)) keysInt underlying188 Yq U U U ?_;rw[<-MS s (i/ 64)];refine Xc b Yq (cs:=Zs Wz) U U ?_;intro bs K C;refine QW (vs:=(Zs (Zy W nm (i/ 64))).toArray) C U U Ka (by have :=a.len nm (i/ 64);simp [Zs,Zy,this]) (Dw _) (i:=0) U (by decide) ?_;intro L t;dsimp only[List.set]at t;rw[show X6 (Zs Wz) 0 (Zs (Zy W nm (i/ 64))).toArray.toList=Zs (Zy W nm (i/ 64)) from K1 (a.len nm (i/ 64)).symm]at t;refine Qf<|Qc<|Qh [3,2,1,0,8] U<|Qe<|Qa<|Qb U U<|Vd U U (by omega) (by omega) U ?_;refine Qb U U<|U2 (i%64).toNat underlying187 U U (by omega) (by omega) VH U ?_;rw[show 0+(i%64).toNat*1=(i%64).toNat by omega];refine QK (v:=XV c) (o:=(i%64).toNat) t U U VH U (i:=0) U (by have :=a.len nm (i/ 64);rw[Dx];simp only[Zy,this];omega) ?_;intro M n;dsimp only[List.set]at n;rw[Dv]at n;refine Qf<|Qc<|Qa<|Qb U U<|Qb U U<|Qb U U<|R7 U U (by omega) (by omega) (by omega) U ?_;refine XX (cs:=Zs ((Zy W nm (i/ 64)).set (i%64).toNat c)) U Da Ka (n.blk 0 U) (by have :=a.len nm (i/ 64);simp [Zs,Zy,this]) (vs:=Zs ((Zy W nm (i/ 64)).set (i%64).toNat c)) (by rw[List.drop_zero];exact List.take_of_length_le (by have :=a.len nm (i/ 64);simp [Zs,Zy,this])) U ?_;have D:=YZ a r (n.pick [1,2,3,4,5,6] U);refine Qw Mk U (NP (D.sp [0] U) nm (i/ 64) ((Zy W nm (i/ 64)).set (i%64).toNat c) B (by simp [Zy,a.len]) (by omega)) U ?_;rintro _ N ⟨rfl,x⟩;replace x:=x.jn U U;refine Qf<|Zb (.inl U) U ?_;exact⟨_,rfl,rfl,by rw[Wb,if_pos l];exact x⟩
 obtain⟨im,h⟩:=UX g;refine Xf (k:=nm) 0 b keysStr underlying62 U U U VO (u:= .map (some m)) (by simp [Z2,g]) U ?_;have y:=Ri (i:=im) (A:=Yc W.objs (nm,m)) (b.pull 1 U) (by simp [h]);dsimp only[List.eraseIdx,Yc]at y;refine Qb U U<|R7 U U (by omega) (by omega) (by omega) U ?_;refine Xf (k:=(i/ 64)) 0 y keysInt underlying188 U U U Yq (u:=Jl (Zy W nm (i/ 64))) (RP _ _) U<|Xc y Yq (cs:=Zs Wz) U U ?_;intro bs O E;refine QW (vs:=(Zs (Zy W nm (i/ 64))).toArray) E U U Ka (by have :=a.len nm (i/ 64);simp [Zs,Zy,this]) (Dw _) (i:=0) U (by decide) ?_;intro G e;dsimp only[List.set]at e;rw[show X6 (Zs Wz) 0 (Zs (Zy W nm (i/ 64))).toArray.toList=Zs (Zy W nm (i/ 64)) from K1 (a.len nm (i/ 64)).symm]at e;refine Qf<|Qc<|Qh [3,2,1,0,8] U<|Qe<|Qa<|Qb U U<|Vd U U (by omega) (by omega) U ?_;refine Qb U U<|U2 (i%64).toNat underlying187 U U (by omega) (by omega) VH U ?_;rw[show 0+(i%64).toNat*1=(i%64).toNat by omega];refine QK (v:=XV c) (o:=(i%64).toNat) e U U VH U (i:=0) U (by have :=a.len nm (i/ 64);rw[Dx];simp only[Zy,this];omega) ?_;intro H d;dsimp only[List.set]at d;rw[Dv]at d;refine Qf<|Qc<|Qa<|Qb U U<|Qb U U<|Qb U U<|R7 U U (by omega) (by omega) (by omega) U ?_;refine XX (cs:=Zs ((Zy W nm (i/ 64)).set (i%64).toNat c)) U Da Ka (d.blk 0 U) (by have :=a.len nm (i/ 64);simp [Zs,Zy,this]) (vs:=Zs ((Zy W nm (i/ 64)).set (i%64).toNat c)) (by rw[List.drop_zero];exact List.take_of_length_le (by have :=a.len nm (i/ 64);simp [Zs,Zy,this])) U ?_;have z:=VR a r h (d.pick [1,2,3,4,5,6,7] U);refine Qw Mk U (NP (z.sp [0] U) nm (i/ 64) ((Zy W nm (i/ 64)).set (i%64).toNat c) B (by simp [Zy,a.len]) (by omega)) U ?_;rintro _ I ⟨rfl,f⟩;replace f:=f.jn U U;refine Qf<|Zb (.inl U) U ?_;exact⟨_,rfl,rfl,by rw[Wb,if_pos l];exact f⟩
def UR (W:WS) (n:Bs):WS:={W with objs:= λm q=> if m=n then none else W.objs m q}
theorem LH (h: ∀q,W.objs n q=none):UR W n=W:=by
  have :(λm q=> if m=n then none else W.objs m q)=W.objs:=by
    funext m q;by_cases a:m=n
    · subst a;simp [h]
    · simp [a]
  unfold UR;rw[this]
theorem PagesOk.drop (h:PagesOk W.objs) (n:Bs):PagesOk (UR W n).objs:=⟨λm q s a=>by
  simp only[UR]at a;split at a
  · cases a
  · exact h.ok m q s a⟩
theorem IE {F:Th} (d:PagesOk W.objs) (b:ObjL Lo W.objs) (h:Sat w [Q4 Xo LL.bo (upd (Z2 Lo) n none),starL (Lo.map (Yc W.objs)),Q6 p (JW LL W.time),Q4 Xo LL.bc (XD W.cells),Q4 Xo LL.bl (XD W.logs),F]):Sat w [Xv p (UR W n),F]:=by
  rcases c:Yk Lo n with _ | m
  · rw[Dm c]at h;rw[LH (UH b c)];exact YZ d b h
  · obtain⟨im,a⟩:=UX c;have e:=Ri (i:=im) (A:=Yc W.objs (n,m)) (h.pull 1 U) (by simp [a]);dsimp only[List.eraseIdx,Yc]at e;exact Cx (d.drop n) b a (λq=>by simp) (λk f=>by funext q;simp [f]) e.tail
theorem drop_sp {F:Th} (a:Sat w [Xv p W,F]) (nm:Bs):
    Calls prog 72 #[ptrV p 0,strV nm] w (Ret λv w'=>v= .tuple #[]/\Sat w' [Xv p (UR W nm),F]):=by
 obtain⟨LL,c,a⟩:=ZJ a;obtain⟨Lo,d,a⟩:=Ua (a.pull 2 rfl);dsimp only[List.eraseIdx]at a;refine Qn func72 U ntmps72 U ?_;refine Qa<|Qb U U<|Qj U U<|Qg U Ux U<|Qo U Bm (a.cell 2 U U) U<|Qb U U<|Wf (k:=nm) 0 a keysStr underlying62 U U U U ?_;intro e b;dsimp only[List.set]at b;exact Qf (Zb (.inl U) U (⟨_,U,U,IE c d b⟩))
theorem mc1: (Tryz.f158.name == "runtime.NumGoroutine") = false := by kernel_rfl
theorem mc2:Tryz.f158.body.isNone=true:=by kernel_rfl
theorem mc3:Extern.findNext Tryz.f158=none:=by kernel_rfl
theorem mc4:Extern.find Tryz.f158=some Extern.MapsClone.clone:=by kernel_rfl
theorem IR {F:Th} {g:Int->Option Value} (a:Sat w [Q4 QY b g,F]):
    Calls prog 119 #[.map (some b)] w (Ret λv w'=> ∃b',v= .map (some b')/\Sat w' [Q4 QY b' g,Q4 QY b g,F]):=by
 refine Qn func119 U ntmps119 U ?_;refine Qe<|Qa<|Qd U U<|Qf<|Qc<|Qe<|Qe<|Qa<|Qb U U<|Gn underlying188 U U U<|Qf<|Qc<|QM U<|Qt<|Qc<|Qe<|Qa<|Qb U U<|NC EF U U<|NB 0 a func158 mc1 mc2 mc3 mc4 U U U ?_;intro d e c;exact Cd EF U U (Qd U U (Qf (Qc (Qu (QJ (.inr U) U U (⟨_,U,_,U,c⟩))))))
theorem IS {F:Th} (a:Sat w [F]):
    Calls prog 119 #[.map none] w (Ret λv w'=>v= .map none/\Sat w' [F]):=by
 refine Qn func119 U ntmps119 U ?_;exact Qe (Qa (Qd U U (Qf (Qc (Qe (Qe (Qa (Qb U U (VB underlying188 U U U (Qf (Qc (Xm U (Qe (Qa (Qd U U (Qf (Qc (Qu (Qq (QJ (.inr U) U U (⟨_,U,U,a⟩)))))))))))))))))))))
def qcp (v:Value) (o:Int->Option Bs):Th:=Cp λm:Option Nat=>starL [WH (v= .map m/\(m=none-> ∀q,o q=none)),match m with | none=>IA | some b=>Q4 QY b (WJ o)]
theorem Ni (h:Sat w (Q4 QY b (WJ o)::As)):Sat w (qcp (.map (some b)) o::As):=
  Sat.ex_intro (some b) (Sat.fold (As:=[WH _,Q4 QY b (WJ o)]) (Sat.pure_intro ⟨rfl,by simp⟩ h))
theorem Nj (a: ∀q,o q=none) (h:Sat w As):Sat w (qcp (.map none) o::As):=
  Sat.ex_intro none (Sat.fold (As:=[WH _,IA]) (Sat.pure_intro ⟨rfl,λ_=>a⟩ (h.new (Only.refl [] w) (A:=IA) (F':= λ_=>False) U (λ_ q=>q.elim))))
theorem Ik {v:Value} (h:Sat w (qcp v o::As)):(v= .map none/\(∀q,o q=none)/\Sat w As)\/ ∃b,v= .map (some b)/\Sat w (Q4 QY b (WJ o)::As):=by
  obtain⟨m,h⟩:=h.ex;obtain⟨⟨a,d⟩,c⟩:=h.flat.pure_elim;cases m with
  | none=> exact .inl ⟨a,d rfl,c.tail⟩
  | some b=> exact .inr ⟨b,a,c⟩
def Ky (W:WS) (frm:Bs) (first:Int) (to:Bs) (at_ hi:Int):WS:={W with objs:= λm q=> if m=to/\max at_ 0<=q/\q<hi then W.objs frm (first+q -at_)else W.objs m q}
def Kz (W:WS) (frm:Bs) (first n:Int) (to:Bs) (at_:Int):WS:=Ky W frm first to at_ (min (at_+n) 256)
theorem Kx {first at_ hi:Int} (h:hi<=max at_ 0):Ky W frm first to at_ hi=W:=by
  have :(λm q=> if m=to/\max at_ 0<=q/\q<hi then W.objs frm (first+q -at_)else W.objs m q)=W.objs:=by
    funext m q;rw[if_neg (by omega)]
  unfold Ky;rw[this]
theorem Dr {first at_:Int} (g:PagesOk W.objs) (h:max at_ 0<=j):B8 (Ky W frm first to at_ j) to j (J7 (W.objs frm (first+j -at_)))=Ky W frm first to at_ (j+1):=by
  unfold B8 Ky;congr 1;funext m q;unfold RG;by_cases d:m=to/\q=j
  · rw[if_pos d,if_pos (show m=to/\max at_ 0<=q/\q<j+1 from⟨d.1,by omega,by omega⟩),d.2];cases i:W.objs frm (first+j -at_)with
    | none=> simp [J7]
    | some s=> simp [J7,(g.ok _ _ _ i).2.1]
  · rw[if_neg d];dsimp only;by_cases f:m=to/\max at_ 0<=q/\q<j
    · rw[if_pos f,if_pos (show m=to/\max at_ 0<=q/\q<j+1 from⟨f.1,f.2.1,by omega⟩)]
    · have k: ¬(m=to/\max at_ 0<=q/\q<j+1):=by
        rintro⟨a,b,c⟩;have :q≠j:= λe=>d ⟨a,e⟩;exact f ⟨a,b,by omega⟩
      rw[if_neg f,if_neg k]
theorem Sc {F X:Th} {m im:Nat} (c:PagesOk W.objs) (d:ObjL Lo W.objs) (a:Lo[im]? =some (n,m)) (h:Sat w [Q4 QY m (WJ (W.objs n)),starL ((Lo.map (Yc W.objs)).eraseIdx im),Q4 Xo LL.bo (Z2 Lo),Q6 p (JW LL W.time),Q4 Xo LL.bc (XD W.cells),Q4 Xo LL.bl (XD W.logs),F,X]):Sat w [Xv p W,F,X]:=by
  have b:=h.split [0,1,2,3,4,5] [true,true,true,true,true,true,false,false] U;dsimp only[VI,Yu,Ub,Dg,Df]at b;have e:=VR c d a b;exact e.join U
theorem qew {F:Th} {first n at_:Int} (b:(max at_ 0<=j/\j<=max (max at_ 0) (min (at_+n) 256))/\ ¬j<min (at_+n) 256) (h:Sat w [Xv p (Ky W frm first to at_ j),F]):Sat w [Xv p (Kz W frm first n to at_),F]:=by
  unfold Kz;by_cases a:min (at_+n) 256<=max at_ 0
  · rw[Kx a];rw[Kx (by omega)]at h;exact h
  · rw[show min (at_+n) 256=j by omega];exact h
theorem copy_sp {F:Th} (c:Sat w [Xv p W,F]) (frm:Bs) (first n:Int) (to:Bs) (at_:Int) (D:to.length<=281474976710656) (K: -2251799813685248<=first/\first<=2251799813685248) (G: -2251799813685248<=n/\n<=2251799813685248) (H: -2251799813685248<=at_/\at_<=2251799813685248):
    Calls prog 71 #[ptrV p 0,strV frm,intV first,intV n,strV to,intV at_] w (Ret λv w'=>v= .tuple #[]/\Sat w' [Xv p (Kz W frm first n to at_),F]):=by
 obtain⟨LL,g,c⟩:=ZJ c;obtain⟨Lo,r,c⟩:=Ua (c.pull 2 rfl);dsimp only[List.eraseIdx]at c;refine Qn func71 U ntmps71 U ?_;refine Mt (λE0 W0=> ∃(ov:Value),E0=[(0,ptrV p 0),(2,intV first),(3,intV n),(4,strV to),(5,intV at_),(12,ov)]/\Sat W0 [qcp ov (W.objs frm),Xv p W,F]) ?_ ?_
 ·refine Qa<|Qb U U<|Qj U U<|Qg U Ux U<|Qo U Bm (c.cell 2 U U) U<|Qb U U ?_;rcases q:Yk Lo frm with _ | m
  ·have s:=UH r q;refine Xf (k:=frm) 0 c keysStr underlying62 U U U VO (u:= .map none) (by simp [Z2,q]) U ?_;refine Qw AP U (IS (c.sp [] U)) U ?_;rintro _ L ⟨rfl,t⟩;replace t:=t.jn U U;refine Qd U U<|Qf ?_;have d:=YZ g r (t.reorder [0,1,2,3,4,5] U);exact Hx (R6 U U U U U U) ⟨_,U,Nj s d⟩
  obtain⟨im,h⟩:=UX q;refine Xf (k:=frm) 0 c keysStr underlying62 U U U VO (u:= .map (some m)) (by simp [Z2,q]) U ?_;have E:=Ri (i:=im) (A:=Yc W.objs (frm,m)) (c.pull 1 U) (by simp [h]);dsimp only[List.eraseIdx,Yc]at E;refine Qw AP U (IR (E.sp [0] U)) U ?_;rintro _ M ⟨N,rfl,x⟩;replace x:=x.jn U U;refine Qd U U<|Qf ?_;have d:=(x.reorder [1,2,3,4,5,6,7,0] U);dsimp only[Yu,Ub]at d;have y:=Sc g r h d;exact Hx (R6 U U U U U U) ⟨_,U,Ni (y.reorder [2,0,1] U)⟩
 rintro _ O ⟨ov,rfl,I⟩;refine Qe<|Qa<|Qb U U<|Jn U U U<|Qd U U<|Qf<|Qc<|Qx ?_;refine QU (λK0 E0 W0=> ∃(j:Int),K0=(256 -j).toNat/\E0=[(0,ptrV p 0),(2,intV first),(3,intV n),(4,strV to),(5,intV at_),(12,ov),(13,intV j)]/\Sat W0 [qcp ov (W.objs frm),Xv p (Ky W frm first to at_ j),F]/\(max at_ 0<=j/\j<=max (max at_ 0) (min (at_+n) 256))) (L0:=[(0,_),(2,_),(3,_),(4,_),(5,_),(12,_),(13,_)]) ((256 -max at_ 0).toNat) (Cb U U U U U U U) ⟨max at_ 0,rfl,rfl,by rw[Kx (Int.le_refl _)];exact I,by omega⟩ ?_
 rintro _ _ P ⟨j,rfl,rfl,z,Q⟩;refine Qe<|Qe<|Qa<|Qb U U<|Qb U U<|Qb U U<|QE U U (by omega) (by omega) U ?_;refine H3 U U U<|Xa U U U<|Qf<|Qc<|Qh [13,12,5,4,3,2,0,28] U<|Qs U (λJ=> ?_) (λJ=> ?_)
 ·refine Qt<|Qc<|Qe<|Qx<|Qa<|Qb U U<|Qb U U<|Qb U U<|Qb U U<|Qb U U<|Qb U U<|QE U U (by omega) (by omega) U ?_;refine Qb U U<|H2 U U (by omega) (by omega) U ?_;rcases Ik z with⟨e,l,a⟩ | ⟨bo,e,a⟩
  ·clear z;subst e;refine Vf (k:=(first+j -at_)) keysInt underlying188 Yq U U U ?_
   rw[show Jl Wz=Jl (J7 (W.objs frm (first+j -at_)))by rw[l];rfl]
   refine Qw Mk U (NP (a.sp [0] U) to j (J7 (W.objs frm (first+j -at_))) D (g.len _ _) (by omega)) U ?_
   rintro _ R ⟨rfl,B⟩;replace B:=B.jn U U;clear a;refine Qf<|Qm<|Qc<|Qh [13,12,5,4,3,2,0] U<|Qa<|Qb U U<|QE U U (by omega) (by omega) U ?_;refine Qd U U<|Qf ?_;have b:=B;rw[Dr g (by omega)]at b;have f:=Nj (o:=W.objs frm) l b;exact Q5 (L1:=[(0,_),(2,_),(3,_),(4,_),(5,_),(12,_),(13,_)]) (Cb U U U U U U U) (k1:=(256 -(j+1)).toNat) (by omega) ⟨j+1,rfl,rfl,f,by omega⟩
  subst e;refine Xf (k:=(first+j -at_)) 0 a keysInt underlying188 U U U Yq (u:=Jl (J7 (W.objs frm (first+j -at_)))) (RP _ _) U<|Qw Mk U (NP (a.sp [1] U) to j (J7 (W.objs frm (first+j -at_))) D (g.len _ _) (by omega)) U ?_
  rintro _ S ⟨rfl,C⟩;replace C:=C.jn U U;clear a;refine Qf<|Qm<|Qc<|Qh [13,12,5,4,3,2,0] U<|Qa<|Qb U U<|QE U U (by omega) (by omega) U ?_;refine Qd U U<|Qf ?_;have b:=C;rw[Dr g (by omega)]at b;have f:=Ni (b.pick [1,0,2] U);exact Q5 (L1:=[(0,_),(2,_),(3,_),(4,_),(5,_),(12,_),(13,_)]) (Cb U U U U U U U) (k1:=(256 -(j+1)).toNat) (by omega) ⟨j+1,rfl,rfl,f,by omega⟩
 exact QQ (Qp (Qp (Qy (Zb (.inl U) U (⟨_,rfl,rfl,qew (by omega) z.tail⟩)))))
variable [Inhabited SlW]
section
variable {A:LvA} {id p i:Int} {b:KD→Bs} {t u:TrA} {k j:KD} {y:LfA} {ob nm:Bs} {W W':WS} {c:Bs}
def VisP (P:KD->Bs) (W:WS):Prop:= ∀nm q,P (nm,q)=Zy W nm q
theorem Ih {q':Int} :Zy (B8 W n q s) m q'= if m=n/\q'=q then s else Zy W m q':=by
  unfold Zy B8 RG J7;dsimp only;by_cases e:m=n/\q'=q
  · rw[if_pos e,if_pos e];by_cases z:s=Wz
    · rw[if_pos z,z];rfl
    · rw[if_neg z];rfl
  · rw[if_neg e,if_neg e]
theorem Ly (m:Bs) (q:Int) (a:Int) (v:UInt8) (h:0<=a/\a<16384):Zy (Wb W nm a v) m q= if m=nm/\q=a/ 64 then(Zy W nm (a/ 64)).set (a%64).toNat v else Zy W m q:=by
  unfold Wb;rw[if_pos h,Ih]
theorem Lz (m:Bs) (q:Int):Zy (UR W nm) m q= if m=nm then zer else Zy W m q:=by
  unfold Zy UR J7;dsimp only;by_cases e:m=nm
  · rw[if_pos e,if_pos e];rfl
  · rw[if_neg e,if_neg e]
theorem Ii (a:PagesOk W.objs) (h: ¬(0<=q/\q<256)):Zy W m q=zer:=by
  unfold Zy J7;cases e:W.objs m q with
  | none=>rfl
  | some s=> exact absurd (a.ok m q s e).2.2 h
def P0 (n at_:Int):Nat:=(min n (256 -at_) -max 0 (-at_)).toNat
theorem L4 (b:PagesOk W.objs) {n at_:Int} (m:Bs) (q:Int):Zy (Kz W frm fi n to at_) m q= if m=to/\at_+max 0 (-at_)<=q/\q<at_+max 0 (-at_)+(P0 n at_:Int)then(if 0<=fi+q -at_/\fi+q -at_<256 then Zy W frm (fi+q -at_)else zer)else Zy W m q:=by
  have c:Zy (Kz W frm fi n to at_) m q=J7 (if m=to/\max at_ 0<=q/\q<min (at_+n) 256 then W.objs frm (fi+q -at_)else W.objs m q):=rfl;rw[c];unfold P0;by_cases e:m=to/\max at_ 0<=q/\q<min (at_+n) 256
  · rw[if_pos e,if_pos ⟨e.1,by omega,by omega⟩];by_cases r:0<=fi+q -at_/\fi+q -at_<256
    · rw[if_pos r];rfl
    · rw[if_neg r];exact Ii b r
  · rw[if_neg e,if_neg λa=>e ⟨a.1,by omega,by omega⟩];rfl
end
def b8 (a:Int):UInt8:=UInt8.ofNat (a%256).toNat
noncomputable def FQ (P:KD->Bs) (ob:Bs) (a:Int) (v:UInt8):KD->Bs:= if 0<=a/\a<16384 then VN P (ob,a/ 64) ((P (ob,a/ 64)).set (a%64).toNat v)else P
noncomputable def Fy (P:KD->Bs) (ob:Bs) (fi n:Int) (to:Bs) (at_:Int):KD->Bs:= λk=> if k.1=to/\at_+max 0 (-at_)<=k.2/\k.2<at_+max 0 (-at_)+(P0 n at_:Int)then(if 0<=fi+k.2 -at_/\fi+k.2 -at_<256 then P (ob,fi+k.2 -at_)else zer)else P k
noncomputable def IG (P:KD->Bs) (ob:Bs):KD->Bs:=WM (λj=>j.1=ob) zer P
section
variable {A:LvA} {id p:Int} {b:KD→Bs} {t:TrA} {ob nm to:Bs} {W:WS} {P:KD→Bs} {k:KD} {a:Int} {v:UInt8} {q d:Nat}
theorem qay {f:Nat->Bs} {base:Int}: ∀q:Nat,Gb 0 A to base f q={A with pres:= λk=> if k.1=to/\base<=k.2/\k.2<base+(q:Int)then f (k.2 -base).toNat else A.pres k}
  | 0=>by
    show A=_;apply LvA.eq2
    · funext k;show A.pres k= if k.1=to/\base<=k.2/\k.2<base+((0:Nat):Int)then _ else A.pres k;rw[if_neg (by omega)]
    · rfl
  | q+1=>by
    show GV 0 (Gb 0 A to base f q) ((to,base+(q:Int)),f q)=_;rw[qay q];unfold GV;rw[if_pos U];apply LvA.eq2
    · funext k;show VN (λk=> if k.1=to/\base<=k.2/\k.2<base+(q:Int)then f (k.2 -base).toNat else A.pres k) (to,base+(q:Int)) (f q) k= if k.1=to/\base<=k.2/\k.2<base+((q+1:Nat):Int)then f (k.2 -base).toNat else A.pres k;by_cases e:k=(to,base+(q:Int))
      · subst e;rw[XO,if_pos ⟨rfl,by dsimp only;omega,by dsimp only;omega⟩];congr 1;dsimp only;omega
      · rw[Zk e];by_cases a:k.1=to/\base<=k.2/\k.2<base+(q:Int)
        · rw[if_pos a,if_pos ⟨a.1,a.2.1,by omega⟩]
        · rw[if_neg a,if_neg λz=>a ⟨z.1,z.2.1,Classical.byContradiction λy=>e (by
            obtain⟨k1,b⟩:=k;dsimp only at z y;rw[z.1,show b=base+(q:Int)by omega])⟩]
    · rfl
theorem qez {n at_:Int}:Gb 0 A to (at_+max 0 (-at_)) (λi=>cpC A 0 ob (fi+max 0 (-at_)+(i:Int))) (P0 n at_)={A with pres:=Fy A.pres ob fi n to at_}:=by
  rw[qay];apply LvA.eq2
  · funext k;unfold Fy;dsimp only;by_cases e:k.1=to/\at_+max 0 (-at_)<=k.2/\k.2<at_+max 0 (-at_)+(P0 n at_:Int)
    · rw[if_pos e,if_pos e];unfold cpC;have a:fi+max 0 (-at_)+(((k.2 -(at_+max 0 (-at_))).toNat:Nat):Int)=fi+k.2 -at_:=by omega
      rw[a,RH]
    · rw[if_neg e,if_neg e]
  · rfl
theorem VisP.wrU (h:VisP P W):VisP (FQ P nm a v) (Wb W nm a v):= λm q=>by
  unfold FQ;by_cases e:0<=a/\a<16384
  · rw[if_pos e,Ly m q a v e];by_cases b:(m,q)=(nm,a/ 64)
    · obtain⟨c,d⟩:=Prod.mk.inj b;rw[b,XO,if_pos ⟨c,d⟩,h nm (a/ 64)]
    · rw[Zk b,if_neg λz=>b (by rw[z.1,z.2])];exact h m q
  · rw[if_neg e];unfold Wb;rw[if_neg e];exact h m q
theorem VisP.copy (h:VisP P W) (a:PagesOk W.objs) {n at_:Int}:VisP (Fy P ob fi n to at_) (Kz W ob fi n to at_):= λm q=>by
  unfold Fy;rw[L4 a];dsimp only;by_cases e:m=to/\at_+max 0 (-at_)<=q/\q<at_+max 0 (-at_)+(P0 n at_:Int)
  · rw[if_pos e,if_pos e];by_cases r:0<=fi+q -at_/\fi+q -at_<256
    · rw[if_pos r,if_pos r];exact h ob _
    · rw[if_neg r,if_neg r]
  · rw[if_neg e,if_neg e];exact h m q
theorem VisP.drp (h:VisP P W):VisP (IG P nm) (UR W nm):= λm q=>by
  unfold IG WM;rw[Lz];dsimp only;by_cases e:m=nm
  · rw[if_pos e,if_pos e]
  · rw[if_neg e,if_neg e];exact h m q
theorem qfx (h:VisP P W):(if 0<=a/\a<16384 then btA (P (ob,a/ 64)) (a%64)else 0)=Hq W ob a:=by
  unfold Hq btA;rw[h ob (a/ 64)];rfl
end
end Go.Proofs.YtifaibmhinlcfaaGreatDoor
namespace Go.Proofs.YtifaibmhinlcfaaGreatDoor
open Go.RowKit M Proofs.Tryz
variable [Inhabited SlW]
variable {A:LvA} {G:(KD→Int)→Prop} {L:LvD} {P:KD→Int} {V:VS} {b i m n p:Nat} {id s:Int} {tA:TrA} {w:World}
abbrev lsI (b p i m:Nat) (A:LvA) (G:(KD->Int)->Prop):Th:=D7 b p (2000000*i) m i (1024*i) A G
def SamA (A A':LvA):Prop:=A'.pres=A.pres/\ ∀i,(A'.tr i).map TrA.parent=(A.tr i).map TrA.parent
theorem SamA.refl:SamA A A:=⟨rfl,λ_=>rfl⟩
theorem SamA.trans {A B D:LvA} (h:SamA A B) (a:SamA B D):SamA A D:=⟨a.1.trans h.1,λi=>(a.2 i).trans (h.2 i)⟩
theorem SamA.put {k:KD} {x:LfA}:SamA A (Wj A id k x):=by
  refine⟨BC,λi=> ?_⟩;unfold Wj;cases a:A.tr id with
  | none=>rfl
  | some t=>
    show(QN A.tr id _ i).map TrA.parent=_;by_cases e:i=id
    · subst e;rw[Qv,a];rfl
    · rw[Qz e]
theorem SamA.drp {ob:Bs}:SamA A (UQ A id ob):=by
  unfold UQ;cases a:A.tr id with
  | none=> exact .refl
  | some t=>
    refine⟨rfl,λi=> ?_⟩;show(QN A.tr id _ i).map TrA.parent=_;by_cases e:i=id
    · subst e;rw[Qv,a];rfl
    · rw[Qz e]
theorem SamA.rdf {id:Int} {ob:Bs} {p0:Int} {A:LvA}: ∀q,SamA A (LQ id ob p0 A q)
  | 0=> .refl
  | q+1=>by
    refine(SamA.rdf (id:=id) (ob:=ob) (p0:=p0) (A:=A) q).trans ?_;show SamA _ (Ct id ob _ _);unfold Ct;split
    · exact .put
    · exact .refl
theorem SamA.wrf {id:Int} {to:Bs} {base:Int} {f:Nat->Bs} {A:LvA} (a:id≠0): ∀q,SamA A (Gb id A to base f q)
  | 0=> .refl
  | q+1=>by
    refine(SamA.wrf (to:=to) (base:=base) (f:=f) (A:=A) a q).trans ?_;show SamA _ (GV id _ _);unfold GV;rw[if_neg a];exact .put
theorem SamA.get {A':LvA} (h:SamA A A') {i:Int} {t:TrA} (b:A.tr i=some t): ∃u,A'.tr i=some u:=by
  have a:=h.2 i;rw[b]at a;cases q:A'.tr i with
  | none=> rw[q]at a;cases a
  | some u=> exact⟨u,rfl⟩
theorem qdl {F:Th} (c:Sat w [lsI b p i m A G,F]) (hi:i+1<=400) (d:m<ZO) (e:400<(default:SlW).f) (g:A.tr id=some tA) (ob:Bs) (a:Int) (j:0<=a/\a<16384):
    Calls prog 51 #[ptrV b 0,intV id,strV ob,intV a] w (Ret λv w'=> ∃x,v=XV x/\ ∃A',SamA A A'/\Sat w' [lsI b p (i+1) m A' G,F]):=by
  refine(qc7 c (by omega) d g ob a j).mono λew w h=>h.mono λv w h=> ?_;exact⟨_,h.1,_,.put,U6 (by omega) (Nat.le_refl _) (by omega) (by omega) h.2⟩
theorem qdf {F:Th} (c:Sat w [lsI b p i m A G,F]) (hi:i+1<=400) (d:m<ZO) (e:400<(default:SlW).f) (g:A.tr id=some tA) (ob:Bs) (a:Int) (bt:UInt8) (j:0<=a/\a<16384):
    Calls prog 49 #[ptrV b 0,intV id,strV ob,intV a,XV bt] w (Ret λv w'=>v=intV 0/\ ∃A',SamA A A'/\Sat w' [lsI b p (i+1) m A' G,F]):=by
  refine(SJ c (by omega) d g (by omega) ob a bt j).mono λew w h=>h.mono λv w h=> ?_;exact⟨h.1,_,.put,U6 (by omega) (Nat.le_refl _) (by omega) (by omega) h.2⟩
theorem qdj {F:Th} (r:Sat w [lsI b p i m A G,F]) (hi:i+1<=400) (s:m<ZO) (t:400<(default:SlW).f) (x:A.tr id=some tA) (ob to:Bs) (fi cn a:Int) (y: -2147483648<=fi/\fi<=2147483648) (z: -2147483648<=a/\a<=2147483648) (e: -2147483648<=cn/\cn<=300):
    Calls prog 115 #[ptrV b 0,intV id,strV ob,intV fi,intV cn,strV to,intV a] w (Ret λv w'=> ∃A',SamA A A'/\Sat w' [lsI b p (i+1) m A' G,F]):=by
  obtain⟨L,V,⟨B,k,l,C,D⟩,E,H⟩:=Jf r;have c:=x;rw[<-l]at c;obtain⟨u,o,_⟩:=U3 c;have I:=k.rank.none0 o;refine(qex H (by omega) k s o ob to fi cn a y z e).mono λew w h=>h.mono λv w h=> ?_;obtain⟨L',V',q,d,g,_,j,J⟩:=h;exact⟨_,((SamA.rdf _).trans (SamA.wrf I _)),U6 (n:=2000000*i+2100) (by omega) (Nat.le_refl _) (by omega) (by omega) (Je ⟨d.sp.trans B,d.inv,by rw[g,l],d.al _ C,d.sz _ D⟩ (by rw[j];exact E) J)⟩
theorem qdh {F:Th} (k:Sat w [lsI b p i m A G,F]) (hi:i+1<=400) (B:m<ZO) (l:400<(default:SlW).f) (o:A.tr id=some tA) (ob:Bs):
    Calls prog 110 #[ptrV b 0,intV id,strV ob] w (Ret λv w'=> ∃A',SamA A A'/\Sat w' [lsI b p (i+1) m A' G,F]):=by
  obtain⟨L,V,⟨q,r,g,s,j⟩,t,x⟩:=Jf k;have a:=o;rw[<-g]at a;obtain⟨u,y,_⟩:=U3 a;refine(Fp x j (by omega) r (λ_ _=>Int.le_refl _) y ob).mono λew w h=>h.mono λv w h=> ?_;obtain⟨L',V',c,d,_,e,z⟩:=h;exact⟨_,.drp,U6 (n:=2000000*i+2*(1024*i)) (by omega) (Nat.le_refl _) (by omega) (by omega) (Je ⟨c.sp.trans q,c.inv,by rw[d,g],c.al _ s,c.sz _ j⟩ (by rw[e];exact t) z)⟩
theorem qdg {F:Th} (d:Sat w [lsI b p i m A λ_=>True,F]) (hi:i+1<=400) (e:m<ZO) (g:400<(default:SlW).f) (ob:Bs) (a:Int) (bt:UInt8) (c:0<=a/\a<16384):
    Calls prog 49 #[ptrV b 0,intV 0,strV ob,intV a,XV bt] w (Ret λv w'=>v=intV 0/\Sat w' [lsI b p (i+1) m {A with pres:=FQ A.pres ob a bt} λ_=>True,F]):=by
  refine(qc6 d (by omega) e (by omega) ob a bt c).mono λew w h=>h.mono λv w h=> ?_;unfold FQ;rw[if_pos c];exact⟨h.1,U6 (by omega) (Nat.le_refl _) (by omega) (by omega) h.2⟩
theorem qdk {F:Th} (l:Sat w [lsI b p i m A λ_=>True,F]) (hi:i+1<=400) (o:m<ZO) (r:400<(default:SlW).f) (ob to:Bs) (fi cn a:Int) (s: -2147483648<=fi/\fi<=2147483648) (t: -2147483648<=a/\a<=2147483648) (e: -2147483648<=cn/\cn<=300):
    Calls prog 115 #[ptrV b 0,intV 0,strV ob,intV fi,intV cn,strV to,intV a] w (Ret λv w'=>Sat w' [lsI b p (i+1) m {A with pres:=Fy A.pres ob fi cn to a} λ_=>True,F]):=by
  obtain⟨L,V,⟨u,j,k,x,y⟩,z⟩:=Ki l;refine(qey z (by omega) j o ob to fi cn a s t e).mono λew w h=>h.mono λv w h=> ?_;obtain⟨L',V',q,c,_,g,E,B⟩:=h;have C:q=P0 cn a:=by unfold P0;omega
  subst C;refine U6 (n:=2000000*i+2000) (by omega) (Nat.le_refl _) (by omega) (by omega) (UI ⟨c.sp.trans u,c.inv, ?_,c.al _ x,c.sz _ y⟩ B);rw[g,k,N3,<-qez];refine TF _ λi hi=> ?_
  have D:(D9 L ob (fi+max 0 (-a)) (P0 cn a)).getD i 0=FO L ob (fi+max 0 (-a)+(i:Int)):=by
    unfold D9;simp [List.getD,hi]
  rw[D];unfold FO cpC;subst k;by_cases d:0<=fi+max 0 (-a)+(i:Int)/\fi+max 0 (-a)+(i:Int)<256
  · rw[if_pos d,if_pos d,RH];rfl
  · rw[if_neg d,if_neg d];exact JP j.zero
theorem qdi {F:Th} (e:Sat w [lsI b p i m A λ_=>True,F]) (hi:i+1<=400) (s:m<ZO) (g:400<(default:SlW).f) (ob:Bs):
    Calls prog 110 #[ptrV b 0,intV 0,strV ob] w (Ret λv w'=>Sat w' [lsI b p (i+1) m {A with pres:=IG A.pres ob} λ_=>True,F]):=by
  obtain⟨L,V,⟨j,k,l,o,d⟩,q⟩:=Ki e;refine(Fq q d (by omega) k (λ_ _=>Int.le_refl _) ob).mono λew w h=>h.mono λv w h=> ?_;obtain⟨L',V',a,c,_,r⟩:=h;exact U6 (n:=2000000*i+2*(1024*i)) (by omega) (Nat.le_refl _) (by omega) (by omega) (UI ⟨a.sp.trans j,a.inv,by rw[c,l];rfl,a.al _ o,a.sz _ d⟩ r)
theorem qdm {F:Th} (d:Sat w [lsI b p i m A G,F]) (hi:i+1<=400) (K:m<ZO) (x:400<(default:SlW).f) (y:A.tr id=some tA) (e: ∀j u,A.tr j=some u->u.parent≠id) (a: ∀ks:List Int,ks.Nodup->(∀j∈ks,A.tr j≠none)->ks.length<=1000):
    Calls prog 45 #[ptrV b 0,intV id] w (Ret λv w'=>Sat w' [lsI b p (i+1) m (Kw A id) G,F]):=by
  obtain⟨L,V,⟨B,C,D,E,r⟩,H,I⟩:=Jf d;subst D;obtain⟨t,g,rfl⟩:=U3 y
  have k: ∀ks,Came (XM TrD.ad L.tr) ks->ks.length<=100000000000:= λks s=>Nat.le_trans (a ks s.nodup λj J q=>by
    cases z:L.tr j with
    | none=> exact s.has j J (by unfold XM;rw[z];rfl)
    | some u=> rw[Z1 z]at q;cases q) (by omega)
  refine(qal (ex:= λ_=>0) I r (by omega) C (λ_ _=>Int.le_refl _) g (Ok e) k).mono λew w h=>h.mono λv w h=> ?_;obtain⟨L',V',c,l,o,_,d⟩:=h;exact U6 (n:=2000000*i+2*(1024*i)) (by omega) (Nat.le_refl _) (by omega) (by omega) (Je ⟨c.sp.trans B,c.inv,l,c.al _ E,c.sz _ r⟩ (by rw[o];exact H) d)
def LiveP (P:KD->Int) (l:List Int):Prop:=l.Pairwise (· < ·)/\ ∀s,s∈l↔s≠0/\ ∃k,P k=s
theorem LiveP.eq {l l2:List Int} (h:LiveP P l) (a:LiveP P l2):l=l2:=Ml h.1 a.1 λi=>(h.2 i).trans (a.2 i).symm
theorem qe2 (d: ∀i,L.tr i=none) (f:s≠0) (h:Cnt (Xx L) s n):Cnt L.pres s n:=by
  obtain⟨l,a,b,c⟩:=h
  have g: ∀q∈l,∃k,q= .inl k:= λq p=>by
    cases q with
    | inl k=> exact⟨k,rfl⟩
    | inr q=>
      obtain⟨i,k,o⟩:=q;have :=(b _).1 p;simp only[Xx,d]at this;exact absurd this.symm f
  have key: ∀l:List Pl,(∀q∈l,∃k,q= .inl k)-> ∃m:List KD,l=m.map .inl:= λl=>by
    induction l with
    | nil=> exact λ_=>⟨[],rfl⟩
    | cons q l ih=>
      intro h;obtain⟨k,rfl⟩:=h q List.mem_cons_self;obtain⟨m,rfl⟩:=ih λr t=>h r (List.mem_cons_of_mem _ t);exact⟨k::m,U⟩
  obtain⟨m,rfl⟩:=key l g;refine⟨m,(List.pairwise_map.1 a).imp λh e=>h (by rw[e]),λk=> ?_,by rw[<-c,List.length_map]⟩;rw[<- show Xx L (.inl k)=L.pres k from rfl,<-b,List.mem_map];exact⟨λh=>⟨k,h,rfl⟩,λ⟨j,h,e⟩=>by cases e;exact h⟩
theorem FK (h:QC L V=A) (a: ∀i,A.tr i=none) (i:Int):L.tr i=none:=by
  cases q:L.tr i with
  | none=>rfl
  | some t=> have :=Z1 (V:=V) q;rw[h,a]at this;cases this
theorem stLive {F c:Nat} {X:Th} (b:Sat w [ZP p n F V,X]) (k:AliveLe V c) (l:c<=100000000000):Calls prog 11 #[ptrV p 0] w (Ret λv w'=> ∃ls:List Int,ls.Pairwise (· < ·)/\(∀j,j∈ls↔V j≠none)/\ls.length<=c/\Sat w' [rowT inC v ls,ZP p n F V,X]):=by
  obtain⟨S,m,rfl,o,b⟩:=JN b;obtain⟨ids,r,f⟩:=k
  have g: ∀j,vw S j≠none↔S.all j≠none:= λj=>by
    cases q:S.all j with
    | none=> rw[Uo q];simp
    | some x=> rw[H5 q];simp
  refine(OH b (ids:=ids) (λj d=>f j ((g j).2 d)) (by omega)).mono λe w h=>h.mono λv w h=> ?_;obtain⟨ks,a,h⟩:=h
  have i: ∀j,j∈XU ks↔vw S j≠none:= λj=>by
    rw[(Y2 ks).mem_iff,a.mem,g];unfold aG;cases S.all j<;> simp
  exact⟨XU ks,Sr a.nodup,i,Nat.le_trans (Wm ((Y2 ks).nodup_iff.2 a.nodup) λj d=>f j ((i j).1 d)) r,(ZK m U o (h.perm (List.Perm.swap _ _ _))).perm (List.Perm.swap _ _ _)⟩
theorem li_live {F:Th} (y:Sat w [lsI b p i m A λq=>q=P,F]) (hi:i+1<=400) (z: ∀j,A.tr j=none):
    Calls prog 11 #[ptrV p 0] w (Ret λv w'=> ∃l,LiveP P l/\l.length<=400/\Sat w' [rowT inC v l,lsI b p i m A λq=>q=P,F]):=by
  obtain⟨L,V,⟨B,c,g,o,C⟩,D,E⟩:=Jf y;subst D;subst B;have f:=FK g z;refine(stLive (E.split [1] [false,true,false] U) o (by omega)).mono λew w h=>h.mono λv w h=> ?_;obtain⟨l,a,b2,N,h⟩:=h;have H:=h.join U;refine⟨l,⟨a,λs=> ?_⟩,by omega,(Je (G:= λq=>q=L.pres) ⟨rfl,c,g,o,C⟩ U (H.pick [2,1,0,3] U)).pick [1,0,2] U⟩;rw[b2];constructor
  · intro r;have d:s≠0:= λe=>r (by rw[e];exact c.zero);obtain⟨n,I,t⟩:=c.ref.1 s d;obtain⟨x,u⟩:=Option.ne_none_iff_exists'.1 r;have O:=(c.ref.2 s x u).1;rw[WW u]at t;dsimp only at t;obtain⟨ks,_,J,K⟩:=qe2 f d I;cases ks with
    | nil=> simp at K;omega
    | cons k ks=> exact⟨d,k,(J k).1 List.mem_cons_self⟩
  · rintro⟨d,k,M⟩;exact(c.ref.alive (show Xx L (.inl k)=s from M) (Int.le_refl _)).resolve_left d
theorem li_refs {F:Th} (f:Sat w [lsI b p i m A λq=>q=P,F]) (hi:i+1<=400) (g: ∀j,A.tr j=none) (c:s≠0):
    Calls prog 12 #[ptrV p 0,intV s] w (Ret λv w'=> ∃n:Nat,Cnt P s n/\v=intV (n:Int)/\Sat w' [lsI b p i m A λq=>q=P,F]):=by
  obtain⟨L,V,⟨k,d,e,l,o⟩,r,t⟩:=Jf f;subst r;subst k;have a:=FK e g;obtain⟨n,u,x⟩:=d.ref.1 s c;refine(NO (t.split [1] [false,true,false] U) s).mono λew w h=>h.mono λv w h=> ?_;obtain⟨rfl,h⟩:=h;have y:=h.join U;exact⟨n,qe2 a c u,by rw[x];simp,Je (G:= λq=>q=L.pres) ⟨rfl,d,e,l,o⟩ U (y.pick [1,0,2] U)⟩
structure OkO (i:Nat) (y:OneD):Prop where
  wr: ∀k v,y.writes k=some v→v.length≤40
  vl: ∀k v,y.vals k=some v→v.length≤40
  lg: ∀k s,y.logs k=some s→s.length≤50*i
  od:y.order.length≤i
  cn: ∃ks:List Bs,ks.length≤i∧ ∀k,y.writes k≠none→k∈ks∧k.length≤10
section
variable {i j:Nat} {x x' y:OneD} {C:CeD} {T T':Nodes} {k v s:Bs} {id last:Int} {A A':LvA} {ids:List Int} {W W':WS} {nd n n':NodeD}
theorem OkO.mono (h:OkO i y) (c:i<=j):OkO j y:=⟨h.wr,h.vl,λk s e=>by have :=h.lg k s e;omega,by have :=h.od;omega,by obtain⟨ks,a,b⟩:=h.cn;exact⟨ks,by omega,b⟩⟩
theorem OkO.quiet (h:QuD y):OkO i y:=by
  obtain⟨a,b,c,d,_⟩:=h;exact⟨λk v e=>(by rw[a]at e;cases e),λk v e=>(by rw[c]at e;cases e),λk v e=>(by rw[b]at e;cases e),(by rw[d];simp),[],Nat.zero_le _,λk e=>absurd (by rw[a]) e⟩
theorem OkO.came (h:OkO i y) {ks:List Bs} (c:Came (Hv y.writes) ks):ks.length<=i:=by
  obtain⟨l,a,b⟩:=h.cn;refine Nat.le_trans (Wm c.nodup λq d=>(b q λe=>c.has q d ?_).1) a;unfold Hv;rw[e];rfl
theorem OkO.kw (h:OkO i y): ∀q,y.writes q≠none->q.length<=10:= λq c=>by
  obtain⟨l,a,b⟩:=h.cn;exact(b q c).2
theorem MH (h: ∀{j y},C.all j=some y->OkO i y) (d:SeesR C T k id v):v.length<=40:=by
  induction d with
  | wr a b=> exact(h a).wr _ _ b
  | rd a _ c=> exact(h a).vl _ _ c
  | root=> simp
  | up _ _ _ _ _ _ ih=> exact ih
theorem OkO.ask (b: ∀{j y},C.all j=some y->OkO i y) (h:OkO i x) (c:AskR C T id x k x'):OkO (i+1) x':=by
  rcases c with⟨_,rfl⟩ | ⟨_,n,s,ov,_,_,d,rfl⟩
  · exact h.mono (by omega)
  · have a:=h.mono (show i<=i+1 by omega);refine⟨a.wr,λq u e=> ?_,a.lg,by simp;exact h.od,a.cn⟩;have e:QN x.vals k (some s) q=some u:=e;by_cases z:q=k
    · subst z;rw[Qv]at e;cases e;exact MH b d
    · rw[Qz z]at e;exact h.vl _ _ e
theorem OkO.askL (h:OkO i x) {N:Nat} (b:AskL N nd x k x'):OkO (i+1) x':=by
  rcases b with rfl | ⟨_,_,ov,s,l,_,rfl⟩
  · exact h.mono (by omega)
  · have a:=h.mono (show i<=i+1 by omega);exact⟨a.wr,a.vl,a.lg,by simp;exact h.od,a.cn⟩
theorem OkO.put (h:OkO i x) (f:k.length<=10) (g:v.length<=40):OkO (i+1) (Ye x k v):=by
  have c:=h.mono (show i<=i+1 by omega)
  have d: ∀q u,(Ye x k v).writes q=some u->(q=k/\u=v)\/x.writes q=some u:= λq u e=>by
    have e:QN x.writes k _ q=some u:=e;by_cases z:q=k
    · subst z;rw[Qv]at e;split at e
      · cases e
      · cases e;exact .inl ⟨rfl,rfl⟩
    · rw[Qz z]at e;exact .inr e
  refine⟨λq u e=> ?_,c.vl,c.lg,c.od, ?_⟩
  · rcases d q u e with⟨_,rfl⟩ | e
    · exact g
    · exact h.wr _ _ e
  · obtain⟨l,a,b⟩:=h.cn;refine⟨k::l,by simp;omega,λq j=> ?_⟩;obtain⟨u,m⟩:=Option.ne_none_iff_exists'.1 j;rcases d q u m with⟨rfl,_⟩ | e
    · exact⟨List.mem_cons_self,f⟩
    · have :=b q (by rw[e];simp);exact⟨List.mem_cons_of_mem _ this.1,this.2⟩
theorem OkO.log (h:OkO i x) (b:s.length<=50):OkO (i+1) (RT x k s):=by
  have a:=h.mono (show i<=i+1 by omega);by_cases z:s=[]
  · rw[Pf z];exact a
  · rw[Tc z];refine⟨a.wr,a.vl,λq u e=> ?_,a.od,a.cn⟩;have e:QN x.logs k _ q=some u:=e;by_cases z:q=k
    · subst z;rw[Qv]at e;cases e;rw[List.length_append]
      have :((x.logs q).getD []).length<=50*i:=by
        cases r:x.logs q with
        | none=> simp
        | some t=> exact h.lg _ _ r
      omega
    · rw[Qz z]at e;exact a.lg _ _ e
theorem OkO.logl (h:OkO i x):((x.logs k).getD []).length<=50*i:=by
  cases r:x.logs k with
  | none=> simp
  | some t=> exact h.lg _ _ r
structure PI (i:Nat) (T:Nodes) (last:Int) (C:CeD) (A:LvA) (ids:List Int):Prop where
  tri:TrI T last
  ce:CeW C T
  cb:CeB C T 400
  ok: ∀{j y},C.all j=some y→OkO i y
  lv:LvP A T
  few:FewT T ids
  flat: ∀{j n},T j=some n→j≠0→n.par=0
  tm: ∀{j n},T j=some n→0≤n.gue∧n.gue≤1099511627776∧0≤n.el∧n.el≤300*i
  la:last≤i
structure PrS (T:Nodes) (C:CeD) (A:LvA) (W:WS):Prop where
  rc: ∃y,C.all 0=some y∧(∀k,(y.writes k).getD []=W.cells k)∧(∀k,y.vals k=none)∧ ∀k,(y.logs k).getD []=W.logs k
  vis:VisP A.pres W
  pg:PagesOk W.objs
  tm: ∃n,T 0=some n∧n.gue=0∧n.el=W.time
theorem PI.mono (h:PI i T last C A ids) (a:i<=j):PI j T last C A ids:=⟨h.tri,h.ce,h.cb,λe=>(h.ok e).mono a,h.lv,h.few,h.flat,λe=>by have :=h.tm e;omega,by have :=h.la;omega⟩
theorem PI.get (h:PI i T last C A ids) (Zl:id=0\/id∈ids): ∃n,T id=some n:=by
  rcases Zl with rfl | Zl
  · obtain⟨n,a,_⟩:=h.tri.root;exact⟨n,a⟩
  · exact Option.ne_none_iff_exists'.1 ((h.few.1.2 id).1 Zl).2
theorem PI.setC (h:PI i T last C A ids) (hi:i+1<=400) (c:C.all id=some x) (a:T id=some nd) (b:OkO (i+1) x') (d:x'.ad=x.ad) (f:x'.par=x.par) (g:x'.kids=x.kids) (m: ∀k s l,x'.li k=some (s,l)->(l.length:Int)<=nd.dep*(400:Nat)/\ ∀q∈l,q.length<=10):PI (i+1) T last (C.up id x') A ids where
  tri:=h.tri
  ce:=h.ce.set c d f g
  cb:=h.cb.set a (λks n=>by have :=b.came n;omega) m b.kw
  ok:= λ{j y} e=>by
    have e:QN C.all id (some x') j=some y:=e;by_cases z:j=id
    · subst z;rw[Qv]at e;cases e;exact b
    · rw[Qz z]at e;exact(h.ok e).mono (by omega)
  lv:=h.lv
  few:=h.few
  flat:=h.flat
  tm:= λe=>by have :=h.tm e;omega
  la:=by have :=h.la;omega
theorem PI.lik (h:PI i T last C A ids) (b:C.all id=some x) (a:T id=some nd): ∀k s l,x.li k=some (s,l)->(l.length:Int)<=nd.dep*(400:Nat)/\ ∀q∈l,q.length<=10:= λk s l e=>⟨h.cb.li b a e,h.cb.kl b e⟩
theorem PI.ask (h:PI i T last C A ids) (hi:i+1<=400) (c:C.all id=some x) (a:T id=some nd) (b:AskR C T id x k x'):PI (i+1) T last (C.up id x') A ids:=
  h.setC hi c a (.ask h.ok (h.ok c) b) b.ad.1 b.ad.2.1 b.ad.2.2 (by
    have e:x'.li=x.li:=by rcases b with⟨_,rfl⟩ | ⟨_,_,_,_,_,_,_,rfl⟩<;>rfl
    rw[e];exact h.lik c a)
theorem PI.put (h:PI i T last C A ids) (hi:i+1<=400) (b:C.all id=some x) (a:T id=some nd) (c:k.length<=10) (d:v.length<=40):PI (i+1) T last (C.up id (Ye x k v)) A ids:=
  h.setC hi b a ((h.ok b).put c d) U U U (show ∀q s l,x.li q=some (s,l)->_ from h.lik b a)
theorem PI.log (h:PI i T last C A ids) (hi:i+1<=400) (b:C.all id=some x) (a:T id=some nd) (c:s.length<=50):PI (i+1) T last (C.up id (RT x k s)) A ids:=
  h.setC hi b a ((h.ok b).log c) Pg.1 Pg.2.1 Pg.2.2 (by
    have e:(RT x k s).li=x.li:=by unfold RT;split<;>rfl
    rw[e];exact h.lik b a)
theorem PI.askL (h:PI i T last C A ids) (hi:i+1<=400) (d:C.all id=some x) (a:T id=some nd) (c:AskL 400 nd x k x'):PI (i+1) T last (C.up id x') A ids:=
  h.setC hi d a ((h.ok d).askL c) c.ad.1 c.ad.2.1 c.ad.2.2.1 (by
    rcases c with rfl | ⟨_,_,ov,f,l1,g,rfl⟩
    · exact h.lik d a
    · intro q s l b;have b:QN x.li k (some (f,l1)) q=some (s,l):=b;by_cases e:q=k
      · subst e;rw[Qv]at b;cases b;exact g
      · rw[Qz e]at b;exact h.lik d a q s l b)
theorem PI.root (h:PI i T last C A ids) (a:C.all 0=some y):y.par=none:=h.ce.root a
theorem PrS.setT (h:PrS T C A W) (c:id≠0):PrS T (C.up id x') A W:=by
  obtain⟨y,a,b⟩:=h.rc;exact⟨⟨y,(Qz (λe=>c e.symm)).trans a,b⟩,h.vis,h.pg,h.tm⟩
theorem AskR.same (a:AskR C T id x k x') (b:x.par=none):x'=x:=by
  rcases a with⟨_,e⟩ | ⟨e,_⟩
  · exact e
  · rw[MV b]at e;cases e
theorem CeD.up_same (a:C.all id=some x):C.up id x=C:=by unfold CeD.up;rw[Wr a]
theorem PrS.sees (h:PrS T C A W) (d:SeesR C T k 0 v):v=W.cells k:=by
  obtain⟨y,a,b,c,_⟩:=h.rc;rw[<-b k];cases q:y.writes k with
  | none=> exact d.det (.root a q (c k))
  | some u=> exact d.det (.wr a q)
theorem PrS.put (h:PrS T C A W) (f:C.all 0=some x) (g:x.par=none):PrS T (C.up 0 (Ye x k v)) A (Rn W k v):=by
  obtain⟨y,a,b,c,d⟩:=h.rc;rw[f]at a;cases a;refine⟨⟨_,Qv,λq=> ?_,c,d⟩,h.vis,h.pg,h.tm⟩;show(QN x.writes k _ q).getD []=Um W.cells k v q;unfold Um;by_cases z:q=k
  · subst z;rw[Qv,if_pos U];split
    · rename_i e;exact e.2.symm
    · rfl
  · rw[Qz z,if_neg z];exact b q
theorem PrS.log (h:PrS T C A W) (e:C.all 0=some x):PrS T (C.up 0 (RT x k s)) A (Cn W k s):=by
  obtain⟨y,a,b,c,d⟩:=h.rc;rw[e]at a;cases a;unfold Cn;by_cases z:s=[]
  · rw[Pf z,if_pos z,CeD.up_same e];exact h
  · rw[Tc z,if_neg z];refine⟨⟨_,Qv,b,c,λq=> ?_⟩,h.vis,h.pg,h.tm⟩;show(QN x.logs k _ q).getD []=Um W.logs k _ q;unfold Um;by_cases z:q=k
    · subst z;rw[Qv,if_pos U,d q];rfl
    · rw[Qz z,if_neg z];exact d q
theorem PI.setA (h:PI i T last C A ids) (a: ∀j,(A'.tr j).map TrA.parent=(A.tr j).map TrA.parent):PI (i+1) T last C A' ids:=
  let h1:=h.mono (show i<=i+1 by omega)
  ⟨h1.tri,h1.ce,h1.cb,h1.ok,⟨(by
    have :=a 0;rw[h.lv.zero]at this;cases q:A'.tr 0 with
    | none=>rfl
    | some u=> rw[q]at this;cases this),λj b=>(h.lv.par j b).trans (a j).symm⟩,h1.few,h1.flat,h1.tm,h1.la⟩
theorem PrS.sam (h:PrS T C A W) (a:SamA A A'):PrS T C A' W:=⟨h.rc,by rw[a.1];exact h.vis,h.pg,h.tm⟩
theorem PagesOk.byte (h:PagesOk W.objs) {nm:Bs} {a:Int} {c:UInt8}:PagesOk (Wb W nm a c).objs:=by
  unfold Wb;split
  · exact h.set (by simp [Zy,h.len]) (by omega)
  · exact h
theorem PagesOk.copy (h:PagesOk W.objs) {frm to:Bs} {fi n at_:Int}:PagesOk (Kz W frm fi n to at_).objs:=⟨λm q s c=>by
  have c:(if m=to/\max at_ 0<=q/\q<min (at_+n) 256 then W.objs frm (fi+q -at_)else W.objs m q)=some s:=c;split at c
  · obtain⟨a,b,_⟩:=h.ok _ _ _ c;exact⟨a,b,by omega⟩
  · exact h.ok _ _ _ c⟩
def qan (n n':NodeD):Prop:=n'.id=n.id/\n'.par=n.par/\n'.dep=n.dep/\n'.gue=n.gue
theorem Vg (b:T id=some n) (c:qan n n') {j:Int} {m:NodeD} (h:QN T id (some n') j=some m): ∃a,T j=some a/\qan a m/\(j≠id->m=a)/\(j=id->m=n'):=by
  by_cases e:j=id
  · subst e;rw[Qv]at h;cases h;exact⟨n,b,c,λq=>absurd U q,λ_=>rfl⟩
  · rw[Qz e]at h;exact⟨m,h,⟨rfl,rfl,rfl,rfl⟩,λ_=>rfl,λq=>absurd q e⟩
theorem NJ (b:T id=some n) (c:qan n n') {j:Int} {m:NodeD} (h:T j=some m): ∃a,QN T id (some n') j=some a/\qan m a:=by
  by_cases e:j=id
  · subst e;rw[Qv];rw[b]at h;cases h;exact⟨_,rfl,c⟩
  · rw[Qz e];exact⟨m,h,rfl,rfl,rfl,rfl⟩
theorem M2 (a:T id=some n) {j:Int}:QN T id (some n') j=none↔T j=none:=by
  by_cases e:j=id
  · subst e;rw[Qv,a];simp
  · rw[Qz e]
theorem O6 (d:T id=some n) (f:qan n n') {q j:Int}:ChildOf (QN T id (some n')) q j↔ChildOf T q j:=by
  constructor
  · rintro⟨m,a,b,c⟩;obtain⟨g,a0,e,_⟩:=Vg d f a;exact⟨g,a0,b,e.2.1.symm.trans c⟩
  · rintro⟨m,a,b,c⟩;obtain⟨h,i,e⟩:=NJ d f a;exact⟨h,i,b,e.2.1.trans c⟩
theorem PI.node (h:PI i T last C A ids) (k:T id=some n) (o:qan n n') (H:0<=n'.el/\n'.el<=300*(i+1:Nat)):PI (i+1) (QN T id (some n')) last C A ids where
  tri :=⟨by
      obtain⟨r,a,b,c,d⟩:=h.tri.root;obtain⟨y,v,e⟩:=NJ k o a;exact⟨y,v,e.1.trans b,e.2.1.trans c,e.2.2.1.trans d⟩,
    λq=>by obtain⟨m,a,e,_⟩:=Vg k o q;exact e.1.trans (h.tri.own a),
    λq t=>by obtain⟨m,a,_⟩:=Vg k o q;exact h.tri.pos a t,
    λq t=>by
      obtain⟨m,a,e,_⟩:=Vg k o q;obtain⟨b,c,p,d,f⟩:=h.tri.par a t;obtain⟨p1,B,D⟩:=NJ k o d;exact⟨by rw[e.2.1];exact b,by rw[e.2.1];exact c,p1,by rw[e.2.1];exact B,by rw[e.2.2.1,f,D.2.2.1]⟩,h.tri.last0⟩
  ce:=⟨λj=>(h.ce.dom j).trans (M2 k).symm,h.ce.root,λ{j m x} t s w=>by
      obtain⟨u,a,e,_⟩:=Vg k o s;rw[e.2.1];exact h.ce.up t a w,h.ce.inj,λw=>by
      obtain⟨c,a,l,l1,l2,l3⟩:=h.ce.kids w;exact⟨c,a,l,l1,λj=>(l2 j).trans (O6 k o).symm,l3⟩⟩
  cb:=⟨h.cb.wr,λE s F=>by
      obtain⟨u,a,e,_⟩:=Vg k o s;rw[e.2.2.1];exact h.cb.li E a F,λs=>by
      obtain⟨u,a,e,_⟩:=Vg k o s;rw[e.2.2.1];exact h.cb.dep a,h.cb.kw,h.cb.kl⟩
  ok:= λe=>(h.ok e).mono (by omega)
  lv:=h.lv.same λj _=>by
    cases q:T j with
    | none=> rw[(M2 k).2 q]
    | some m=>
      obtain⟨G,v,e⟩:=NJ k o q;rw[v];show some G.par=some m.par;rw[e.2.1]
  few:=⟨⟨h.few.1.1,λj=>(h.few.1.2 j).trans (and_congr_right λ_=>not_congr (M2 k).symm)⟩,h.few.2⟩
  flat:= λs t=>by
    obtain⟨u,a,e,_⟩:=Vg k o s;rw[e.2.1];exact h.flat a t
  tm:= λ{j m} s=>by
    obtain⟨u,a,e,f,g⟩:=Vg k o s;have I:=h.tm a;by_cases z:j=id
    · rw[g z];have J:=h.tm k;rw[o.2.2.2];omega
    · rw[f z];omega
  la:=by have :=h.la;omega
theorem PrS.nodeT (h:PrS T C A W) (c:id≠0):PrS (QN T id (some n')) C A W:=by
  obtain⟨n,a,b⟩:=h.tm;exact⟨h.rc,h.vis,h.pg,n,(Qz (λe=>c e.symm)).trans a,b⟩
theorem PrS.elapse (h:PrS T C A W) (d:T 0=some n) (q:Int):PrS (QN T 0 (some (elN n q))) C A {W with time:=W.time+max q 0}:=by
  obtain⟨m,a,b,c⟩:=h.tm;rw[d]at a;cases a;exact⟨h.rc,h.vis,h.pg,elN n q,Qv,b,by show n.el+max q 0=_;rw[c]⟩
end
