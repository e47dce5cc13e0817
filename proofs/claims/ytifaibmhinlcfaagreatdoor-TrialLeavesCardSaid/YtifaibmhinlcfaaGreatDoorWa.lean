/- world: cells -/
import Derived.Test.YtifaibmhinlcfaaGreatDoorBit
import Derived.Test.YtifaibmhinlcfaaGreatDoorSh3
import Derived.Lib.AppendStr
import Derived.RangeFuncIn
import Derived.RangeFuncRecord
import Derived.RangeFuncLeaves
import Derived.RangeFuncSeq
import Derived.TacticsIn
set_option linter.unusedVariables false
namespace Go.Proofs.YtifaibmhinlcfaaGreatDoor
open Go.RowKit M Proofs.Tryz
variable {As:List Th} {W:WS} {b p:Nat} {bs:Bs} {v:Value} {w:World}
theorem keysInt:KeyOk prog 3 QY:=Iq underlying3
theorem keysStr:KeyOk prog 9 Xo:=Ip underlying9
theorem clone0 (a:Sat w As) (s:Bs) (b:s.length<=281474976710656):Calls prog 124 #[strV s] w (Ret λv w'=>v=strV s/\Sat w' As):=
  FA a (Tryz.stringslite_Clone ⟨s.toArray⟩ w (by simpa [ByteArray.size]using b))
theorem Uj {F:Th} (b:Sat w [F]) (s:Bs) (c:s.length<=281474976710656):
    Calls prog 81 #[strV s] w (Ret λv w'=>v=strV s/\Sat w' [F]):=by
 refine Qn func81 U ntmps81 U ?_;refine Qe<|Qa<|Qd U U<|Qf<|Qc<|Qe<|Qa<|Qb U U<|Qw cal_124 U (clone0 (b.sp [] U) s c) U ?_;rintro _ d ⟨rfl,a⟩;replace a:=a.jn U U;exact Qd U U (Qf (Qc (Qu (QJ (.inr U) U U (⟨_,U,U,a⟩)))))
def emptyW:WS:=⟨λ_=>[],λ_ _=>none,λ_=>[],0⟩
theorem P4:XD (λ_=>[])= λ_=>none:=by funext k;simp [XD]
theorem qcv {a c:Nat} {F:Th} (h:Sat w [Q6 p [.map (some a),.map (some b),.map (some c),intV 0],Q4 Xo c (λ_=>none),Q4 Xo b (λ_=>none),Q4 Xo a (λ_=>none),F]):Sat w [Xv p emptyW,F]:=by
  refine ZY ⟨a,b,c⟩ ⟨λn p s h=>by cases h⟩ ?_;have d:=h.pull 2 U;dsimp only[List.eraseIdx]at d;have f:Sat w (Q4 Xo b (Z2 [])::starL ([].map (Yc emptyW.objs))::_):=(Sat.fold (As:=[]) d).perm (List.Perm.swap _ _ _);have g:=MX [] ⟨by simp,λn=>by simp [emptyW]⟩ f;have e:=g.reorder [1,3,0,2,4] U;dsimp only[Yu,Ub]at e;show Sat w [Q6 p _,Q4 Xo a (XD (λ_=>[])),GA b _,Q4 Xo c (XD (λ_=>[])),F];rw[P4];exact e
theorem new_sp {F:Th} (a:Sat w [F]):
    Calls prog 6 #[] w (Ret λv w'=> ∃p,v=ptrV p 0/\Sat w' [Xv p emptyW,F]):=by
 refine Qn func6 U ntmps6 U ?_;refine Qe<|Qa<|Qd U U<|Qf<|Qc<|Qe<|Qa<|XS Xo a U ?_;intro b1 f b;refine XS Xo b U ?_;intro b2 w2 c;refine XS Xo c U ?_;intro b3 g d;refine Zj U SB asz_64 zr_64 U U<|XL d U U U ?_;intro h i e;exact Qd U U (Qf (Qc (Qu (QJ (.inr U) U U (⟨_,U,_,U,qcv e⟩)))))
theorem Pm {F:Th} (a:Sat w [Xv p W,F]) (k:Bs):
    Calls prog 38 #[ptrV p 0,strV k] w (Ret λv w'=>v=strV (W.cells k)/\Sat w' [Xv p W,F]):=by
 obtain⟨LL,b,a⟩:=ZJ a;refine Qn func38 U ntmps38 U ?_;exact Qe (Qa (Qd U U (Qf (Qc (Qe (Qa (Qb U U (Qj U U (Qg U DY U (Qo U JX (a.cell 0 U U) U (Qb U U (Xf 1 a keysStr underlying61 U U U R5 (Gd W.cells k) U (Qd U U (Qf (Qc (Qu (QJ (.inr U) U U (⟨_,U,U,ZY LL b a⟩))))))))))))))))))
def Rn (W:WS) (k x:Bs):WS:={W with cells:=Um W.cells k x}
theorem NU {F:Th} (a:Sat w [Xv p W,F]) (k x:Bs) (l:k.length<=281474976710656) (j:x.length<=281474976710656):
    Calls prog 68 #[ptrV p 0,strV k,strV x] w (Ret λv w'=>v= .tuple #[]/\Sat w' [Xv p (Rn W k x),F]):=by
 obtain⟨LL,f,a⟩:=ZJ a;refine Qn func68 U ntmps68 U ?_;refine Qe<|Qe<|Qa<|Qb U U<|YB U U U<|Qf<|Qc<|Qs U (λd=> ?_) (λd=> ?_)
 ·have e:x=[]:=d;refine Qe<|Qa<|Qb U U<|Qj U U<|Qg U DY U<|Qo U JX (a.cell 0 U U) U<|Qb U U<|Wf (k:=k) 1 a keysStr underlying61 U U U U ?_;intro w2 g;dsimp only[List.set]at g;refine Qf<|Qc<|Qu<|Qq<|Zb (.inr U) U ?_;exact⟨_,rfl,rfl,ZY LL f (by rw[show(Rn W k x).cells=Um W.cells k []by rw[Rn,e],<-LS];exact g)⟩
 have e:x≠[]:=d;refine Qt<|Qc ?_;have h:=a.drew;refine Q7 [0,1,2,3,4,6,5,7,8] [5,7,8] Z9 (by kernel_rfl) ?_;refine Q3 U U U<|QP U U U<|QG U U U DY<|Q0 U U U (Ql U JX (h.cell 0 U U))<|Q3 U U U<|Q3 U U U<|QO U U U U U U ?_;refine Qw Gf U (Uj (h.sp [] U) _ (by assumption)) U ?_;rintro _ m ⟨rfl,b⟩;replace b:=b.jn U U;refine Xh (.cons (.inl ⟨U,(Ql U JX (b.cell 0 U U))⟩) .nil)<|QO U U U U U U ?_;refine Qw Gf U (Uj (b.sp [] U) _ (by assumption)) U ?_;rintro _ n ⟨rfl,c⟩;replace c:=c.jn U U;refine Xh (.cons (.inl ⟨U,(Ql U JX (c.cell 0 U U))⟩) .nil)<|QO U U U U U U ?_;refine QT (k:=k) 1 c keysStr underlying61 U U U U ?_;intro o i;dsimp only[List.set]at i;refine Zc (Xd (by kernel_rfl)) ?_;refine VC.nil (Zb (.inl U) U ?_);exact⟨_,rfl,rfl,ZY LL f (by rw[show(Rn W k x).cells=Um W.cells k x from rfl,<-TL e];exact i)⟩
def Cn (W:WS) (k x:Bs):WS:= if x=[]then W else{W with logs:=Um W.logs k (W.logs k++x)}
theorem log_sp {F:Th} (b:Sat w [Xv p W,F]) (k x:Bs) (h:k.length<=281474976710656) (i:(W.logs k).length+x.length<=281474976710656):
    Calls prog 73 #[ptrV p 0,strV k,strV x] w (Ret λv w'=>v= .tuple #[]/\Sat w' [Xv p (Cn W k x),F]):=by
 obtain⟨LL,e,b⟩:=ZJ b;refine Qn func73 U ntmps73 U ?_;refine Qe<|Qa<|Qb U U<|KE U U U<|Qf<|Qc<|Qs U (λd=> ?_) (λd=> ?_)
 ·have c:x≠[]:=d;have f:=b.drew;refine Q7 [0,1,2,3,4,7,5,6,8,9] [5,9] Z9 (by kernel_rfl) ?_;refine Q3 U U U<|QP U U U<|QG U U U Ae<|Q0 U U U (Ql U JX (f.cell 0 U U))<|Q3 U U U<|Q3 U U U<|QO U U U U U U ?_;refine Qw Gf U (Uj (f.sp [] U) _ (by assumption)) U ?_;rintro _ j ⟨rfl,a⟩;replace a:=a.jn U U;refine Xh (.cons (.inl ⟨U,(Ql U JX (a.cell 0 U U))⟩) .nil)<|Q0 U U U (X4 (k:=k) 3 a keysStr underlying61 U U U R5 (Gd W.logs k))<|Xi U U U (λ_=>(HN U U (by omega))) ?_;refine QO U U U U U U ?_;refine QT (k:=k) 3 a keysStr underlying61 U U U U ?_;intro l g;dsimp only[List.set]at g;refine Zc (Xd (by kernel_rfl)) ?_;refine VC.nil (Zb (.inl U) U ?_);exact⟨_,rfl,rfl,by rw[Cn,if_neg c];refine ZY (W:={W with logs:=Um W.logs k (W.logs k++x)}) LL e ?_;rw[show XD (Um W.logs k (W.logs k++x))=_ from(TL (by simp [c])).symm];exact g⟩
 have c: ¬x≠[]:=d;refine Qt<|Zb (.inl U) U ?_;exact⟨_,rfl,rfl,by rw[Cn,if_pos (Decidable.not_not.1 c)];exact ZY LL e b⟩
theorem IB {F:Th} (a:Sat w [Xv p W,F]) (n:Int) (d:0<=W.time) (e:W.time+max n 0<=9223372036854775807):
    Calls prog 74 #[ptrV p 0,intV n] w (Ret λv w'=>v= .tuple #[]/\Sat w' [Xv p {W with time:=W.time+max n 0},F]):=by
 obtain⟨LL,c,a⟩:=ZJ a;refine Qn func74 U ntmps74 U ?_;refine Qa<|Qb U U<|Qj U U<|Qg U DX U<|Qo U QL (a.cell 0 U U) U<|Qb U U<|Jn U U U<|QE U U (by omega) (by omega) U ?_;refine Qj U U<|Qg U DX U ?_
 first | (refine QK a U U YD (by rfl) (i:=0) U (Xk U) ?_)
 intro f b;dsimp only[List.set]at b;exact Qf (Zb (.inl U) U (⟨_,U,U,ZY (W:={W with time:=W.time+max n 0}) LL c b⟩))
theorem qbm {F:Th} (a:Sat w [Xv p W,F]):
    Calls prog 75 #[ptrV p 0] w (Ret λv w'=>v=intV W.time/\Sat w' [Xv p W,F]):=by
 obtain⟨LL,b,a⟩:=ZJ a;refine Qn func75 U ntmps75 U ?_;exact Qe (Qa (Qd U U (Qf (Qc (Qe (Qa (Qb U U (Qj U U (Qg U DX U (Qo U QL (a.cell 0 U U) U (Qd U U (Qf (Qc (Qu (QJ (.inr U) U U (⟨_,U,U,ZY LL b a⟩))))))))))))))))
theorem qd2 {F:Th} (a:Sat w [Xv p W,F]):
    Calls prog 37 #[ptrV p 0] w (Ret λv w'=>v=intV W.time/\Sat w' [Xv p W,F]):=by
 obtain⟨LL,b,a⟩:=ZJ a;refine Qn func37 U ntmps37 U ?_;exact Qe (Qa (Qd U U (Qf (Qc (Qe (Qa (Qb U U (Qj U U (Qg U DX U (Qo U QL (a.cell 0 U U) U (Qd U U (Qf (Qc (Qu (QJ (.inr U) U U (⟨_,U,U,ZY LL b a⟩))))))))))))))))
theorem Sh {F:Th} (b:Sat w [F]) (i:Int):
    Calls prog 117 #[intV i] w (Ret λv w'=>v= .bool (decide (0<=i/\i<16384))/\Sat w' [F]):=by
 refine Qn func117 U ntmps117 U ?_;refine Qe<|Qa<|Qd U U<|Qf<|Qc<|Qe<|Qa<|Qb U U<|WU U U U<|Qb U U<|QZ 5 U (λa=> ?_) (λa=> ?_)
 ·refine Qk U U (det a)<|Qb U U<|Qk U U (det a)<|Xa U U U<|QF U (det a) U U<|Qd U U<|Qf<|Qc<|Qu<|QJ (.inr U) U U ?_;exact⟨_,rfl,by congr 1;(simp;omega),b⟩
 refine Qi U U (QH a) U<|Qi U U (QH a) U<|Q9 U (QH a) U U<|Qd U U<|Qf<|Qc<|Qu<|QJ (.inr U) U U ?_;exact⟨_,rfl,by congr 1;(simp;omega),b⟩
section
variable {P:Program} {n:Nat} {ops:Array Oper} {Q:Exit→Act→World→Prop} {rest:List Oper} {L:Env} {w:World} {d:Nat} {ty:TypeId} {pos:String} {aft:Array Edge} {As:List Th} {T e b:Nat} {cs:List Value}
theorem Dj (l:List UInt8):Lib.strCells ⟨l.toArray⟩=byC.cells l:=by
  rw[Rh];simp [Lib.strCells,Zw]
theorem FV {t t2:TypeId} {s x:Operand} {bs l2:List UInt8} (i:Nat) (S:Sat w As) (hi:As[i]? =some (Rq e v bs)) (T:M.look L s=some v) (V:M.look L x=some (strV l2)) (W:P.underlying t=some (.slice e)) (u:P.underlying t2=some .string)
    (y:(P.info? e).map (λi=>(i.zero,i.size,i.bytes))=some (some (.int .u8 0),1,1)) (hm:bs.length+l2.length<=140737488355328) (hd:Nat.blt d n=true)
    (D: ∀v' w',Sat w' (As.set i (Rq e v' (bs++l2)))->wl P n ops Q rest ((d,v')::L) w'):wl P n ops Q (⟨some d,.call ⟨.builtin .append, #[s,x], #[t,t2]⟩,ty,pos,aft,none⟩::rest) L w:=by
  obtain⟨l,z⟩:=S.buf i hi;obtain⟨foot,X,c⟩:=MU l;obtain⟨inf,E,G,H,I⟩:=info_parts y;have f:(⟨l2.toArray⟩:ByteArray).size=l2.length:=by simp [ByteArray.size]
  refine XI U hd (R:= λv w'=>Sat w' (As.set i (Rq e v (bs++l2)))) (λa C=> ?_) (λv w' Y=>D v w' Y)
  obtain⟨v1,A,B,foot',o1,o2,o3,_⟩:=Kv (P:=P) (o:=⟨some d,.call ⟨.builtin .append, #[s,x], #[t,t2]⟩,ty,pos,aft,none⟩) (a:=a) t t2 s x rfl (C.eval T) (C.eval V) X W u (by intro k D;cases D) y rfl (by decide) (m:=l2.length) (news:=byC.cells l2)
    (λA=>by simp [strV,Builtin.lenOf,f]) (λA _=>by have :=Lib.run_firstCells_string (P:=P) A 1 ⟨l2.toArray⟩;rw[f,Dj]at this;exact this) (byC.cells_len l2) (Jm (byC.cells_one l2)) (by omega) (by omega)
  obtain⟨v2,w2,J,g,_,p⟩:=Lib.run_append_own_string (P:=P) w 0 t t2 ty e inf W u E G H I v bs.length (byC.cells bs) l ⟨l2.toArray⟩ (by rw[f];unfold maxLen;omega) (by rw[f];omega) (Nat.zero_le _);rw[f]at g p
  have r:(execOp a.eval ⟨some d,.call ⟨.builtin .append, #[s,x], #[t,t2]⟩,ty,pos,aft,none⟩).run P w= .ok (.value v2) w2:=by
    have K:(Builtin.append_ #[t,t2] ty #[v,strV l2]).run P w= .ok v2 w2:=J;simp [execOp,C.eval T,C.eval V,resolve,invoke,builtin,K]
  have N:v1=v2/\A=w2:=by
    rcases B with h | ⟨h,_⟩
    · rw[r]at h;cases h;exact⟨rfl,rfl⟩
    · rw[r]at h;cases h
  obtain⟨rfl,rfl⟩:=N;refine⟨v1,A,.inl r, ?_⟩
  have j: ∀k,v1.ownBlock=some k->k∈foot':=by
    intro k b;obtain⟨_,⟨O,_,_⟩ | ⟨b1,c1,s1,O,_,_,_,rfl⟩⟩:=o1
    · rw[O]at b;cases b
    · rw[O]at b;simp [Value.ownBlock]at b;simp [b]
  refine S.step i hi λF ⟨eF,_⟩=>⟨λk=>v1.ownBlock=some k,⟨rfl, ?_,λq=> ?_⟩,λk b=> ?_,o2.agree λk b=> ?_⟩
  · rw[List.length_append,<-RowC.cells_app,<-Dj l2];exact g
  · obtain⟨Z,q2⟩:=List.append_eq_nil_iff.1 q;exact p.2 ⟨z Z,by rw[q2];rfl⟩
  · rcases o3 k (j k b)with q | q
    · exact .inl (by rw[eF];exact(c k).1 q)
    · exact .inr q
  · exact .inl (by rw[eF];exact(c k).1 b)
end
theorem ne1: (Tryz.f181.name == "runtime.NumGoroutine") = false := by kernel_rfl
theorem ne2:Tryz.f181.body.isNone=true:=by kernel_rfl
theorem ne3:Extern.findNext Tryz.f181=none:=by kernel_rfl
theorem ne4:Extern.find Tryz.f181=some Extern.AbiNoEscape.same:=by kernel_rfl
theorem bl_info:(prog.info? 125).map (λj=>decide (j.size≠0))=some true:=by kernel_rfl
theorem bl_lies:liesAt prog prog.depth 125 (2/ prog.cellsOf 125) 0 125 1=true:=by kernel_rfl
theorem Oc:prog.cellsOf 5=1:=by kernel_rfl
theorem Ob: ∃j,prog.info? 125=some j/\j.size≠0:=by
  have h:=bl_info;cases a:prog.info? 125 with
  | none=> rw[a]at h;cases h
  | some j=> rw[a]at h;exact⟨j,rfl,by simpa using h⟩
theorem qaf {F:Th} (a:Sat w [Yi 125 b [.pointer none,v],F]):
    Calls prog 127 #[ptrV b 0] w (Ret λu_ w'=>u_= .tuple #[]/\Sat w' [Yi 125 b [ptrV b 0,v],F]):=by
 obtain⟨j,d,c⟩:=Ob;refine Qn func127 U ntmps127 U ?_;refine Qe<|Qa<|Qb U U<|Qj U U<|Qg U GP U<|Qo U Eb (a.tcell 0 U (o:=0) U) U<|Ya underlying122 U U U<|Qf<|Qc<|Xm U<|Qa<|Qb U U<|Qb U U<|Sd U underlying122 underlying242 d c (a.tshape 0 U) (by simp) U ?_;refine FT func181 ne1 ne2 ne3 ne4 U U ?_;refine Cf U underlying242 underlying122 d (a.tshape 0 U) bl_lies U<|Qj U U<|Qg U GP U<|Bw a U U sz_122 (by rfl) (i:=0) U (by simp) ?_;intro f e;dsimp only[List.set]at e;exact Qf (Zb (.inl U) U (⟨_,U,U,e⟩))
theorem qae {F:Th} (a:Sat w [Yi 125 b [ptrV b 0,v],F]):
    Calls prog 127 #[ptrV b 0] w (Ret λu_ w'=>u_= .tuple #[]/\Sat w' [Yi 125 b [ptrV b 0,v],F]):=by
 obtain⟨j,c,d⟩:=Ob;refine Qn func127 U ntmps127 U ?_;exact Qe (Qa (Qb U U (Qj U U (Qg U GP U (Qo U Eb (a.tcell 0 U (o:=0) U) U (XG underlying122 U U U (Qf (Qc (QM U (Qe (Qa (Qb U U (Qj U U (Qg U GP U (Qo U Eb (a.tcell 0 U (o:=0) U) U (Qb U U (Ce underlying122 c U U U (Qf (Qc (Qh [19] U (QM U (Qt (Zb (.inl U) U (⟨_,U,U,a⟩))))))))))))))))))))))))
def K2 (b:Nat) (bs:Bs):Th:=Cp λq:Value×Value=>starL [WH (q.1= .pointer none\/q.1=ptrV b 0),Yi 125 b [q.1,q.2],Rq 5 q.2 bs]
theorem UW (h:Sat w (K2 b bs::As)): ∃p v,(p= .pointer none\/p=ptrV b 0)/\Sat w (Yi 125 b [p,v]::Rq 5 v bs::As):=by
  obtain⟨⟨p,v⟩,h⟩:=h.ex;obtain⟨a,c⟩:=h.flat.pure_elim;exact⟨p,v,a,c⟩
theorem HP {p:Value} (a:p= .pointer none\/p=ptrV b 0) (h:Sat w (Yi 125 b [p,v]::Rq 5 v bs::As)):Sat w (K2 b bs::As):=
  Sat.ex_intro (p,v) (Sat.fold (As:=[WH _,Yi 125 b [p,v],Rq 5 v bs]) (Sat.pure_intro a h))
theorem FB {p:Value} {F:Th} (c:p= .pointer none\/p=ptrV b 0) (a:Sat w [Yi 125 b [p,v],F]):Calls prog 127 #[ptrV b 0] w (Ret λu w'=>u= .tuple #[]/\Sat w' [Yi 125 b [ptrV b 0,v],F]):=by
  rcases c with rfl | rfl
  · exact qaf a
  · exact qae a
theorem TS {e:Nat} (h:Sat w As):Sat w (Rq e (.slice none 0 0) []::As):=
  h.new (Only.refl [] w) (A:=Rq e (.slice none 0 0) []) (F':= λk=>Value.ownBlock (.slice none 0 0)=some k) ⟨rfl,World.ownsRow_nil w 0 e 1,λ_=>rfl⟩ (by simp [Value.ownBlock])
theorem YU {F:Th} (d:Sat w [K2 b bs,F]) (c:UInt8) (k:bs.length<=70368744177663):
    Calls prog 85 #[ptrV b 0,XV c] w (Ret λv w'=>v= .nilIface/\Sat w' [K2 b (bs++[c]),F]):=by
 obtain⟨p,v,j,d⟩:=UW d;refine Qn func85 U ntmps85 U ?_;refine Qe<|Qa<|Qd U U<|Qf<|Qc<|Qe<|Qa<|Qb U U<|Qw AO U (FB j (d.sp [0] U)) U ?_;rintro _ l ⟨rfl,a⟩;replace a:=a.jn U U;refine Qf<|Qc<|Qe<|Qa<|Qb U U<|Qb U U<|Qj U U<|Qg U YS U<|Qo U V8 (a.tcell 0 U (o:=1) U) U<|Qb U U<|X8 byC [c] a U underlying123 ifz_5 U U U U (by rfl) rfl ?_;intro b2 w2 f;refine Oy 2 f U U U (f.rd 0 U (by simp)) (by simp) underlying123 U ifo_5 U (by simp;omega) (by simp;omega) U ?_;intro v3 m e;dsimp only[List.set]at e;obtain⟨_,_,_,g,_⟩:=e.bufv 2 rfl;refine Qj U U<|Qg U YS U<|Bw e U U qbj (by assumption) (i:=1) U (by simp) ?_;intro n h;dsimp only[List.set]at h;exact Qf (Qc (Qh [4] U (Qe (Qa (Qd U U (Qf (Qc (Qu (QJ (.inr U) U U (⟨_,U,U,HP (.inr U) (h.pick [1,2,3] U)⟩))))))))))
theorem K3 {F:Th} (c:Sat w [K2 b bs,F]) (s:Bs) (h:bs.length+s.length<=70368744177663):
    Calls prog 216 #[ptrV b 0,strV s] w (Ret λv w'=>v= .tuple #[intV (s.length:Int),.nilIface]/\Sat w' [K2 b (bs++s),F]):=by
 obtain⟨p,v,g,c⟩:=UW c;refine Qn func216 U ntmps216 U ?_;refine Qe<|Qa<|Qd U U<|Qd U U<|Qf<|Qc<|Qe<|Qa<|Qb U U<|Qw AO U (FB g (c.sp [0] U)) U ?_;rintro _ j ⟨rfl,a⟩;replace a:=a.jn U U;refine Qf<|Qc<|Qe<|Qa<|Qb U U<|Qb U U<|Qj U U<|Qg U YS U<|Qo U V8 (a.tcell 0 U (o:=1) U) U<|Qb U U<|FV 1 a U U U underlying123 underlying9 ifo_5 (by omega) U ?_;intro v2 w2 d;dsimp only[List.set]at d;obtain⟨_,_,_,e,_⟩:=d.bufv 1 rfl;refine Qj U U<|Qg U YS U<|Bw d U U qbj (by assumption) (i:=0) U (by simp) ?_;intro k f;dsimp only[List.set]at f;exact Qf (Qc (Qh [1,4,5] U (Qe (Qa (Qb U U (WD underlying9 U U (Qd U U (Qd U U (Qf (Qc (Qu (Jt (.inr U) U U U (⟨_,U,U,HP (.inr U) (f.pick [0,1,2] U)⟩)))))))))))))
theorem N7 {F:Th} (a:Sat w [K2 b bs,F]) (i:bs.length<=70368744177663):
    Calls prog 86 #[ptrV b 0] w (Ret λv w'=>v=strV bs/\Sat w' [F]):=by
 obtain⟨p,v,j,a⟩:=UW a;obtain⟨ao,cap,rfl,f,g⟩:=a.bufv 1 rfl;have d:ao=none\/cap≠0:=by rcases g with⟨h,_⟩ | ⟨_,_,h,_⟩;exact .inl h;exact .inr h
 refine Qn func86 U ntmps86 U ?_;refine Qe<|Qa<|Qd U U<|Qf<|Qc<|Qe ?_;have c:=a.drew;refine Q7 [0,1,2,3,5,6,7,8,9,4,10,11] [4,10] Z9 (by kernel_rfl) ?_;refine Q3 U U U<|QP U U U<|QG U U U YS<|Q0 U U U (Ql U V8 (c.tcell 0 U (o:=1) U))<|Q3 U U U<|QP U U U<|QG U U U YS<|Q0 U U U (Ql U V8 (c.tcell 0 U (o:=1) U))<|Xi U U U (λ_=>(YT underlying123 U)) ?_;refine QO U U U U U U ?_;refine Gl U d U<|Xh (.cons (.inl ⟨rfl,(Ql U V8 (c.tcell 0 U (o:=1) U))⟩) (Xd (by kernel_rfl))) ?_;refine QO U U U U U U ?_;refine D3 1 c U U U underlying196 Oc (by omega) U ?_;intro w2 e;dsimp only[List.eraseIdx]at e;refine Xh (Xd (by kernel_rfl)) ?_;exact Zd U U U (VC.nil (Qc (Qh [2] U (Qu (QJ (.inr U) U U (⟨_,U,U,e.tail⟩))))))
end Go.Proofs.YtifaibmhinlcfaaGreatDoor
namespace Go.Proofs.YtifaibmhinlcfaaGreatDoor.M
open Go.RowKit Proofs.Tryz
variable {D d id t:Nat} {R:Ending→World→Prop} {a:Act} {aft:Array Edge} {args:Array Value} {bs:List UInt8} {rec:Loop} {rest:List Oper} {ty:TypeId} {v:Value} {x y:Operand} {κ:Type}
theorem Gy {α:Type} {l:List α} {i:Nat} {a:α} (h:l[i]? =some a):l.set i a=l:=by
  apply List.ext_getElem?;intro j;by_cases e:i=j
  · subst e;rw[List.getElem?_set_self (Za h).1,h]
  · rw[List.getElem?_set_ne e]
def Be (e:Nat) (v:Value) (bs:List UInt8):Th where
  at_:= λw F=>(F= λk=>v.ownBlock=some k)/\((v= .slice none 0 0/\bs=[])\/ ∃g cap cur fz,v= .slice (some ⟨g,0,none⟩) bs.length cap/\bs≠[]/\cap≠0/\w.heap[g]? =some (.cells cur e fz)/\bs.length<=cur.size/\cur.toList.take bs.length=byC.cells bs)
  fr:= λ{w w' F} a ⟨b,h⟩=>⟨b,by
    rcases h with h | ⟨g,cap,cur,fz,f,i,j,c,l⟩
    · exact .inl h
    · exact .inr ⟨g,cap,cur,fz,f,i,j,by rw[a.blk _ (by rw[b,f];rfl)];exact c,l⟩⟩
  lt:= λ{w F} ⟨b,h⟩ k d=>by
    rw[b]at d;rcases h with⟨rfl,_⟩ | ⟨g,cap,cur,fz,rfl,_,_,c,_⟩
    · simp [Value.ownBlock]at d
    · simp only[Value.ownBlock,Option.some.injEq]at d;subst d;rcases Nat.lt_or_ge g w.heap.size with q | q
      · exact q
      · rw[Array.getElem?_eq_none q]at c;cases c
section
variable {P:Program} {n:Nat} {ops:Array Oper} {Q:Exit→Act→World→Prop} {rest:List Oper} {L:Env} {w:World} {d:Nat} {ty:TypeId} {pos:String} {aft:Array Edge} {As:List Th} {T e b:Nat} {cs:List Value}
theorem Sat.bufZ_of (h:Sat w (Rq e v bs::As)):Sat w (Be e v bs::As):=by
  obtain⟨F,F1,F2,rfl,dj,⟨d,⟨k,f⟩,i⟩,j⟩:=h;refine⟨_,F1,F2,U,dj,⟨d, ?_⟩,j⟩;by_cases a:bs=[]
  · exact .inl ⟨i a,a⟩
  · rcases f with⟨_,b⟩ | ⟨g,cap,cur,rfl,_,b,l,_,m,c⟩
    · exact absurd (List.eq_nil_of_length_eq_zero b) a
    · have n:0<bs.length:=List.length_pos_iff.2 a;exact .inr ⟨g,cap,cur,(0,0),rfl,a,by omega,b,by omega,by rw[Nat.mul_one]at c;exact c⟩
theorem Sat.bufZv (h:Sat w As) (i:Nat) (hi:As[i]? =some (Be e v bs)): ∃ao cap,v= .slice ao bs.length cap/\v.oneCell'=true/\(ao=none\/cap≠0):=by
  obtain⟨F,_,h⟩:=h.get i hi;rcases h with⟨rfl,rfl⟩ | ⟨g,cap,cur,fz,rfl,_,a,_⟩
  · exact⟨none,0,U,U,.inl U⟩
  · exact⟨_,cap,U,U,.inr a⟩
theorem Bv {ao:Option Addr} {cap pt it:Nat} (i:Nat) (z:Sat w As) (hi:As[i]? =some (Be e (.slice ao bs.length cap) bs)) (O:look L x=some (.pointer ao)) (S:look L y=some (.int .i64 (bs.length:Int))) (T:P.underlying pt=some (.pointer e)) (U:P.cellsOf e=1) (m:bs.length<=9223372036854775807) (hd:Nat.blt d n=true)
    (o: ∀w',Sat w' As->wl P n ops Q rest ((d,strV bs)::L) w'):wl P n ops Q (⟨some d,.call ⟨.builtin .unsafeString, #[x,y], #[pt,it]⟩,ty,pos,aft,none⟩::rest) L w:=by
  have V: ∃w',(Builtin.unsafeString_ #[pt,it] ty #[.pointer ao,.int .i64 bs.length]).run P w= .ok (strV bs) w'/\Sat w' As:=by
    obtain⟨F,e1,h⟩:=z.get i hi;rcases h with⟨r,rfl⟩ | ⟨g,cap',cur,fz,r,A,_,b,W,J⟩
    · simp only[Value.slice.injEq,List.length_nil,true_and]at r;obtain⟨rfl,_⟩:=r;exact⟨w,Lib.run_unsafeString_none w pt it ty none,z⟩
    · simp only[Value.slice.injEq,true_and]at r;obtain⟨rfl,rfl⟩:=r;refine⟨w.freeze ⟨g,0,none⟩ bs.length,Lib.run_unsafeString_row w pt it ty e T U g cur.size (by simp [World.shape?,b]) bs A (by omega) m ?_, ?_⟩
      · intro j c K;rw[Wx];simp only[Nat.zero_add];rw[Lib.cell_of_heap b];have D:=(Za K).1
        have :(byC.cells bs)[j]? =some (.int .u8 (c.toNat:Int)):=by
          have :=RowC.cells_at (C:=byC) (l:=bs) (j:=j) K;have X:=congrArg (λq=>q[0]?) this
          simpa [byC,List.getElem?_take,List.getElem?_drop]using X
        rw[<-J,List.getElem?_take,if_pos D]at this
        simpa using this
      · have Y:g<w.heap.size:=by
          rcases Nat.lt_or_ge g w.heap.size with q | q
          · exact q
          · rw[Array.getElem?_eq_none q]at b;cases b
        have s:bs.length≠0:= λq=>A (List.eq_nil_of_length_eq_zero q)
        have f: ∃fz',(w.freeze ⟨g,0,none⟩ bs.length).heap[g]? =some (.cells cur e fz'):=by
          unfold World.freeze;rw[if_neg s];obtain⟨lo,t⟩:=fz;refine⟨if lo==t then(0,0+bs.length)else(min lo 0,max t (0+bs.length)), ?_⟩;simp only[Array.getElem?_modify,if_true,b,Option.map_some]
        obtain⟨fz',f⟩:=f;have E:=z.step i hi (w':=w.freeze ⟨g,0,none⟩ bs.length) (A':=Be e (.slice (some ⟨g,0,none⟩) bs.length cap) bs) λF0 G=> ?_
        · rwa [Gy hi]at E
        · have M:=G.1;have H:=Lib.below_freeze (B:=0) (Below.refl 0 w) (p:=⟨g,0,none⟩) (Nat.zero_le _) bs.length;refine⟨F0,⟨M,.inr ⟨g,cap,cur,fz',rfl,A,by assumption,f,W,J⟩⟩,λk o=> .inl o,H.os,H.tape,H.output,λk o=> ?_⟩
          have I:k≠g:=by
            rintro rfl;exact o.2 (by rw[M];rfl)
          unfold World.freeze;rw[if_neg s];simp only[Array.getElem?_modify];rw[if_neg (λq=>I q.symm)]
  obtain⟨w',Z,h2⟩:=V;refine XI rfl hd (R:= λv u=>v=strV bs/\u=w') (λa N=>⟨_,_,.inl ?_,rfl,rfl⟩) (by rintro _ _ ⟨rfl,rfl⟩;exact o _ h2);simp [execOp,N.eval O,N.eval S,resolve,invoke,builtin,Z]
end
section
variable {P:Program} {n m l:Nat} {ops:Array Oper} {Q:Exit→Act→World→Prop} {L:Env} {w:World}
abbrev RF (l:Nat):Fence:=Fence.wide.inRound l
theorem Cv {f:FuncId} (h:Calls P f args w R):CallsIn (RF l) m P f args w R:=(callsIn_wide (n:=m)).2 h
theorem NT {row:String} {R:Value->World->Prop} (h:Rows P row args w R):RowsIn (RF l) m P row args w R:= λc cs _=>by
  obtain⟨v,w',r,s⟩:=h c cs;exact⟨v,w',r,stepsIn_wide.2 s⟩
theorem Mz {o:Oper} {next:Act->World->Prop} {r:Result Next} (h:o.upon P a next Q r):o.uponIn (RF l) m P a next Q r:=by
  unfold Oper.upon at h;split at h
  · exact h
  · exact h
  · exact h
  · exact⟨λq=>by simp [RF,Fence.wide,Fence.inRound]at q,Cv h⟩
  · exact⟨λq=>by simp [RF,Fence.wide,Fence.inRound]at q,NT h⟩
  · exact h
  · exact h.elim
def DP (rest:List Oper):Prop:= ∀o∈rest,∀c,o.op≠ .defer c
theorem J4 (f: ¬LetsOut Q): ∀(rest:List Oper) (a:Act) (w:World),DP rest->wpList P ops Q rest a w->wpListIn (RF l) m P ops Q rest a w
  | [],_,_,_,h=>h
  | o::rest,a,w,hd,h=>by
    unfold wpList at h;unfold wpListIn;have g:DP rest:= λq j=>hd q (List.mem_cons_of_mem _ j);split
    · rename_i i;rw[if_pos i]at h;rcases h with h | h
      · refine⟨λ_ _=>trivial, ?_⟩;rw[Oper.semAt_eq _ _ _ (hd o (by simp))];have b:=Mz (l:=l) (m:=m) h
        revert b
        generalize (execOp a.eval o).run P w=r;intro b;unfold Oper.uponIn at b⊢;split at b
        · exact J4 f rest _ _ g b
        · exact J4 f rest _ _ g b
        · exact J4 f rest _ _ g b
        · refine⟨b.1,b.2.mono λe w' d=> ?_⟩;cases e with
          | returned v=> exact J4 f rest _ _ g d
          | panicked c=> exact d
          | outgrown=> exact d
        · exact⟨b.1,b.2.mono λv w' d=>J4 f rest _ _ g d⟩
        · refine⟨b.1,b.2.mono λe w' d=> ?_⟩;cases e with
          | returned v=> exact J4 f rest _ _ g d
          | panicked c=> exact d
          | outgrown=> exact d
        · exact b
        · exact b.elim
      · exact absurd h.2 f
    · rename_i i;rw[if_neg i]at h;exact⟨λ_ _=>trivial,J4 f rest _ _ g h⟩
theorem Mn {x:Value} {idA idB idR:Nat} {opsA opsR:Array Oper} {L0:Env} {R:World->Prop}
    (d:w.heap[l]? =some (.loop rec)) (b:rec.state= .ready) (f:rec.pending=none) (g:rec.params= #[t]) (has:rec.assign= .region idA opsA false) (j:rec.body= .block idB (.region idR opsR false)) (k:rec.tmps.size=n)
    (o: ∀t v,Xy L0 t=some v->rec.tmps[t]? =some v) (B:Nat.blt t n=true) (p:DP opsA.toList) (r:DP opsR.toList)
    (h: ∀QA:Exit->Act->World->Prop,
      (∀L1 i,i.heap[l]? =some (.loop rec)->(∀QB:Exit->Act->World->Prop,(∀L2 w2,w2.heap[l]? =some (.loop {rec with state:= .busy})->R (w2.putObj l (.loop rec))->qs n QB .normal L2 w2)->wl P n opsR QB opsR.toList L1 (i.putObj l (.loop {rec with state:= .busy})))->qs n QA .normal L1 i)->
      wl P n opsA QA opsA.toList ((t,x)::L0) w):
    YieldAt Fence.wide m P l #[x] w (λe w'=>e= .returned (.bool true)/\R w'):=by
  refine⟨rec.fn,rec.tmps.setIfInBounds t x,rec.assign,rec.body, ?_,roundIn_of_wpIn trivial ?_⟩
  · have :=run_yield (P:=P) (args:= #[x]) d (by simp [g])
    simpa [g]using this
  · have z:=h (Exit.then (λa₁ w₁=> ∃w₂,(Instr.beginRound l).run P w₁= .ok () w₂/\rec.body.wpIn (RF l) m P (roundPost P l λe w'=>e= .returned (.bool true)/\R w') a₁ w₂) (λ_ _ _=>False)) ?_
    · unfold wl at z;have s:Fr n L0 {tmps:=rec.tmps,defers:=[]}:=⟨k,rfl,o⟩;have C:=z _ (s.put (some t) x B);rw[has];exact wpIn_region_list (J4 (by rintro⟨a,w,q⟩;exact q) _ _ _ p C)
    · intro L1 i u D;unfold qs;intro a E;refine⟨_,run_beginRound u b, ?_⟩;have key: ∀c:Code,c= .block idB (.region idR opsR false)->c.wpIn (RF l) m P (roundPost P l λe w'=>e= .returned (.bool true)/\R w') a (i.putObj l (.loop {rec with state:= .busy})):= ?_
      · exact key _ j
      rintro _ rfl;refine wpIn_block (wpIn_region_list ?_);have A:=D (Exit.inBlock idB (roundPost P l λe w'=>e= .returned (.bool true)/\R w')) ?_
      · unfold wl at A;exact J4 (by rintro⟨a,w,q⟩;exact q) _ _ _ r (A a E)
      · intro L2 w2 y F;unfold qs;intro G _;refine⟨_,_,run_endRound none y,U, ?_⟩
        have e:({{rec with state:= .busy}with state:= if(none:Option Code).isNone then .ready else .done,pending:=none}:Loop)=rec:=by
          cases rec;simp at b f;subst b f;rfl
        rw[e];exact F
theorem H4 {g:Operand} {ps:Array Tmp} {assign body:Code} {gf:Nat} {caps:List Value} (i:look L g=some (.func (.func gf) #[] caps.toArray)) (j:Q8 P gf=true)
    (h: ∀rec:Loop,rec.state= .ready->rec.pending=none->rec.params=ps->rec.assign=assign->rec.body=body->rec.tmps.size=n->(∀t v,Xy L t=some v->rec.tmps[t]? =some v)->
      Calls P gf (Value.func (.yield (w.heap.size+1)) #[] #[]::caps).toArray ((w.alloc (.deferred (some []))).alloc (.loop rec)) (λe d=>(∃v,e= .returned v)/\ ∃rec':Loop,d.heap[w.heap.size+1]? =some (.loop rec')/\rec'.state≠ .busy/\rec'.pending=none/\
        ∀a:Act,a.tmps=rec.tmps->a.defers=[{target:= .collected w.heap.size,args:= #[]}]->Q .normal a (d.putObj (w.heap.size+1) (.loop {rec' with state:= .exhausted})))):
    wc P n (.rangeFunc g ps assign body) Q L w:=by
  unfold wc;intro a c;refine(wpIn_wide (n:=0)).1 (wpIn_rangeFunc λfn _=> ?_);obtain⟨W1,b⟩: ∃W1,W1=(w.alloc (.deferred (some []))).alloc (.loop {state:= .ready,pending:=none,fn,tmps:=a.tmps,params:=ps,assign,body,defers:=w.heap.size}):=⟨_,rfl⟩;have k:(Instr.enterLoop fn a.tmps ps assign body none).run P w= .ok (w.heap.size+1,[{target:= .collected w.heap.size,args:= #[]}]) W1:=by rw[b];exact run_enterLoop_outer fn a.tmps ps assign body
  have l:(resolve a.eval (rangeCall g (w.heap.size+1)) 0).run P W1= .ok {target:= .fn (.func gf) caps.toArray,args:= #[Value.func (.yield (w.heap.size+1)) #[] #[]]} W1:=by
    simp only[resolve,rangeCall,c.eval i,Deferred.ofValue];simp [Act.eval]
  have m:(invoke (.fn (.func gf) caps.toArray) #[Value.func (.yield (w.heap.size+1)) #[] #[]]).run P W1= .ok (.enter gf (Value.func (.yield (w.heap.size+1)) #[] #[]::caps).toArray) W1:=by
    have :=UV j (Value.func (.yield (w.heap.size+1)) #[] #[]::caps).toArray W1;simp only[invoke]
    simpa using this
  refine⟨w.heap.size+1,[{target:= .collected w.heap.size,args:= #[]}],W1,{target:= .fn (.func gf) caps.toArray,args:= #[Value.func (.yield (w.heap.size+1)) #[] #[]]},W1,gf,(Value.func (.yield (w.heap.size+1)) #[] #[]::caps).toArray,W1,k,l,λ_ _=>trivial,m,λq=>by simp [Fence.wide]at q, ?_⟩;subst b
  · refine callsIn_wide.2 ((h {state:= .ready,pending:=none,fn,tmps:=a.tmps,params:=ps,assign,body,defers:=w.heap.size} rfl U U U U c.size c.get).mono λe d ⟨⟨v,o⟩,rec,p,r,f,s⟩=> ?_);subst o;obtain⟨st,pd,f1,t1,p1,u,b1,x⟩:=rec;simp only at f;subst f;exact⟨none,_,run_endLoop p r,s {a with defers:=[{target:= .collected w.heap.size,args:= #[]}]++a.defers} rfl (by rw[c.defers];rfl)⟩
theorem HC {f:FuncId} {fn:Func} {c:Code} {args:List Value} (e:P.funcs[f]? =some fn) (g:fn.body=some c) (i:fn.ntmps=n) (j:Nat.ble args.length n=true)
    (h:wc P n c (bodyPostM Fence.wide 0 P fn R) (Dy 0 args) w):Calls P f args.toArray w R:=by
  have k:args.length<=n:=Xk j;unfold wc at h;refine callsIn_wide.1 (callsIn_of_wp_marks (F:=Fence.wide) (n:=0) e g trivial ((wpIn_wide (n:=0)).2 (h _ ⟨by simp [i];omega,rfl,λt v l=> ?_⟩)));obtain⟨_,b⟩:=UY args 0 t v l;simp only[Nat.sub_zero]at b;have d:=(Za b).1;rw[Array.getElem?_append_left (by simpa using d)]
  simpa using b
@[irreducible] def wlI (P:Program) (n:Nat) (ops:Array Oper) (Q:Exit->Act->World->Prop) (rest:List Oper) (L:Env) (w:World):Prop:= ∀a,Fr n L a->wpListIn Fence.wide 0 P ops Q rest a w
theorem WV (h:wlI P n ops Q ops.toList L w):wc P n (.region id ops false) Q L w:=by
  unfold wlI at h;unfold wc;intro a b;exact(wpIn_wide (n:=0)).1 (wpIn_region_list (h a b))
theorem Hi (h:qs n Q .normal L w):wlI P n ops Q [] L w:=by
  unfold wlI;unfold qs at h;exact h
theorem X0 {op:Op} {pos:String} (hd:Nat.blt d n=true) (h:Ev P L w ⟨some d,op,ty,pos,aft,none⟩ v) (c:wlI P n ops Q rest ((d,v)::L) w):wlI P n ops Q (⟨some d,op,ty,pos,aft,none⟩::rest) L w:=by
  unfold wlI at *;intro a b;unfold wpListIn;rw[if_pos (by simp [Region.wanted])];refine⟨λ_ _=>trivial, ?_⟩;have e:=h a.eval (λx u f=>b.eval f);show Oper.uponIn _ _ _ _ _ _ _ ((Oper.semAt none a.eval _).run P w);rw[Oper.semAt_none,e];exact c _ (b.put (some d) v hd)
theorem Hb {u:Value} {ts:Array TypeId} {pos:String} {R:World->Prop} (c:look L x=some (.func (.yield l) #[] #[])) (f:look L y=some v) (hd:Nat.blt d n=true)
    (g:YieldAt Fence.wide 0 P l #[v] w (λe w'=>e= .returned u/\R w')) (h: ∀w',R w'->wlI P n ops Q rest ((d,u)::L) w'):wlI P n ops Q (⟨some d,.call ⟨.value x, #[y],ts⟩,ty,pos,aft,none⟩::rest) L w:=by
  obtain⟨fn,tmps,assign,body,i,j⟩:=g;unfold wlI at *;intro a b;unfold wpListIn;rw[if_pos (by simp [Region.wanted])];refine⟨λ_ _=>trivial, ?_⟩
  have k:(execOp a.eval ⟨some d,.call ⟨.value x, #[y],ts⟩,ty,pos,aft,none⟩).run P w= .ok (.round l fn tmps assign body) w:=by
    simp only[execOp,resolve,b.eval c,Deferred.ofValue,invoke];simp [b.eval f,i]
  show Oper.uponIn _ _ _ _ _ _ _ ((Oper.semAt none a.eval _).run P w);rw[Oper.semAt_none,k];refine⟨λq=>by simp [Fence.wide]at q,j.mono λe w' ⟨m,o⟩=> ?_⟩;subst m;exact h w' o _ (b.put (some d) u hd)
def JC (l:Nat) (rec:Loop):Th where
  at_:= λw F=>(F= λk=>k=l)/\w.heap[l]? =some (.loop rec)
  fr:= λa ⟨e,h⟩=>⟨e,by rw[a.blk _ (by rw[e])];exact h⟩
  lt:= λ{w F} ⟨e,h⟩ k b=>by
    rw[e]at b;subst b;rcases Nat.lt_or_ge k w.heap.size with g | g
    · exact g
    · rw[Array.getElem?_eq_none g]at h;cases h
def WC (b:Nat):Th where
  at_:= λw F=>(F= λk=>k=b)/\w.heap[b]? =some (.deferred (some []))
  fr:= λa ⟨e,h⟩=>⟨e,by rw[a.blk _ (by rw[e])];exact h⟩
  lt:= λ{w F} ⟨e,h⟩ k c=>by
    rw[e]at c;subst c;rcases Nat.lt_or_ge k w.heap.size with g | g
    · exact g
    · rw[Array.getElem?_eq_none g]at h;cases h
variable {As:List Th}
theorem Sat.loop (h:Sat w As) (i:Nat) (hi:As[i]? =some (JC l rec)):w.heap[l]? =some (.loop rec):=by
  obtain⟨F,_,h⟩:=h.get i hi;exact h
theorem Sat.loop_put (h:Sat w As) (i:Nat) {rec':Loop} (hi:As[i]? =some (JC l rec)):Sat (w.putObj l (.loop rec')) (As.set i (JC l rec')):=by
  have c:=h.loop i hi
  have a:l<w.heap.size:=by
    rcases Nat.lt_or_ge l w.heap.size with g | g
    · exact g
    · rw[Array.getElem?_eq_none g]at c;cases c
  refine h.step i hi λF ⟨e,_⟩=>⟨F,⟨e,World.putObj_heap_same a⟩,λk b=> .inl b,rfl,rfl,rfl,λk b=>World.putObj_heap_other λq=>b.2 (by rw[e];exact q)⟩
theorem Sat.enter_loop (h:Sat w As) (rec:Loop):Sat ((w.alloc (.deferred (some []))).alloc (.loop rec)) (JC (w.heap.size+1) rec::WC w.heap.size::As):=by
  have b:Sat (w.alloc (.deferred (some []))) (WC w.heap.size::As):=h.new ((Only.refl _ _).alloc _) (A:=WC w.heap.size) (F':= λk=>k=w.heap.size) ⟨rfl,heap_alloc_new w _⟩ (λk a=>by rw[a];exact Nat.le_refl _);have c:=b.new (w':=(w.alloc (.deferred (some []))).alloc (.loop rec)) ((Only.refl _ _).alloc _) (A:=JC (w.heap.size+1) rec) (F':= λk=>k=w.heap.size+1) ⟨rfl,by have :=heap_alloc_new (w.alloc (.deferred (some []))) (.loop rec);simpa using this⟩ (λk a=>by rw[a];simp);exact c
def Hm {κ:Type} (P:Program) (l:Nat) (kv:κ->Value) (ok:List κ->κ->Prop) (J:List κ->Th):Prop:=
  ∀(ks:List κ) (k:κ) (R:Th) (w:World),ok ks k->Sat w [J ks,R]->YieldAt Fence.wide 0 P l #[kv k] w (λe w'=>e= .returned (.bool true)/\Sat w' [J (ks++[k]),R])
structure Came {κ:Type} (g:κ→Option Value) (ks:List κ):Prop where
  nodup:ks.Nodup
  has: ∀k∈ks,g k≠none
def okC {κ:Type} (g:κ->Option Value) (ks:List κ) (k:κ):Prop:=Came g (ks++[k])
structure CSt {κ:Type} (g:κ→Option Value) (dn:κ→Prop) (ks:List κ):Prop where
  came:Came g ks
  mem: ∀k,k∈ks↔dn k
theorem CSt.start (g:κ->Option Value):CSt g (λ_=>False) []:=⟨⟨List.nodup_nil,by simp⟩,by simp⟩
theorem CSt.ok {g:κ->Option Value} {dn:κ->Prop} {ks:List κ} {k:κ} (h:CSt g dn ks) (e: ¬dn k) (f:g k=some v):okC g ks k:=by
  refine⟨List.nodup_append.2 ⟨h.came.nodup,by simp, ?_⟩,λj c=> ?_⟩
  · rintro a i b d rfl;simp at d;subst d;exact e ((h.mem _).1 i)
  · rcases List.mem_append.1 c with c | c
    · exact h.came.has j c
    · simp at c;subst c;rw[f];simp
theorem CSt.step {g:κ->Option Value} {dn:κ->Prop} {ks:List κ} {k:κ} (h:CSt g dn ks) (a: ¬dn k) (b:g k=some v):CSt g (λj=>dn j\/j=k) (ks++[k]):=
  ⟨h.ok a b,λj=>by rw[List.mem_append,h.mem j];simp⟩
structure AllC {κ:Type} (g:κ→Option Value) (ks:List κ):Prop where
  nodup:ks.Nodup
  mem: ∀k,k∈ks↔g k≠none
theorem CSt.all {g:κ->Option Value} {dn:κ->Prop} {ks:List κ} (h:CSt g dn ks) (hd: ∀k v,g k=some v->dn k):AllC g ks:=
  ⟨h.came.nodup,λk=>⟨h.came.has k,λb=>by
    cases a:g k with
    | none=> exact absurd a b
    | some v=> exact(h.mem k).2 (hd k v a)⟩⟩
theorem M5 {fn:Func} {c d2 b:Nat} {ty1 ty2:TypeId} {p1 p2:String} {f1 f2:Array Edge} (e:a.tmps.size=n) (f: ∀t v,Xy L t=some v->a.tmps[t]? =some v) (g:a.defers=[{target:= .collected D,args:= #[]}])
    (o:look L x=some (ptrV b 0)) (p:Z0 P t=some false) (q:w.cell? ⟨b,0,none⟩=some v) (r:w.heap[D]? =some (.deferred (some []))) (s:Nat.blt c n=true) (z:Nat.blt d2 n=true) (h:fn.results= #[.tmp d2])
    (A:R (.returned v) (w.putObj D (.deferred none))):
    (Code.seq (.region id #[⟨some c,.load t x,ty1,p1,f1,none⟩,⟨some d2,.assign (.tmp c),ty2,p2,f2,none⟩] false) .ret).wp P (bodyPostM Fence.wide 0 P fn R) a w:=by
  have i:Fr n L {tmps:=a.tmps,defers:=[]}:=⟨e,rfl,f⟩;have j: ∀y,a.eval y=({tmps:=a.tmps,defers:=[]}:Act).eval y:= λy=>by cases y<;>rfl
  refine Go.wp_seq (Go.wp_region_lit ?_);refine VQ (R:= λu w'=>u=v/\w'=w) U ⟨v,w,.inl (Ql (d:=c) (ty:=ty1) (pos:=p1) (aft:=f1) o p q a.eval λy u B=>by rw[j];exact i.eval B),rfl,rfl⟩ ?_;rintro v1 I ⟨C,E⟩;rw[C,E];have k:c<a.tmps.size:=by rw[e];simpa using s
  have F:(a.put (some c) v).eval (.tmp c)=v:=by simp [Act.put,Act.eval,k]
  refine VQ (R:= λu w'=>u=v/\w'=w) U ⟨v,w,.inl ?_,rfl,rfl⟩ ?_
  · simp [execOp,F]
  rintro v2 w2 ⟨G,H⟩;rw[G,H];show Code.wp P .ret _ _ w;refine Go.wp_ret ?_;show LeavesInM Fence.wide 0 P fn _ R _ .returning w;have l:((a.put (some c) v).put (some d2) v).defers=[{target:= .collected D,args:= #[]}]:=by simp [Act.put,g]
  rw[l];refine⟨by simp,.inl ⟨D,_,rfl,run_takeDeferred r, ?_⟩⟩;refine⟨v, ?_,A⟩;have m:d2<a.tmps.size:=by rw[e];simpa using z
  simp [results,h,Act.put,m]
theorem Sat.defer_put {As:List Th} (h:Sat w As) (i:Nat) {o:Obj} (hi:As[i]? =some (WC D)):w.heap[D]? =some (.deferred (some []))/\Sat (w.putObj D o) (As.eraseIdx i):=by
  have b:=h.pull i hi;obtain⟨F,F1,F2,rfl,dj,⟨c,d⟩,e⟩:=b;have a:Agree F2 w (w.putObj D o):=⟨rfl,rfl,rfl,λk f=>World.putObj_heap_other λq=>dj k (by rw[c];exact q) f⟩;exact⟨d,F2,(starL (As.eraseIdx i)).fr a e⟩
end
