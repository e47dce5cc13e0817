/- world: cells -/
import Derived.Test.YtkcjfoaejijdoaaGreatDoorFw
import Derived.Test.YtkcjfoaejijdoaaGreatDoorSh3
import Derived.Lib.AppendStr
import Derived.Test.YtkcjfoaejijdoaaGreatDoorRow
import Derived.RangeFuncIn
import Derived.RangeFuncRecord
import Derived.RangeFuncLeaves
import Derived.RangeFuncSeq
import Derived.TacticsIn
import Derived.Test.YtkcjfoaejijdoaaGreatDoorDr
set_option linter.unusedVariables false
namespace Go.Proofs.YtkcjfoaejijdoaaGreatDoor
open Go.RowKit M
theorem keysInt:KeyOk Tryz.prog 3 Xf:=EN Tryz.underlying3
theorem keysStr:KeyOk Tryz.prog 9 Xp:=EM Tryz.underlying9
theorem clone0 {w:World} {As:List Th} (hS:Sat w As) (s:Bs) (hs:s.length≤281474976710656):Calls Tryz.prog 137 #[strV s] w (Ret fun v w'=>v=strV s∧Sat w' As):=
  PW hS (Tryz.stringslite_Clone ⟨s.toArray⟩ w (by simpa [ByteArray.size]using hs))
theorem MF {w:World} {F:Th} (hS:Sat w [F]) (s:Bs) (hs:s.length≤281474976710656):
    Calls Tryz.prog 90 #[strV s] w (Ret fun v w'=>v=strV s∧Sat w' [F]):= by
 refine Qq Tryz.func90 rfl Tryz.ntmps90 rfl ?_
 refine Qd (Qa (Qe rfl rfl (Qf (Qc (Qd (Qa (Qb rfl rfl (Qv cal_137 rfl (clone0 (hS.sp [] rfl) s hs) rfl ?_))))))))
 rintro _ w1 ⟨rfl,hS1⟩
 replace hS1:=hS1.jn rfl rfl
 exact Qe rfl rfl (Qf (Qc (Qu (QQ (.inr rfl) rfl rfl (⟨_,rfl,rfl,hS1⟩)))))
def emptyW:WS:=⟨fun _=>[], fun _ _=>none, fun _=>[],0⟩
theorem CW:X7 (fun _=>[])= fun _=>none:= by funext k; simp [X7]
theorem OT {w:World} {p a b c:Nat} {F:Th} (h:Sat w [QF p [.map (some a),.map (some b),.map (some c),intV 0],Q3 Xp c (fun _=>none),Q3 Xp b (fun _=>none),Q3 Xp a (fun _=>none),F]):Sat w [Xi p emptyW,F]:= by
  refine Bo ⟨a,b,c⟩ ⟨fun n p s h=> by cases h⟩ ?_
  have h1:=h.pull 2 rfl; dsimp only[List.eraseIdx]at h1
  have h2:Sat w (Q3 Xp b (X4 [])::starL ([].map (Wo emptyW.objs))::_):=(Sat.fold (As:=[]) h1).perm (List.Perm.swap _ _ _)
  have h3:=Mj [] ⟨by simp, fun n=> by simp [emptyW]⟩ h2
  have h4:=h3.reorder [1,3,0,2,4] rfl; dsimp only[JU,H6]at h4
  show Sat w [QF p _,Q3 Xp a (X7 (fun _=>[])),Mk b _,Q3 Xp c (X7 (fun _=>[])),F]
  rw[CW]; exact h4
theorem new_sp {w:World} {F:Th} (hS:Sat w [F]):
    Calls Tryz.prog 35 #[] w (Ret fun v w'=> ∃p,v=ptrV p 0∧Sat w' [Xi p emptyW,F]):= by
 refine Qq Tryz.func35 rfl Tryz.ntmps35 rfl ?_
 refine Qd (Qa (Qe rfl rfl (Qf (Qc (Qd (Qa (Za Xp hS rfl ?_)))))))
 intro b1 w1 hS1
 refine Za Xp hS1 rfl ?_
 intro b2 w2 hS2
 clear hS1
 refine Za Xp hS2 rfl ?_
 intro b3 w3 hS3
 clear hS2
 refine Zl rfl C3 Dp Cm rfl rfl (XU hS3 rfl rfl rfl ?_)
 intro b4 w4 hS4
 clear hS3
 exact Qe rfl rfl (Qf (Qc (Qu (QQ (.inr rfl) rfl rfl (⟨_,rfl,_,rfl,OT hS4⟩)))))
theorem ND {w:World} {F:Th} (hS:Sat w [F]) (i:Int):
    Calls Tryz.prog 145 #[intV i] w (Ret fun v w'=>v= .bool (decide (0≤i∧i<16384))∧Sat w' [F]):= by
 refine Qq Tryz.func145 rfl Tryz.ntmps145 rfl ?_
 refine Qd (Qa (Qe rfl rfl (Qf (Qc (Qd (Qa (Qb rfl rfl (JJ rfl rfl rfl (Qb rfl rfl (QN 5 rfl (fun h1=> ?_) (fun h1=> ?_)))))))))))
 ·refine Qj rfl rfl (QW h1) (Qb rfl rfl (Qj rfl rfl (QW h1) (Xb rfl rfl rfl (QC rfl (QW h1) rfl rfl (Qe rfl rfl (Qf (Qc (Qu (QQ (.inr rfl) rfl rfl ?_)))))))))
  exact⟨_,rfl, by congr 1;(simp;omega),hS⟩
 refine Qh rfl rfl (Q0 h1) rfl (Qh rfl rfl (Q0 h1) rfl (QG rfl (Q0 h1) rfl rfl (Qe rfl rfl (Qf (Qc (Qu (QQ (.inr rfl) rfl rfl ?_)))))))
 exact⟨_,rfl, by congr 1;(simp;omega),hS⟩
section
variable {P:Program} {n:Nat} {ops:Array Oper} {Q:Exit→Act→World→Prop} {rest:List Oper} {L:Env} {w:World} {d:Nat} {ty:TypeId} {pos:String} {aft:Array Edge} {As:List Th} {T e b:Nat} {cs:List Value}
theorem Bt (l:List UInt8):Lib.strCells ⟨l.toArray⟩=byC.cells l:= by
  rw[Kw]
  simp [Lib.strCells,X8]
theorem Sq {t t2:TypeId} {s x:Operand} {v:Value} {bs l2:List UInt8} (i:Nat) (hS:Sat w As) (hi:As[i]? =some (K3 e v bs)) (hs:M.look L s=some v) (hx:M.look L x=some (strV l2)) (hu:P.underlying t=some (.slice e)) (hu2:P.underlying t2=some .string)
    (hif:(P.info? e).map (fun i=>(i.zero,i.size,i.bytes))=some (some (.int .u8 0),1,1)) (hm:bs.length+l2.length≤140737488355328) (hd:Nat.blt d n=true)
    (hk: ∀v' w',Sat w' (As.set i (K3 e v' (bs++l2)))→wl P n ops Q rest ((d,v')::L) w'):wl P n ops Q (⟨some d,.call ⟨.builtin .append, #[s,x], #[t,t2]⟩,ty,pos,aft,none⟩::rest) L w:= by
  obtain⟨hown,hnil⟩:=hS.buf i hi
  obtain⟨foot,hO,hfoot⟩:=Mh hown
  obtain⟨inf,hi1,hi2,hi3,hi4⟩:=info_parts hif
  have hsz:(⟨l2.toArray⟩:ByteArray).size=l2.length:= by simp [ByteArray.size]
  refine XR rfl hd (R:= fun v w'=>Sat w' (As.set i (K3 e v (bs++l2)))) (fun a ha=> ?_) (fun v w' hR=>hk v w' hR)
  obtain⟨v1,w1,hrun,foot',o1,o2,o3,_⟩:=VJ (P:=P) (o:=⟨some d,.call ⟨.builtin .append, #[s,x], #[t,t2]⟩,ty,pos,aft,none⟩) (a:=a) t t2 s x rfl (ha.eval hs) (ha.eval hx) hO hu hu2 (by intro k hk; cases hk) hif rfl (by decide) (m:=l2.length) (news:=byC.cells l2)
    (fun w1=> by simp [strV,Builtin.lenOf,hsz]) (fun w1 _=> by have :=Lib.run_firstCells_string (P:=P) w1 1 ⟨l2.toArray⟩; rw[hsz,Bt]at this; exact this) (byC.cells_len l2) (WQ (byC.cells_one l2)) (by omega) (by omega)
  obtain⟨v2,w2,hr2,hown2,_,hiff⟩:=Lib.run_append_own_string (P:=P) w 0 t t2 ty e inf hu hu2 hi1 hi2 hi3 hi4 v bs.length (byC.cells bs) hown ⟨l2.toArray⟩ (by rw[hsz];unfold maxLen;omega) (by rw[hsz];omega) (Nat.zero_le _)
  rw[hsz]at hown2 hiff
  have hex:(execOp a.eval ⟨some d,.call ⟨.builtin .append, #[s,x], #[t,t2]⟩,ty,pos,aft,none⟩).run P w= .ok (.value v2) w2:= by
    have hr3:(Builtin.append_ #[t,t2] ty #[v,strV l2]).run P w= .ok v2 w2:=hr2
    simp [execOp,ha.eval hs,ha.eval hx,resolve,invoke,builtin,hr3]
  have heq:v1=v2∧w1=w2:= by
    rcases hrun with h | ⟨h,_⟩
    · rw[hex]at h; cases h; exact⟨rfl,rfl⟩
    · rw[hex]at h; cases h
  obtain⟨rfl,rfl⟩:=heq
  refine⟨v1,w1,.inl hex, ?_⟩
  have hfoot': ∀k,v1.ownBlock=some k→k∈foot':= by
    intro k hk'
    obtain⟨_,⟨e1,_,_⟩ | ⟨b1,c1,s1,e1,_,_,_,rfl⟩⟩:=o1
    · rw[e1]at hk'; cases hk'
    · rw[e1]at hk'; simp [Value.ownBlock]at hk'; simp [hk']
  refine hS.step i hi fun F ⟨eF,_⟩=>⟨fun k=>v1.ownBlock=some k,⟨rfl, ?_, fun q=> ?_⟩, fun k hk'=> ?_,o2.agree fun k hk'=> ?_⟩
  · rw[List.length_append,←RowC.cells_app,←Bt l2]; exact hown2
  · obtain⟨q1,q2⟩:=List.append_eq_nil_iff.1 q
    exact hiff.2 ⟨hnil q1, by rw[q2];rfl⟩
  · rcases o3 k (hfoot' k hk')with q | q
    · exact .inl (by rw[eF]; exact(hfoot k).1 q)
    · exact .inr q
  · exact .inl (by rw[eF]; exact(hfoot k).1 hk')
end
theorem ne1 : (Tryz.f214.name == "runtime.NumGoroutine") = false := by kernel_rfl
theorem ne2:Tryz.f214.body.isNone=true:= by kernel_rfl
theorem ne3:Extern.findNext Tryz.f214=none:= by kernel_rfl
theorem ne4:Extern.find Tryz.f214=some Extern.AbiNoEscape.same:= by kernel_rfl
theorem bl_info:(Tryz.prog.info? 205).map (fun j=>decide (j.size≠0))=some true:= by kernel_rfl
theorem bl_lies:liesAt Tryz.prog Tryz.prog.depth 205 (2/ Tryz.prog.cellsOf 205) 0 205 1=true:= by kernel_rfl
theorem LD:Tryz.prog.cellsOf 5=1:= by kernel_rfl
theorem LC: ∃j,Tryz.prog.info? 205=some j∧j.size≠0:= by
  have h:=bl_info
  cases hq:Tryz.prog.info? 205 with
  | none=> rw[hq]at h; cases h
  | some j=> rw[hq]at h; exact⟨j,rfl, by simpa using h⟩
theorem A9 {w:World} {b:Nat} {v:Value} {F:Th} (hS:Sat w [JF 205 b [.pointer none,v],F]):
    Calls Tryz.prog 176 #[ptrV b 0] w (Ret fun u_ w'=>u_= .tuple #[]∧Sat w' [JF 205 b [ptrV b 0,v],F]):= by
 obtain⟨j,hj,hj0⟩:=LC
 refine Qq Tryz.func176 rfl Tryz.ntmps176 rfl ?_
 refine Qd (Qa (Qb rfl rfl (Qk rfl rfl (Qg rfl RU rfl (Qo rfl F8 (hS.tcell 0 rfl (o:=0) rfl) rfl (Yk Tryz.underlying203 rfl rfl rfl (Qf (Qc (Xr rfl (Qa (Qb rfl rfl (Qb rfl rfl (N9 rfl Tryz.underlying203 Tryz.underlying259 hj hj0 (hS.tshape 0 rfl) (by simp) rfl ?_)))))))))))))
 refine Sp Tryz.func214 ne1 ne2 ne3 ne4 rfl rfl ?_
 refine MV rfl Tryz.underlying259 Tryz.underlying203 hj (hS.tshape 0 rfl) bl_lies rfl (Qk rfl rfl (Qg rfl RU rfl (VY hS rfl rfl sz_203 (by rfl) (i:=0) rfl (by simp) ?_)))
 intro w1 hS1; dsimp only[List.set]at hS1
 exact Qf (ZB (.inl rfl) rfl (⟨_,rfl,rfl,hS1⟩))
theorem Az {w:World} {b:Nat} {v:Value} {F:Th} (hS:Sat w [JF 205 b [ptrV b 0,v],F]):
    Calls Tryz.prog 176 #[ptrV b 0] w (Ret fun u_ w'=>u_= .tuple #[]∧Sat w' [JF 205 b [ptrV b 0,v],F]):= by
 obtain⟨j,hj,hj0⟩:=LC
 refine Qq Tryz.func176 rfl Tryz.ntmps176 rfl ?_
 exact Qd (Qa (Qb rfl rfl (Qk rfl rfl (Qg rfl RU rfl (Qo rfl F8 (hS.tcell 0 rfl (o:=0) rfl) rfl (ZJ Tryz.underlying203 rfl rfl rfl (Qf (Qc (QV rfl (Qd (Qa (Qb rfl rfl (Qk rfl rfl (Qg rfl RU rfl (Qo rfl F8 (hS.tcell 0 rfl (o:=0) rfl) rfl (Qb rfl rfl (MU Tryz.underlying203 hj rfl rfl rfl (Qf (Qc (Qi [19] rfl (QV rfl (Qr (ZB (.inl rfl) rfl (⟨_,rfl,rfl,hS⟩))))))))))))))))))))))))
def Va (b:Nat) (bs:Bs):Th:=CG fun q:Value×Value=>starL [WN (q.1= .pointer none∨q.1=ptrV b 0),JF 205 b [q.1,q.2],K3 5 q.2 bs]
theorem Hu {w:World} {b:Nat} {bs:Bs} {As:List Th} (h:Sat w (Va b bs::As)): ∃p v,(p= .pointer none∨p=ptrV b 0)∧Sat w (JF 205 b [p,v]::K3 5 v bs::As):= by
  obtain⟨⟨p,v⟩,h⟩:=h.ex
  obtain⟨h1,h2⟩:=h.flat.pure_elim
  exact⟨p,v,h1,h2⟩
theorem YF {w:World} {b:Nat} {bs:Bs} {As:List Th} {p v:Value} (hp:p= .pointer none∨p=ptrV b 0) (h:Sat w (JF 205 b [p,v]::K3 5 v bs::As)):Sat w (Va b bs::As):=
  Sat.ex_intro (p,v) (Sat.fold (As:=[WN _,JF 205 b [p,v],K3 5 v bs]) (Sat.pure_intro hp h))
theorem MN {w:World} {b:Nat} {p v:Value} {F:Th} (hp:p= .pointer none∨p=ptrV b 0) (hS:Sat w [JF 205 b [p,v],F]):Calls Tryz.prog 176 #[ptrV b 0] w (Ret fun u w'=>u= .tuple #[]∧Sat w' [JF 205 b [ptrV b 0,v],F]):= by
  rcases hp with rfl | rfl
  · exact A9 hS
  · exact Az hS
theorem ML {w:World} {As:List Th} {e:Nat} (h:Sat w As):Sat w (K3 e (.slice none 0 0) []::As):=
  h.new (Only.refl [] w) (A:=K3 e (.slice none 0 0) []) (F':= fun k=>Value.ownBlock (.slice none 0 0)=some k) ⟨rfl,World.ownsRow_nil w 0 e 1, fun _=>rfl⟩ (by simp [Value.ownBlock])
theorem Hm {w:World} {b:Nat} {bs:Bs} {F:Th} (hS:Sat w [Va b bs,F]) (c:UInt8) (hl:bs.length≤70368744177663):
    Calls Tryz.prog 139 #[ptrV b 0,XS c] w (Ret fun v w'=>v= .nilIface∧Sat w' [Va b (bs++[c]),F]):= by
 obtain⟨p,v,hp,hS⟩:=Hu hS
 refine Qq Tryz.func139 rfl Tryz.ntmps139 rfl ?_
 refine Qd (Qa (Qe rfl rfl (Qf (Qc (Qd (Qa (Qb rfl rfl (Qv Nh rfl (MN hp (hS.sp [0] rfl)) rfl ?_))))))))
 rintro _ w1 ⟨rfl,hS1⟩
 replace hS1:=hS1.jn rfl rfl
 refine Qf (Qc (Qd (Qa (Qb rfl rfl (Qb rfl rfl (Qk rfl rfl (Qg rfl J5 rfl (Qo rfl Ui (hS1.tcell 0 rfl (o:=1) rfl) rfl (Qb rfl rfl (Z4 byC [c] hS1 rfl Tryz.underlying143 ifz_5 rfl rfl rfl rfl (by rfl) rfl ?_))))))))))
 intro b2 w2 hS2
 clear hS1
 refine Tt 2 hS2 rfl rfl rfl (hS2.rd 0 rfl (by simp)) (by simp) Tryz.underlying143 rfl Py rfl (by simp;omega) (by simp;omega) rfl ?_
 intro v3 w3 hS3; dsimp only[List.set]at hS3
 clear hS2
 obtain⟨_,_,_,h1v3,_⟩:=hS3.bufv 2 rfl
 refine Qk rfl rfl (Qg rfl J5 rfl (VY hS3 rfl rfl Sw (by assumption) (i:=1) rfl (by simp) ?_))
 intro w4 hS4; dsimp only[List.set]at hS4
 clear hS3
 exact Qf (Qc (Qi [4] rfl (Qd (Qa (Qe rfl rfl (Qf (Qc (Qu (QQ (.inr rfl) rfl rfl (⟨_,rfl,rfl,YF (.inr rfl) (hS4.pick [1,2,3] rfl)⟩))))))))))
theorem VQ {w:World} {b:Nat} {bs:Bs} {F:Th} (hS:Sat w [Va b bs,F]) (s:Bs) (hl:bs.length+s.length≤70368744177663):
    Calls Tryz.prog 140 #[ptrV b 0,strV s] w (Ret fun v w'=>v= .tuple #[intV (s.length:Int),.nilIface]∧Sat w' [Va b (bs++s),F]):= by
 obtain⟨p,v,hp,hS⟩:=Hu hS
 refine Qq Tryz.func140 rfl Tryz.ntmps140 rfl ?_
 refine Qd (Qa (Qe rfl rfl (Qe rfl rfl (Qf (Qc (Qd (Qa (Qb rfl rfl (Qv Nh rfl (MN hp (hS.sp [0] rfl)) rfl ?_)))))))))
 rintro _ w1 ⟨rfl,hS1⟩
 replace hS1:=hS1.jn rfl rfl
 refine Qf (Qc (Qd (Qa (Qb rfl rfl (Qb rfl rfl (Qk rfl rfl (Qg rfl J5 rfl (Qo rfl Ui (hS1.tcell 0 rfl (o:=1) rfl) rfl (Qb rfl rfl (Sq 1 hS1 rfl rfl rfl Tryz.underlying143 Tryz.underlying9 Py (by omega) rfl ?_))))))))))
 intro v2 w2 hS2; dsimp only[List.set]at hS2
 clear hS1
 obtain⟨_,_,_,h1v2,_⟩:=hS2.bufv 1 rfl
 refine Qk rfl rfl (Qg rfl J5 rfl (VY hS2 rfl rfl Sw (by assumption) (i:=0) rfl (by simp) ?_))
 intro w3 hS3; dsimp only[List.set]at hS3
 clear hS2
 exact Qf (Qc (Qi [1,4,5] rfl (Qd (Qa (Qb rfl rfl (Wj Tryz.underlying9 rfl rfl (Qe rfl rfl (Qe rfl rfl (Qf (Qc (Qu (Wx (.inr rfl) rfl rfl rfl (⟨_,rfl,rfl,YF (.inr rfl) (hS3.pick [0,1,2] rfl)⟩)))))))))))))
theorem Cf {w:World} {b:Nat} {bs:Bs} {F:Th} (hS:Sat w [Va b bs,F]) (hl:bs.length≤70368744177663):
    Calls Tryz.prog 142 #[ptrV b 0] w (Ret fun v w'=>v=strV bs∧Sat w' [F]):= by
 obtain⟨p,v,hp,hS⟩:=Hu hS
 obtain⟨ao,cap,rfl,h1v,hq⟩:=hS.bufv 1 rfl
 have hao:ao=none∨cap≠0:= by rcases hq with⟨h,_⟩ | ⟨_,_,h,_⟩; exact .inl h; exact .inr h
 refine Qq Tryz.func142 rfl Tryz.ntmps142 rfl ?_
 refine Qd (Qa (Qe rfl rfl (Qf (Qc (Qd ?_)))))
 have hS1:=hS.drew
 refine QJ [0,1,2,3,5,6,7,8,9,4,10,11] [4,10] Wp (by kernel_rfl) ?_
 refine QE rfl rfl rfl (Xl rfl rfl rfl (QT rfl rfl rfl J5 (Q9 rfl rfl rfl (Qm rfl Ui (hS1.tcell 0 rfl (o:=1) rfl)) (QE rfl rfl rfl (Xl rfl rfl rfl (QT rfl rfl rfl J5 (Q9 rfl rfl rfl (Qm rfl Ui (hS1.tcell 0 rfl (o:=1) rfl)) (QU rfl rfl rfl (fun _=>(Kr Tryz.underlying143 rfl)) ?_))))))))
 refine Xj rfl rfl rfl rfl rfl rfl ?_
 refine Ro rfl hao rfl (X6 (.cons (.inl ⟨rfl,(Qm rfl Ui (hS1.tcell 0 rfl (o:=1) rfl))⟩) (Xq (by kernel_rfl))) ?_)
 refine Xj rfl rfl rfl rfl rfl rfl ?_
 refine BA 1 hS1 rfl rfl rfl Tryz.underlying230 LD (by omega) rfl ?_
 intro w2 hS2; dsimp only[List.eraseIdx]at hS2
 clear hS1
 refine X6 (Xq (by kernel_rfl)) ?_
 exact XN rfl rfl rfl (VC.nil (Qc (Qi [2] rfl (Qu (QQ (.inr rfl) rfl rfl (⟨_,rfl,rfl,hS2.tail⟩))))))
end Go.Proofs.YtkcjfoaejijdoaaGreatDoor
namespace Go.Proofs.YtkcjfoaejijdoaaGreatDoor.M
open Go.RowKit
theorem R2 {α:Type} {l:List α} {i:Nat} {a:α} (h:l[i]? =some a):l.set i a=l:= by
  apply List.ext_getElem?
  intro j
  by_cases e:i=j
  · subst e; rw[List.getElem?_set_self (XQ h).1,h]
  · rw[List.getElem?_set_ne e]
def Gn (e:Nat) (v:Value) (bs:List UInt8):Th where
  at_:= fun w F=>(F= fun k=>v.ownBlock=some k)∧((v= .slice none 0 0∧bs=[])∨ ∃g cap cur fz,v= .slice (some ⟨g,0,none⟩) bs.length cap∧bs≠[]∧cap≠0∧w.heap[g]? =some (.cells cur e fz)∧bs.length≤cur.size∧cur.toList.take bs.length=byC.cells bs)
  fr:= fun {w w' F} a ⟨e1,h⟩=>⟨e1, by
    rcases h with h | ⟨g,cap,cur,fz,h1,h2,h3,h4,h5⟩
    · exact .inl h
    · exact .inr ⟨g,cap,cur,fz,h1,h2,h3, by rw[a.blk _ (by rw[e1,h1];rfl)]; exact h4,h5⟩⟩
  lt:= fun {w F} ⟨e1,h⟩ k hk=> by
    rw[e1]at hk
    rcases h with⟨rfl,_⟩ | ⟨g,cap,cur,fz,rfl,_,_,h4,_⟩
    · simp [Value.ownBlock]at hk
    · simp only[Value.ownBlock,Option.some.injEq]at hk
      subst hk
      rcases Nat.lt_or_ge g w.heap.size with q | q
      · exact q
      · rw[Array.getElem?_eq_none q]at h4; cases h4
section
variable {P:Program} {n:Nat} {ops:Array Oper} {Q:Exit→Act→World→Prop} {rest:List Oper} {L:Env} {w:World} {d:Nat} {ty:TypeId} {pos:String} {aft:Array Edge} {As:List Th} {T e b:Nat} {cs:List Value}
theorem Sat.bufZ_of {v:Value} {bs:List UInt8} (h:Sat w (K3 e v bs::As)):Sat w (Gn e v bs::As):= by
  obtain⟨F,F1,F2,rfl,dj,⟨e1,⟨hl,h1⟩,hn⟩,h2⟩:=h
  refine⟨_,F1,F2,rfl,dj,⟨e1, ?_⟩,h2⟩
  by_cases h0:bs=[]
  · exact .inl ⟨hn h0,h0⟩
  · rcases h1 with⟨_,h3⟩ | ⟨g,cap,cur,rfl,_,h3,h4,_,h6,h7⟩
    · exact absurd (List.eq_nil_of_length_eq_zero h3) h0
    · have hp:0<bs.length:=List.length_pos_iff.2 h0
      exact .inr ⟨g,cap,cur,(0,0),rfl,h0, by omega,h3, by omega, by rw[Nat.mul_one]at h7; exact h7⟩
theorem Sat.bufZv (h:Sat w As) (i:Nat) {v:Value} {bs:List UInt8} (hi:As[i]? =some (Gn e v bs)): ∃ao cap,v= .slice ao bs.length cap∧v.oneCell'=true∧(ao=none∨cap≠0):= by
  obtain⟨F,_,h⟩:=h.get i hi
  rcases h with⟨rfl,rfl⟩ | ⟨g,cap,cur,fz,rfl,_,h3,_⟩
  · exact⟨none,0,rfl,rfl,.inl rfl⟩
  · exact⟨_,cap,rfl,rfl,.inr h3⟩
theorem G3 {ao:Option Addr} {cap pt it:Nat} {bs:List UInt8} {x y:Operand} (i:Nat) (hS:Sat w As) (hi:As[i]? =some (Gn e (.slice ao bs.length cap) bs)) (hx:look L x=some (.pointer ao)) (hy:look L y=some (.int .i64 (bs.length:Int))) (hp:P.underlying pt=some (.pointer e)) (hc:P.cellsOf e=1) (hlen:bs.length≤9223372036854775807) (hd:Nat.blt d n=true)
    (hk: ∀w',Sat w' As→wl P n ops Q rest ((d,strV bs)::L) w'):wl P n ops Q (⟨some d,.call ⟨.builtin .unsafeString, #[x,y], #[pt,it]⟩,ty,pos,aft,none⟩::rest) L w:= by
  have hg: ∃w',(Builtin.unsafeString_ #[pt,it] ty #[.pointer ao,.int .i64 bs.length]).run P w= .ok (strV bs) w'∧Sat w' As:= by
    obtain⟨F,e1,h⟩:=hS.get i hi
    rcases h with⟨hv,rfl⟩ | ⟨g,cap',cur,fz,hv,h0,_,hgb,h5,h6⟩
    · simp only[Value.slice.injEq,List.length_nil,true_and]at hv
      obtain⟨rfl,_⟩:=hv
      exact⟨w,Lib.run_unsafeString_none w pt it ty none,hS⟩
    · simp only[Value.slice.injEq,true_and]at hv
      obtain⟨rfl,rfl⟩:=hv
      refine⟨w.freeze ⟨g,0,none⟩ bs.length,Lib.run_unsafeString_row w pt it ty e hp hc g cur.size (by simp [World.shape?,hgb]) bs h0 (by omega) hlen ?_, ?_⟩
      · intro j c hj
        rw[Wb]
        simp only[Nat.zero_add]
        rw[Lib.cell_of_heap hgb]
        have hj':=(XQ hj).1
        have :(byC.cells bs)[j]? =some (.int .u8 (c.toNat:Int)):= by
          have :=RowC.cells_at (C:=byC) (l:=bs) (j:=j) hj
          have h3:=congrArg (fun q=>q[0]?) this
          simpa [byC,List.getElem?_take,List.getElem?_drop]using h3
        rw[←h6,List.getElem?_take,if_pos hj']at this
        simpa using this
      · have hlt:g<w.heap.size:= by
          rcases Nat.lt_or_ge g w.heap.size with q | q
          · exact q
          · rw[Array.getElem?_eq_none q]at hgb; cases hgb
        have hne:bs.length≠0:= fun q=>h0 (List.eq_nil_of_length_eq_zero q)
        have hfz: ∃fz',(w.freeze ⟨g,0,none⟩ bs.length).heap[g]? =some (.cells cur e fz'):= by
          unfold World.freeze
          rw[if_neg hne]
          obtain⟨lo,hi'⟩:=fz
          refine⟨if lo==hi' then(0,0+bs.length)else(min lo 0,max hi' (0+bs.length)), ?_⟩
          simp only[Array.getElem?_modify,if_true,hgb,Option.map_some]
        obtain⟨fz',hfz⟩:=hfz
        have hst:=hS.step i hi (w':=w.freeze ⟨g,0,none⟩ bs.length) (A':=Gn e (.slice (some ⟨g,0,none⟩) bs.length cap) bs) fun F0 hF0=> ?_
        · rwa [R2 hi]at hst
        · have e0:=hF0.1
          have hb:=Lib.below_freeze (B:=0) (Below.refl 0 w) (p:=⟨g,0,none⟩) (Nat.zero_le _) bs.length
          refine⟨F0,⟨e0,.inr ⟨g,cap,cur,fz',rfl,h0, by assumption,hfz,h5,h6⟩⟩, fun k hk=> .inl hk,hb.os,hb.tape,hb.output, fun k hk=> ?_⟩
          have hnk:k≠g:= by
            rintro rfl
            exact hk.2 (by rw[e0];rfl)
          unfold World.freeze
          rw[if_neg hne]
          simp only[Array.getElem?_modify]
          rw[if_neg (fun q=>hnk q.symm)]
  obtain⟨w',h1,h2⟩:=hg
  refine XR rfl hd (R:= fun v u=>v=strV bs∧u=w') (fun a ha=>⟨_,_,.inl ?_,rfl,rfl⟩) (by rintro _ _ ⟨rfl,rfl⟩; exact hk _ h2)
  simp [execOp,ha.eval hx,ha.eval hy,resolve,invoke,builtin,h1]
end
section
variable {P:Program} {n m l:Nat} {ops:Array Oper} {Q:Exit→Act→World→Prop} {L:Env} {w:World}
abbrev RF (l:Nat):Fence:=Fence.wide.inRound l
theorem Tg {f:FuncId} {args:Array Value} {R:Ending→World→Prop} (h:Calls P f args w R):CallsIn (RF l) m P f args w R:=(callsIn_wide (n:=m)).2 h
theorem C0 {row:String} {args:Array Value} {R:Value→World→Prop} (h:Rows P row args w R):RowsIn (RF l) m P row args w R:= fun c cs _=> by
  obtain⟨v,w',r,s⟩:=h c cs
  exact⟨v,w',r,stepsIn_wide.2 s⟩
theorem DA {o:Oper} {a:Act} {next:Act→World→Prop} {r:Result Next} (h:o.upon P a next Q r):o.uponIn (RF l) m P a next Q r:= by
  unfold Oper.upon at h
  split at h
  · exact h
  · exact h
  · exact h
  · exact⟨fun q=> by simp [RF,Fence.wide,Fence.inRound]at q,Tg h⟩
  · exact⟨fun q=> by simp [RF,Fence.wide,Fence.inRound]at q,C0 h⟩
  · exact h
  · exact h.elim
def BT (rest:List Oper):Prop:= ∀o∈rest,∀c,o.op≠ .defer c
theorem Jk (hQ: ¬LetsOut Q): ∀(rest:List Oper) (a:Act) (w:World),BT rest→wpList P ops Q rest a w→wpListIn (RF l) m P ops Q rest a w
  | [],_,_,_,h=>h
  | o::rest,a,w,hd,h=> by
    unfold wpList at h
    unfold wpListIn
    have hr:BT rest:= fun q hq=>hd q (List.mem_cons_of_mem _ hq)
    split
    · rename_i hw
      rw[if_pos hw]at h
      rcases h with h | h
      · refine⟨fun _ _=>trivial, ?_⟩
        rw[Oper.semAt_eq _ _ _ (hd o (by simp))]
        have h2:=DA (l:=l) (m:=m) h
        revert h2
        generalize (execOp a.eval o).run P w=r
        intro h2
        unfold Oper.uponIn at h2⊢
        split at h2
        · exact Jk hQ rest _ _ hr h2
        · exact Jk hQ rest _ _ hr h2
        · exact Jk hQ rest _ _ hr h2
        · refine⟨h2.1,h2.2.mono fun e w' he=> ?_⟩
          cases e with
          | returned v=> exact Jk hQ rest _ _ hr he
          | panicked c=> exact he
          | outgrown=> exact he
        · exact⟨h2.1,h2.2.mono fun v w' he=>Jk hQ rest _ _ hr he⟩
        · refine⟨h2.1,h2.2.mono fun e w' he=> ?_⟩
          cases e with
          | returned v=> exact Jk hQ rest _ _ hr he
          | panicked c=> exact he
          | outgrown=> exact he
        · exact h2
        · exact h2.elim
      · exact absurd h.2 hQ
    · rename_i hw
      rw[if_neg hw]at h
      exact⟨fun _ _=>trivial,Jk hQ rest _ _ hr h⟩
theorem Dv {t:Nat} {x:Value} {rec:Loop} {idA idB idR:Nat} {opsA opsR:Array Oper} {L0:Env} {R:World→Prop}
    (hrec:w.heap[l]? =some (.loop rec)) (hst:rec.state= .ready) (hpd:rec.pending=none) (hps:rec.params= #[t]) (has:rec.assign= .region idA opsA false) (hbo:rec.body= .block idB (.region idR opsR false)) (htn:rec.tmps.size=n)
    (hfr: ∀t v,Xt L0 t=some v→rec.tmps[t]? =some v) (ht:Nat.blt t n=true) (hdA:BT opsA.toList) (hdR:BT opsR.toList)
    (h: ∀QA:Exit→Act→World→Prop,
      (∀L1 w1,w1.heap[l]? =some (.loop rec)→(∀QB:Exit→Act→World→Prop,(∀L2 w2,w2.heap[l]? =some (.loop {rec with state:= .busy})→R (w2.putObj l (.loop rec))→qs n QB .normal L2 w2)→wl P n opsR QB opsR.toList L1 (w1.putObj l (.loop {rec with state:= .busy})))→qs n QA .normal L1 w1)→
      wl P n opsA QA opsA.toList ((t,x)::L0) w):
    YieldAt Fence.wide m P l #[x] w (fun e w'=>e= .returned (.bool true)∧R w'):= by
  refine⟨rec.fn,rec.tmps.setIfInBounds t x,rec.assign,rec.body, ?_,roundIn_of_wpIn trivial ?_⟩
  · have :=run_yield (P:=P) (args:= #[x]) hrec (by simp [hps])
    simpa [hps]using this
  · have hA:=h (Exit.then (fun a₁ w₁=> ∃w₂,(Instr.beginRound l).run P w₁= .ok () w₂∧rec.body.wpIn (RF l) m P (roundPost P l fun e w'=>e= .returned (.bool true)∧R w') a₁ w₂) (fun _ _ _=>False)) ?_
    · unfold wl at hA
      have ha0:Fr n L0 {tmps:=rec.tmps,defers:=[]}:=⟨htn,rfl,hfr⟩
      have h1:=hA _ (ha0.put (some t) x ht)
      rw[has]
      exact wpIn_region_list (Jk (by rintro⟨a,w,q⟩; exact q) _ _ _ hdA h1)
    · intro L1 w1 hr1 hB
      unfold qs
      intro a ha
      refine⟨_,run_beginRound hr1 hst, ?_⟩
      have key: ∀c:Code,c= .block idB (.region idR opsR false)→c.wpIn (RF l) m P (roundPost P l fun e w'=>e= .returned (.bool true)∧R w') a (w1.putObj l (.loop {rec with state:= .busy})):= ?_
      · exact key _ hbo
      rintro _ rfl
      refine wpIn_block (wpIn_region_list ?_)
      have h2:=hB (Exit.inBlock idB (roundPost P l fun e w'=>e= .returned (.bool true)∧R w')) ?_
      · unfold wl at h2
        exact Jk (by rintro⟨a,w,q⟩; exact q) _ _ _ hdR (h2 a ha)
      · intro L2 w2 hr2 hR
        unfold qs
        intro a2 _
        refine⟨_,_,run_endRound none hr2,rfl, ?_⟩
        have e:({{rec with state:= .busy}with state:= if(none:Option Code).isNone then .ready else .done,pending:=none}:Loop)=rec:= by
          cases rec; simp at hst hpd; subst hst hpd;rfl
        rw[e]; exact hR
theorem Hg {g:Operand} {ps:Array Tmp} {assign body:Code} {gf:Nat} {caps:List Value} (hg:look L g=some (.func (.func gf) #[] caps.toArray)) (hc:QH P gf=true)
    (h: ∀rec:Loop,rec.state= .ready→rec.pending=none→rec.params=ps→rec.assign=assign→rec.body=body→rec.tmps.size=n→(∀t v,Xt L t=some v→rec.tmps[t]? =some v)→
      Calls P gf (Value.func (.yield (w.heap.size+1)) #[] #[]::caps).toArray ((w.alloc (.deferred (some []))).alloc (.loop rec)) (fun e w3=>(∃v,e= .returned v)∧ ∃rec':Loop,w3.heap[w.heap.size+1]? =some (.loop rec')∧rec'.state≠ .busy∧rec'.pending=none∧
        ∀a:Act,a.tmps=rec.tmps→a.defers=[{target:= .collected w.heap.size,args:= #[]}]→Q .normal a (w3.putObj (w.heap.size+1) (.loop {rec' with state:= .exhausted})))):
    wc P n (.rangeFunc g ps assign body) Q L w:= by
  unfold wc
  intro a ha
  refine(wpIn_wide (n:=0)).1 (wpIn_rangeFunc fun fn _=> ?_)
  obtain⟨W1,hW1⟩: ∃W1,W1=(w.alloc (.deferred (some []))).alloc (.loop {state:= .ready,pending:=none,fn,tmps:=a.tmps,params:=ps,assign,body,defers:=w.heap.size}):=⟨_,rfl⟩
  have e1:(Instr.enterLoop fn a.tmps ps assign body none).run P w= .ok (w.heap.size+1,[{target:= .collected w.heap.size,args:= #[]}]) W1:= by rw[hW1]; exact run_enterLoop_outer fn a.tmps ps assign body
  have e2:(resolve a.eval (rangeCall g (w.heap.size+1)) 0).run P W1= .ok {target:= .fn (.func gf) caps.toArray,args:= #[Value.func (.yield (w.heap.size+1)) #[] #[]]} W1:= by
    simp only[resolve,rangeCall,ha.eval hg,Deferred.ofValue]
    simp [Act.eval]
  have e3:(invoke (.fn (.func gf) caps.toArray) #[Value.func (.yield (w.heap.size+1)) #[] #[]]).run P W1= .ok (.enter gf (Value.func (.yield (w.heap.size+1)) #[] #[]::caps).toArray) W1:= by
    have :=Ku hc (Value.func (.yield (w.heap.size+1)) #[] #[]::caps).toArray W1
    simp only[invoke]
    simpa using this
  refine⟨w.heap.size+1,[{target:= .collected w.heap.size,args:= #[]}],W1,{target:= .fn (.func gf) caps.toArray,args:= #[Value.func (.yield (w.heap.size+1)) #[] #[]]},W1,gf,(Value.func (.yield (w.heap.size+1)) #[] #[]::caps).toArray,W1,e1,e2, fun _ _=>trivial,e3, fun q=> by simp [Fence.wide]at q, ?_⟩
  subst hW1
  · refine callsIn_wide.2 ((h {state:= .ready,pending:=none,fn,tmps:=a.tmps,params:=ps,assign,body,defers:=w.heap.size} rfl rfl rfl rfl rfl ha.size ha.get).mono fun e w3 ⟨⟨v,he⟩,rec,h1,h2,h3,h4⟩=> ?_)
    subst he
    obtain⟨st,pd,f1,t1,p1,a1,b1,d1⟩:=rec
    simp only at h3
    subst h3
    exact⟨none,_,run_endLoop h1 h2,h4 {a with defers:=[{target:= .collected w.heap.size,args:= #[]}]++a.defers} rfl (by rw[ha.defers];rfl)⟩
theorem Hl {f:FuncId} {fn:Func} {c:Code} {args:List Value} {R:Ending→World→Prop} (hf:P.funcs[f]? =some fn) (hb:fn.body=some c) (hn:fn.ntmps=n) (hl:Nat.ble args.length n=true)
    (h:wc P n c (bodyPostM Fence.wide 0 P fn R) (B8 0 args) w):Calls P f args.toArray w R:= by
  have hle:args.length≤n:=Xn hl
  unfold wc at h
  refine callsIn_wide.1 (callsIn_of_wp_marks (F:=Fence.wide) (n:=0) hf hb trivial ((wpIn_wide (n:=0)).2 (h _ ⟨by simp [hn];omega,rfl, fun t v ht=> ?_⟩)))
  obtain⟨_,h2⟩:=U7 args 0 t v ht
  simp only[Nat.sub_zero]at h2
  have hlt:=(XQ h2).1
  rw[Array.getElem?_append_left (by simpa using hlt)]
  simpa using h2
@[irreducible] def wlI (P:Program) (n:Nat) (ops:Array Oper) (Q:Exit→Act→World→Prop) (rest:List Oper) (L:Env) (w:World):Prop:= ∀a,Fr n L a→wpListIn Fence.wide 0 P ops Q rest a w
theorem Jz {id:Nat} (h:wlI P n ops Q ops.toList L w):wc P n (.region id ops false) Q L w:= by
  unfold wlI at h;unfold wc
  intro a ha
  exact(wpIn_wide (n:=0)).1 (wpIn_region_list (h a ha))
theorem HM (h:qs n Q .normal L w):wlI P n ops Q [] L w:= by
  unfold wlI;unfold qs at h
  exact h
theorem XC {rest:List Oper} {d:Nat} {op:Op} {v:Value} {ty:TypeId} {pos:String} {aft:Array Edge} (hd:Nat.blt d n=true) (h:Ev P L w ⟨some d,op,ty,pos,aft,none⟩ v) (hk:wlI P n ops Q rest ((d,v)::L) w):wlI P n ops Q (⟨some d,op,ty,pos,aft,none⟩::rest) L w:= by
  unfold wlI at *
  intro a ha
  unfold wpListIn
  rw[if_pos (by simp [Region.wanted])]
  refine⟨fun _ _=>trivial, ?_⟩
  have h1:=h a.eval (fun x u hx=>ha.eval hx)
  show Oper.uponIn _ _ _ _ _ _ _ ((Oper.semAt none a.eval _).run P w)
  rw[Oper.semAt_none,h1]
  exact hk _ (ha.put (some d) v hd)
theorem Ul {rest:List Oper} {d:Nat} {x y:Operand} {u v:Value} {ts:Array TypeId} {ty:TypeId} {pos:String} {aft:Array Edge} {R:World→Prop} (hx:look L x=some (.func (.yield l) #[] #[])) (hy:look L y=some v) (hd:Nat.blt d n=true)
    (hY:YieldAt Fence.wide 0 P l #[v] w (fun e w'=>e= .returned u∧R w')) (hk: ∀w',R w'→wlI P n ops Q rest ((d,u)::L) w'):wlI P n ops Q (⟨some d,.call ⟨.value x, #[y],ts⟩,ty,pos,aft,none⟩::rest) L w:= by
  obtain⟨fn,tmps,assign,body,h1,h2⟩:=hY
  unfold wlI at *
  intro a ha
  unfold wpListIn
  rw[if_pos (by simp [Region.wanted])]
  refine⟨fun _ _=>trivial, ?_⟩
  have h3:(execOp a.eval ⟨some d,.call ⟨.value x, #[y],ts⟩,ty,pos,aft,none⟩).run P w= .ok (.round l fn tmps assign body) w:= by
    simp only[execOp,resolve,ha.eval hx,Deferred.ofValue,invoke]
    simp [ha.eval hy,h1]
  show Oper.uponIn _ _ _ _ _ _ _ ((Oper.semAt none a.eval _).run P w)
  rw[Oper.semAt_none,h3]
  refine⟨fun q=> by simp [Fence.wide]at q,h2.mono fun e w' ⟨he,hR⟩=> ?_⟩
  subst he
  exact hk w' hR _ (ha.put (some d) u hd)
def Js (l:Nat) (rec:Loop):Th where
  at_:= fun w F=>(F= fun k=>k=l)∧w.heap[l]? =some (.loop rec)
  fr:= fun a ⟨e,h⟩=>⟨e, by rw[a.blk _ (by rw[e])]; exact h⟩
  lt:= fun {w F} ⟨e,h⟩ k hk=> by
    rw[e]at hk; subst hk
    rcases Nat.lt_or_ge k w.heap.size with g | g
    · exact g
    · rw[Array.getElem?_eq_none g]at h; cases h
def Ws (b:Nat):Th where
  at_:= fun w F=>(F= fun k=>k=b)∧w.heap[b]? =some (.deferred (some []))
  fr:= fun a ⟨e,h⟩=>⟨e, by rw[a.blk _ (by rw[e])]; exact h⟩
  lt:= fun {w F} ⟨e,h⟩ k hk=> by
    rw[e]at hk; subst hk
    rcases Nat.lt_or_ge k w.heap.size with g | g
    · exact g
    · rw[Array.getElem?_eq_none g]at h; cases h
variable {As:List Th}
theorem Sat.loop (h:Sat w As) (i:Nat) {rec:Loop} (hi:As[i]? =some (Js l rec)):w.heap[l]? =some (.loop rec):= by
  obtain⟨F,_,h⟩:=h.get i hi; exact h
theorem Sat.loop_put (h:Sat w As) (i:Nat) {rec rec':Loop} (hi:As[i]? =some (Js l rec)):Sat (w.putObj l (.loop rec')) (As.set i (Js l rec')):= by
  have hl:=h.loop i hi
  have hlt:l<w.heap.size:= by
    rcases Nat.lt_or_ge l w.heap.size with g | g
    · exact g
    · rw[Array.getElem?_eq_none g]at hl; cases hl
  refine h.step i hi fun F ⟨e,_⟩=>⟨F,⟨e,World.putObj_heap_same hlt⟩, fun k hk=> .inl hk,rfl,rfl,rfl, fun k hk=>World.putObj_heap_other fun q=>hk.2 (by rw[e]; exact q)⟩
theorem Sat.enter_loop (h:Sat w As) (rec:Loop):Sat ((w.alloc (.deferred (some []))).alloc (.loop rec)) (Js (w.heap.size+1) rec::Ws w.heap.size::As):= by
  have h1:Sat (w.alloc (.deferred (some []))) (Ws w.heap.size::As):=h.new ((Only.refl _ _).alloc _) (A:=Ws w.heap.size) (F':= fun k=>k=w.heap.size) ⟨rfl,heap_alloc_new w _⟩ (fun k hk=> by rw[hk]; exact Nat.le_refl _)
  have h2:=h1.new (w':=(w.alloc (.deferred (some []))).alloc (.loop rec)) ((Only.refl _ _).alloc _) (A:=Js (w.heap.size+1) rec) (F':= fun k=>k=w.heap.size+1) ⟨rfl, by have :=heap_alloc_new (w.alloc (.deferred (some []))) (.loop rec);simpa using this⟩ (fun k hk=> by rw[hk]; simp)
  exact h2
def Ua {κ:Type} (P:Program) (l:Nat) (kv:κ→Value) (ok:List κ→κ→Prop) (J:List κ→Th):Prop:=
  ∀(ks:List κ) (k:κ) (R:Th) (w:World),ok ks k→Sat w [J ks,R]→YieldAt Fence.wide 0 P l #[kv k] w (fun e w'=>e= .returned (.bool true)∧Sat w' [J (ks++[k]),R])
structure Came {κ:Type} (g:κ→Option Value) (ks:List κ):Prop where
  nodup:ks.Nodup
  has: ∀k∈ks,g k≠none
def okC {κ:Type} (g:κ→Option Value) (ks:List κ) (k:κ):Prop:=Came g (ks++[k])
structure CSt {κ:Type} (g:κ→Option Value) (dn:κ→Prop) (ks:List κ):Prop where
  came:Came g ks
  mem: ∀k,k∈ks↔dn k
theorem CSt.start {κ:Type} (g:κ→Option Value):CSt g (fun _=>False) []:=⟨⟨List.nodup_nil, by simp⟩, by simp⟩
theorem CSt.ok {κ:Type} {g:κ→Option Value} {dn:κ→Prop} {ks:List κ} {k:κ} {v:Value} (h:CSt g dn ks) (hn: ¬dn k) (hg:g k=some v):okC g ks k:= by
  refine⟨List.nodup_append.2 ⟨h.came.nodup, by simp, ?_⟩, fun j hj=> ?_⟩
  · rintro a ha b hb rfl
    simp at hb; subst hb
    exact hn ((h.mem _).1 ha)
  · rcases List.mem_append.1 hj with hj | hj
    · exact h.came.has j hj
    · simp at hj; subst hj; rw[hg]; simp
theorem CSt.step {κ:Type} {g:κ→Option Value} {dn:κ→Prop} {ks:List κ} {k:κ} {v:Value} (h:CSt g dn ks) (hn: ¬dn k) (hg:g k=some v):CSt g (fun j=>dn j∨j=k) (ks++[k]):=
  ⟨h.ok hn hg, fun j=> by rw[List.mem_append,h.mem j]; simp⟩
structure AllC {κ:Type} (g:κ→Option Value) (ks:List κ):Prop where
  nodup:ks.Nodup
  mem: ∀k,k∈ks↔g k≠none
theorem CSt.all {κ:Type} {g:κ→Option Value} {dn:κ→Prop} {ks:List κ} (h:CSt g dn ks) (hd: ∀k v,g k=some v→dn k):AllC g ks:=
  ⟨h.came.nodup, fun k=>⟨h.came.has k, fun hk=> by
    cases hq:g k with
    | none=> exact absurd hq hk
    | some v=> exact(h.mem k).2 (hd k v hq)⟩⟩
theorem DE {fn:Func} {R:Ending→World→Prop} {a:Act} {id d1 d2 t b D:Nat} {x:Operand} {v:Value} {ty1 ty2:TypeId} {p1 p2:String} {f1 f2:Array Edge} (hsz:a.tmps.size=n) (hget: ∀t v,Xt L t=some v→a.tmps[t]? =some v) (hdef:a.defers=[{target:= .collected D,args:= #[]}])
    (hx:look L x=some (ptrV b 0)) (ha:ZK P t=some false) (hc:w.cell? ⟨b,0,none⟩=some v) (hD:w.heap[D]? =some (.deferred (some []))) (h1:Nat.blt d1 n=true) (h2:Nat.blt d2 n=true) (hres:fn.results= #[.tmp d2])
    (hR:R (.returned v) (w.putObj D (.deferred none))):
    (Code.seq (.region id #[⟨some d1,.load t x,ty1,p1,f1,none⟩,⟨some d2,.assign (.tmp d1),ty2,p2,f2,none⟩] false) .ret).wp P (bodyPostM Fence.wide 0 P fn R) a w:= by
  have ha0:Fr n L {tmps:=a.tmps,defers:=[]}:=⟨hsz,rfl,hget⟩
  have hev: ∀y,a.eval y=({tmps:=a.tmps,defers:=[]}:Act).eval y:= fun y=> by cases y<;>rfl
  refine Go.wp_seq (Go.wp_region_lit ?_)
  refine Vp (R:= fun u w'=>u=v∧w'=w) rfl ⟨v,w,.inl (Qm (d:=d1) (ty:=ty1) (pos:=p1) (aft:=f1) hx ha hc a.eval fun y u hy=> by rw[hev]; exact ha0.eval hy),rfl,rfl⟩ ?_
  rintro v1 w1 ⟨q1,q2⟩
  rw[q1,q2]
  have hd1:d1<a.tmps.size:= by rw[hsz];simpa using h1
  have e1:(a.put (some d1) v).eval (.tmp d1)=v:= by simp [Act.put,Act.eval,hd1]
  refine Vp (R:= fun u w'=>u=v∧w'=w) rfl ⟨v,w,.inl ?_,rfl,rfl⟩ ?_
  · simp [execOp,e1]
  rintro v2 w2 ⟨q3,q4⟩
  rw[q3,q4]
  show Code.wp P .ret _ _ w
  refine Go.wp_ret ?_
  show LeavesInM Fence.wide 0 P fn _ R _ .returning w
  have hdf:((a.put (some d1) v).put (some d2) v).defers=[{target:= .collected D,args:= #[]}]:= by simp [Act.put,hdef]
  rw[hdf]
  refine⟨by simp,.inl ⟨D,_,rfl,run_takeDeferred hD, ?_⟩⟩
  refine⟨v, ?_,hR⟩
  have hd2:d2<a.tmps.size:= by rw[hsz];simpa using h2
  simp [results,hres,Act.put,hd2]
theorem Sat.defer_put {As:List Th} (h:Sat w As) (i:Nat) {D:Nat} {o:Obj} (hi:As[i]? =some (Ws D)):w.heap[D]? =some (.deferred (some []))∧Sat (w.putObj D o) (As.eraseIdx i):= by
  have hp:=h.pull i hi
  obtain⟨F,F1,F2,rfl,dj,⟨e1,h1⟩,h2⟩:=hp
  have hag:Agree F2 w (w.putObj D o):=⟨rfl,rfl,rfl, fun k hk=>World.putObj_heap_other fun q=>dj k (by rw[e1]; exact q) hk⟩
  exact⟨h1,F2,(starL (As.eraseIdx i)).fr hag h2⟩
end
def Sch (l:Array Oper):Array Bool→List Nat→Prop
  | listed,[]=>Region.ready .any l listed=[]
  | listed,i::s=>i∈Region.ready .any l listed∧Sch l (listed.setIfInBounds i true) s
theorem DY (ops:Array Oper) (listed:Array Bool):Region.ready .any ops listed=(List.range ops.size).filter fun i=> !listed.getD i true&&((ops[i]?).map (·.after.all fun e=> !Region.binds .any e || listed.getD e.on false)).getD false:=rfl
theorem EP {listed:Array Bool} {i:Nat} (h:(!listed.getD i true)=true):i<listed.size∧listed.getD i false=false:= by
  have hi:i<listed.size:= by
    rcases Nat.lt_or_ge i listed.size with q | q
    · exact q
    · simp [Array.getD,Nat.not_lt.2 q]at h
  refine⟨hi, ?_⟩
  simp [Array.getD,hi]at h⊢
  exact h
theorem R7 {l:Array Oper} {listed:Array Bool} {i:Nat} (h:i∈Region.ready .any l listed):i<l.size∧i<listed.size∧listed.getD i false=false:= by
  rw[DY]at h
  simp only[List.mem_filter,List.mem_range,Bool.and_eq_true]at h
  have :=EP h.2.1
  exact⟨h.1,this.1,this.2⟩
theorem SI (l:Array Oper): ∀(fuel t:Nat) (listed:Array Bool),H0 listed l.size≤fuel→Sch l listed (Region.linearise.go .any l fuel t listed [])
  | 0,t,listed,h=> by
    simp only[Region.linearise.go,List.reverse_nil,Sch]
    cases hr:Region.ready .any l listed with
    | nil=>rfl
    | cons i rs=>
      have hm:i∈Region.ready .any l listed:= by rw[hr]; simp
      obtain⟨h1,_,h2⟩:=R7 hm
      have h3:i∈(List.range l.size).filter fun i=> !listed.getD i false:= by simp only[List.mem_filter,List.mem_range,h2]; exact⟨h1,rfl⟩
      have h4:((List.range l.size).filter fun i=> !listed.getD i false)=[]:=List.eq_nil_of_length_eq_zero (by unfold H0 at h;omega)
      rw[h4]at h3; cases h3
  | fuel+1,t,listed,h=> by
    simp only[Region.linearise.go]
    change Sch l listed (match(Region.ready .any l listed)[t%(Region.ready .any l listed).length]? with
      | some i=>Region.linearise.go .any l fuel (t/ (Region.ready .any l listed).length) (listed.setIfInBounds i true) [i]
      | none=>[].reverse)
    cases hi:(Region.ready .any l listed)[t%(Region.ready .any l listed).length]? with
    | none=>
      simp only[List.reverse_nil,Sch]
      cases hr:Region.ready .any l listed with
      | nil=>rfl
      | cons x xs=>
        rw[hr]at hi
        have hlt:t%(x::xs).length<(x::xs).length:=Nat.mod_lt _ (by simp)
        rw[Zd hlt]at hi; cases hi
    | some i=>
      simp only[]
      have hm:=List.mem_of_getElem? hi
      obtain⟨h1,h2,h3⟩:=R7 hm
      rw[linearise_go_acc,List.reverse_singleton,List.singleton_append]
      refine⟨hm,SI l fuel _ _ ?_⟩
      have :=Tz h1 h2 h3
      omega
theorem LG {P:Program} {l:Array Oper} {Q:Exit→Act→World→Prop}: ∀(s:List Nat) (fuel:Nat) (listed:Array Bool) (a:Act) (w:World),wpAny P .any l Q fuel listed a w→Sch l listed s→wpOps P l Q s a w
  | [],0,_,_,_,h,_=>h.2
  | [],_+1,_,_,_,h,hs=>h.1 hs
  | i::s,0,_,_,_,h,hs=> by have :=hs.1; rw[h.1]at this; cases this
  | i::s,fuel+1,_,_,_,h,hs=> by
    rw[wpOps_cons]
    exact wpOp_mono (fun a w hk=>LG s fuel _ a w hk hs.2) (h.2 i hs.1)
structure AlikeO (l l':Array Oper):Prop where
  at_: ∀i:Nat,(l[i]?).map (fun (o:Oper)=>(o.dst,o.op,o.type,o.pos,o.guard))=(l'[i]?).map (fun (o:Oper)=>(o.dst,o.op,o.type,o.pos,o.guard))
theorem AlikeO.yielded {l l':Array Oper} (h:AlikeO l l') (tmps:Array Value):yielded l tmps=yielded l' tmps:= by
  funext j
  have :=h.at_ j
  unfold Go.yielded
  have e:(l[j]?).bind (·.dst)=(l'[j]?).bind (·.dst):= by
    cases h1:l[j]? <;> cases h2:l'[j]? <;> simp [h1,h2]at this⊢
    exact this.1
  rw[e]
theorem AlikeO.wpOps {P:Program} {Q:Exit→Act→World→Prop} {l l':Array Oper} (h:AlikeO l l'): ∀(s:List Nat) (a:Act) (w:World),wpOps P l' Q s a w→wpOps P l Q s a w
  | [],_,_,hh=>hh
  | i::s,a,w,hh=> by
    rw[wpOps_cons]at hh⊢
    have hh2:=wpOp_mono (fun a w=>h.wpOps s a w) hh
    have hi:=h.at_ i
    unfold wpOp at hh2⊢
    cases h1:l[i]? with
    | none=>
      cases h2:l'[i]? with
      | none=> rw[h2]at hh2; exact hh2
      | some o'=> simp [h1,h2]at hi
    | some o=>
      cases h2:l'[i]? with
      | none=> simp [h1,h2]at hi
      | some o'=>
        rw[h2]at hh2
        simp only at hh2⊢
        obtain⟨d,op,ty,pos,aft,g⟩:=o
        obtain⟨d',op',ty',pos',aft',g'⟩:=o'
        simp [h1,h2]at hi
        obtain⟨rfl,rfl,rfl,rfl,rfl⟩:=hi
        rw[h.yielded]
        have he: ∀ρ:Operand→Value,execOp ρ ⟨d,op,ty,pos,aft,g⟩=execOp ρ ⟨d,op,ty,pos,aft',g⟩:= by intro ρ; cases op<;>rfl
        have hw:Region.wanted ⟨d,op,ty,pos,aft,g⟩ (Go.yielded l' a.tmps)=Region.wanted ⟨d,op,ty,pos,aft',g⟩ (Go.yielded l' a.tmps):=rfl
        rw[hw]
        split
        · rename_i hwt
          rw[if_pos hwt]at hh2
          rcases hh2 with hq | ⟨hq,hl⟩
          · left
            unfold Oper.wp at hq⊢
            rw[he]
            generalize (execOp a.eval ⟨d,op,ty,pos,aft',g⟩).run P w=r at hq⊢
            cases r with
            | ok m w'=> cases m<;> exact hq
            | halt x w'=> cases x<;> exact hq
          · right
            refine⟨?_,hl⟩
            unfold Oper.asks at hq⊢
            rw[he]; exact hq
        · rename_i hwt
          rw[if_neg hwt]at hh2
          exact hh2
def K4:List Oper→Nat→Nat→List Oper
  | [],_,_=>[]
  | o::l,0,x=>{o with after:=o.after.push ⟨x,.chain⟩}::l
  | o::l,i+1,x=>o::K4 l i x
theorem HZ: ∀(l:List Oper) (i x:Nat),(K4 l i x).length=l.length
  | [],_,_=>rfl
  | _::_,0,_=>rfl
  | _::l,i+1,x=> by simp [K4,HZ l i x]
theorem MS: ∀(l:List Oper) (i x k:Nat),(K4 l i x)[k]? = if k=i then(l[k]?).map (fun (o:Oper)=>{o with after:=o.after.push ⟨x,.chain⟩})else l[k]?
  | [],i,x,k=> by simp [K4]
  | o::l,0,x,0=> by simp [K4]
  | o::l,0,x,k+1=> by simp [K4]
  | o::l,i+1,x,0=> by simp [K4]
  | o::l,i+1,x,k+1=> by simp [K4,MS l i x k]
theorem MR {l:List Oper} {i x k:Nat} {listed:Array Bool}:k∈Region.ready .any (K4 l i x).toArray listed↔k∈Region.ready .any l.toArray listed∧(k=i→listed.getD x false=true):= by
  rw[DY,DY]
  simp only[List.mem_filter,List.mem_range,List.size_toArray,HZ,List.getElem?_toArray,MS,Bool.and_eq_true]
  by_cases hk:k=i
  · subst hk
    simp only[if_true]
    cases hl:l[k]? with
    | none=> simp
    | some o=> simp [Region.binds]; exact⟨fun ⟨h1,h2,h3,h4⟩=>⟨⟨h1,h2,h3⟩,h4⟩, fun ⟨⟨h1,h2,h3⟩,h4⟩=>⟨h1,h2,h3,h4⟩⟩
  · simp [hk]
theorem MT (l:List Oper) (i x:Nat):AlikeO l.toArray (K4 l i x).toArray:=⟨fun k=> by
  simp only[List.getElem?_toArray,MS]
  split
  · cases l[k]? <;>rfl
  · rfl⟩
theorem AlikeO.trans {l l' l2:Array Oper} (h:AlikeO l l') (g:AlikeO l' l2):AlikeO l l2:=⟨fun i=>(h.at_ i).trans (g.at_ i)⟩
theorem AlikeO.refl (l:Array Oper):AlikeO l l:=⟨fun _=>rfl⟩
theorem Cx {l:List Oper} {i x:Nat}: ∀(s:List Nat) (listed:Array Bool),Sch l.toArray listed s→(∀p q,s=p++i::q→listed.getD x false=true∨x∈p)→Sch (K4 l i x).toArray listed s
  | [],listed,h,_=> by
    unfold Sch at h⊢
    cases hr:Region.ready .any (K4 l i x).toArray listed with
    | nil=>rfl
    | cons k rs=>
      have hm:k∈Region.ready .any (K4 l i x).toArray listed:= by rw[hr]; simp
      have :=(MR.1 hm).1
      rw[h]at this; cases this
  | k::s,listed,h,hx=> by
    obtain⟨h1,h2⟩:=h
    refine⟨MR.2 ⟨h1, fun e=> ?_⟩,Cx s _ h2 fun p q e=> ?_⟩
    · subst e
      rcases hx [] s rfl with h3 | h3
      · exact h3
      · cases h3
    · rcases hx (k::p) q (by rw[e];rfl)with h3 | h3
      · left
        by_cases hkx:k=x
        · subst hkx; exact WD (R7 h1).2.1
        · rw[WI (fun e=>hkx e.symm)]; exact h3
      · rcases List.mem_cons.1 h3 with h4 | h4
        · subst h4; exact .inl (WD (R7 h1).2.1)
        · exact .inr h4
theorem IF (s:List Nat) {x y:Nat} (hne:x≠y):(∀p q,s=p++y::q→x∈p)∨(∀p q,s=p++x::q→y∈p):= by
  by_cases h: ∀p q,s=p++y::q→x∈p
  · exact .inl h
  · right
    obtain⟨p,hp⟩:=Classical.not_forall.1 h
    obtain⟨q,hq⟩:=Classical.not_forall.1 hp
    obtain⟨e,hx⟩:=Classical.not_imp.1 hq
    intro p' q' e'
    rw[e]at e'
    rcases List.append_eq_append_iff.1 e' with⟨r,h1,h2⟩ | ⟨r,h1,h2⟩
    · cases r with
      | nil=> simp at h2; exact absurd h2.1.symm hne
      | cons r0 r=>
        simp at h2
        rw[h1,h2.1]; simp
    · cases r with
      | nil=> simp at h2; exact absurd h2.1 hne
      | cons r0 r=>
        simp at h2
        refine absurd ?_ hx
        rw[h1,h2.1]; simp
section
variable {P:Program} {n:Nat} {l0 l:List Oper} {sp:List Nat} {Q:Exit→Act→World→Prop}
@[irreducible] def DrW (P:Program) (n:Nat) (l0 l:List Oper) (Q:Exit→Act→World→Prop) (L:Env) (w:World):Prop:=AlikeO l0.toArray l.toArray→ ∀s,Sch l.toArray (Array.replicate l.length false) s→ ∀a,Fr n L a→wpOps P l0.toArray Q s a w
theorem Rv {id:Nat} {L:Env} {w:World} (hm:P.follows .mixedOrders=true) (h:DrW P n l l Q L w.drew):wc P n (.region id l.toArray true) Q L w:= by
  unfold wc
  unfold DrW at h
  intro a ha
  refine wp_region_draw fun t=> ?_
  simp only[Region.schedule,hm,Bool.true_or,if_true]
  refine h (AlikeO.refl _) _ ?_ a ha
  have :=SI l.toArray l.toArray.size t (Array.replicate l.length false) (by
    unfold H0
    have :=List.length_filter_le (fun i=> !(Array.replicate l.length false).getD i false) (List.range l.toArray.size)
    simpa using this)
  simpa [Region.linearise]using this
theorem VI {L:Env} {w:World} (x y:Nat) (hne:Nat.beq x y=false) (h1:DrW P n l0 (K4 l y x) Q L w) (h2:DrW P n l0 (K4 l x y) Q L w):DrW P n l0 l Q L w:= by
  unfold DrW at *
  intro hal s hs a ha
  rcases IF s (x:=x) (y:=y) (fun e=> by subst e; rw[Nat.beq_refl]at hne; cases hne)with h | h
  · refine h1 (hal.trans (MT l y x)) s ?_ a ha
    rw[HZ]
    exact Cx s _ hs fun p q e=> .inr (h p q e)
  · refine h2 (hal.trans (MT l x y)) s ?_ a ha
    rw[HZ]
    exact Cx s _ hs fun p q e=> .inr (h p q e)
theorem U4 {L:Env} {w:World} (ord:List Nat) (hck:CN l n ord sp=true) (h:VC P n l (Yt l []) sp Q ord L w []):DrW P n l0 l Q L w:= by
  unfold DrW
  intro hal s hs a ha
  refine hal.wpOps s a w (LG s l.length _ a w ?_ hs)
  have st:=B3 hck
  have inv0:Inv P n l sp ord Q a L (Array.replicate l.length false) a w [] ord [] false:=
    { size:= by simp,closed:= fun i o _ hl=>(by rw[getD_replicate_false]at hl; cases hl),order:=rfl,vc:=h,head:=(fun h=> by cases h),inD:= fun i hl=>(by rw[getD_replicate_false]at hl; cases hl),
      spD:= by simp,old:= fun _ _=>rfl,val:= by simp,quiet:=(by intro D1 r D2 e; simp at e),again:=(by intro D1 r D2 e; simp at e),ops:= by simp,tsize:=ha.size,defers:=ha.defers}
  obtain⟨D,suf,pf,inv⟩:=inv0.advance st
  have htodo:H0 (Array.replicate l.length false) l.length=l.length:= by
    unfold H0
    rw[List.filter_eq_self.2 (fun i _=> by rw[getD_replicate_false];rfl)]
    simp
  exact D6 st ha l.length (Array.replicate l.length false) a w D suf pf inv htodo
end
end Go.Proofs.YtkcjfoaejijdoaaGreatDoor.M
