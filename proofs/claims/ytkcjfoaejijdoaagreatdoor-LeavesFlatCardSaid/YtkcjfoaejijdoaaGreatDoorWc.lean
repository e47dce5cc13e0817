/- world: SetByte, Drop, Copy -/
import Derived.Test.YtkcjfoaejijdoaaGreatDoorLv30
import Derived.Test.YtkcjfoaejijdoaaGreatDoorLv20
import Derived.Test.YtkcjfoaejijdoaaGreatDoorWa
set_option linter.unusedVariables false
set_option maxRecDepth 100000
namespace Go.Proofs.YtkcjfoaejijdoaaGreatDoor
open Go.RowKit M
def XK (s:Bs):List Value:=s.map XS
theorem B7 (s:Bs):(XK s).length=s.length:= by simp [XK]
theorem VP (s:Bs):HG (XK s)=true:=Bk (by intro v hv; obtain⟨c,_,rfl⟩:=List.mem_map.1 hv;rfl)
theorem HE {s t:Bs} (h:s.length=t.length):X3 (XK s) 0 (XK t)=XK t:= by
  simp [X3,XK,h]
theorem B6 (s:Bs) (j:Nat) (c:UInt8):(XK s).set j (XS c)=XK (s.set j c):= by simp [XK,List.map_set]
def Wh (W:WS) (n:Bs) (i:Int) (c:UInt8):WS:= if 0≤i∧i<16384 then GI W n (i/ 64) ((XD W n (i/ 64)).set (i%64).toNat c)else W
theorem KQ {w:World} {p:Nat} {W:WS} {F:Th} (hS:Sat w [Xi p W,F]) (nm:Bs) (i:Int) (c:UInt8) (hk:nm.length≤281474976710656):
    Calls Tryz.prog 97 #[ptrV p 0,strV nm,intV i,XS c] w (Ret fun v w'=>v= .tuple #[]∧Sat w' [Xi p (Wh W nm i c),F]):= by
 refine Qq Tryz.func97 rfl Tryz.ntmps97 rfl ?_
 refine Qd (Qd (Qa (Qb rfl rfl (Qv Lw rfl (ND (hS.sp [] rfl) i) rfl ?_))))
 rintro _ w1 ⟨rfl,hS1⟩
 replace hS1:=hS1.jn rfl rfl
 refine QR rfl rfl (Qf (Qc (QM rfl (fun h2=> ?_) (fun h2=> ?_))))
 ·have hv: ¬(0≤i∧i<16384):= by have hq:=h2; simp at hq;omega
  refine Qu (Qn (ZB (.inr rfl) rfl ?_))
  exact⟨_,rfl,rfl, by rw[Wh,if_neg hv]; exact hS1⟩
 have hv:0≤i∧i<16384:= by simpa using h2
 refine Qr (Qc (Qd ?_))
 have hS:=hS1
 obtain⟨LL,hI,hS⟩:=W5 hS
 obtain⟨Lo,hO,hS⟩:=J3 (hS.pull 2 rfl); dsimp only[List.eraseIdx]at hS
 refine Qa (Qb rfl rfl (Qk rfl rfl (Qg rfl Je rfl (Qo rfl Yc (hS.cell 2 rfl rfl) rfl (Qb rfl rfl ?_)))))
 rcases hq:Jv Lo nm with _ | m
 ·have hno:=H5 hO hq
  refine X2 (k:=nm) 0 hS keysStr Tryz.underlying156 rfl rfl rfl Uc (u:= .map none) (by simp [X4,hq]) rfl ?_
  refine Qb rfl rfl (G5 rfl rfl (by omega) (by omega) (by omega) rfl ?_)
  refine UB (k:=(i/ 64)) keysInt Tryz.underlying164 Jc rfl rfl rfl ?_
  rw[←Mf hno (i/ 64)]
  refine Xg hS Jc (cs:=XK ZQ) rfl rfl ?_
  intro bs w4 hS4
  refine QY (vs:=(XK (XD W nm (i/ 64))).toArray) hS4 rfl rfl UI (by have :=hI.len nm (i/ 64); simp [XK,XD,this]) (VP _) (i:=0) rfl (by decide) ?_
  intro w5 hS5; dsimp only[List.set]at hS5
  rw[show X3 (XK ZQ) 0 (XK (XD W nm (i/ 64))).toArray.toList=XK (XD W nm (i/ 64)) from HE (hI.len nm (i/ 64)).symm]at hS5
  clear hS4
  refine Qf (Qc (Qi [3,2,1,0,8] rfl (Qd (Qa (Qb rfl rfl (G4 rfl rfl (by omega) (by omega) rfl ?_))))))
  refine Qb rfl rfl (Ud (i%64).toNat Tryz.underlying167 rfl rfl (by omega) (by omega) UH rfl ?_)
  rw[show 0+(i%64).toNat*1=(i%64).toNat by omega]
  refine QL (v:=XS c) (o:=(i%64).toNat) hS5 rfl rfl UH rfl (i:=0) rfl (by have :=hI.len nm (i/ 64); rw[B7]; simp only[XD,this];omega) ?_
  intro w6 hS6; dsimp only[List.set]at hS6; rw[B6]at hS6
  clear hS5
  refine Qf (Qc (Qa (Qb rfl rfl (Qb rfl rfl (Qb rfl rfl (G5 rfl rfl (by omega) (by omega) (by omega) rfl ?_))))))
  refine XA (cs:=XK ((XD W nm (i/ 64)).set (i%64).toNat c)) rfl Bl UI (hS6.blk 0 rfl) (by have :=hI.len nm (i/ 64); simp [XK,XD,this]) (vs:=XK ((XD W nm (i/ 64)).set (i%64).toNat c)) (by rw[List.drop_zero]; exact List.take_of_length_le (by have :=hI.len nm (i/ 64); simp [XK,XD,this])) rfl ?_
  have hS7:=WR hI hO (hS6.pick [1,2,3,4,5,6] rfl)
  clear hS6
  refine Qv Dl rfl (Ct (hS7.sp [0] rfl) nm (i/ 64) ((XD W nm (i/ 64)).set (i%64).toNat c) hk (by simp [XD,hI.len]) (by omega)) rfl ?_
  rintro _ w8 ⟨rfl,hS8⟩
  replace hS8:=hS8.jn rfl rfl
  clear hS7
  refine Qf (ZB (.inl rfl) rfl ?_)
  exact⟨_,rfl,rfl, by rw[Wh,if_pos hv]; exact hS8⟩
 obtain⟨im,him⟩:=YG hq
 refine X2 (k:=nm) 0 hS keysStr Tryz.underlying156 rfl rfl rfl Uc (u:= .map (some m)) (by simp [X4,hq]) rfl ?_
 have hS3:=HW (i:=im) (A:=Wo W.objs (nm,m)) (hS.pull 1 rfl) (by simp [him]); dsimp only[List.eraseIdx,Wo]at hS3
 refine Qb rfl rfl (G5 rfl rfl (by omega) (by omega) (by omega) rfl ?_)
 refine X2 (k:=(i/ 64)) 0 hS3 keysInt Tryz.underlying164 rfl rfl rfl Jc (u:=WH (XD W nm (i/ 64))) (UP _ _) rfl (Xg hS3 Jc (cs:=XK ZQ) rfl rfl ?_)
 intro bs w9 hS9
 clear hS3
 refine QY (vs:=(XK (XD W nm (i/ 64))).toArray) hS9 rfl rfl UI (by have :=hI.len nm (i/ 64); simp [XK,XD,this]) (VP _) (i:=0) rfl (by decide) ?_
 intro w10 hS10; dsimp only[List.set]at hS10
 rw[show X3 (XK ZQ) 0 (XK (XD W nm (i/ 64))).toArray.toList=XK (XD W nm (i/ 64)) from HE (hI.len nm (i/ 64)).symm]at hS10
 clear hS9
 refine Qf (Qc (Qi [3,2,1,0,8] rfl (Qd (Qa (Qb rfl rfl (G4 rfl rfl (by omega) (by omega) rfl ?_))))))
 refine Qb rfl rfl (Ud (i%64).toNat Tryz.underlying167 rfl rfl (by omega) (by omega) UH rfl ?_)
 rw[show 0+(i%64).toNat*1=(i%64).toNat by omega]
 refine QL (v:=XS c) (o:=(i%64).toNat) hS10 rfl rfl UH rfl (i:=0) rfl (by have :=hI.len nm (i/ 64); rw[B7]; simp only[XD,this];omega) ?_
 intro w11 hS11; dsimp only[List.set]at hS11; rw[B6]at hS11
 clear hS10
 refine Qf (Qc (Qa (Qb rfl rfl (Qb rfl rfl (Qb rfl rfl (G5 rfl rfl (by omega) (by omega) (by omega) rfl ?_))))))
 refine XA (cs:=XK ((XD W nm (i/ 64)).set (i%64).toNat c)) rfl Bl UI (hS11.blk 0 rfl) (by have :=hI.len nm (i/ 64); simp [XK,XD,this]) (vs:=XK ((XD W nm (i/ 64)).set (i%64).toNat c)) (by rw[List.drop_zero]; exact List.take_of_length_le (by have :=hI.len nm (i/ 64); simp [XK,XD,this])) rfl ?_
 have hS12:=HJ hI hO him (hS11.pick [1,2,3,4,5,6,7] rfl)
 clear hS11
 refine Qv Dl rfl (Ct (hS12.sp [0] rfl) nm (i/ 64) ((XD W nm (i/ 64)).set (i%64).toNat c) hk (by simp [XD,hI.len]) (by omega)) rfl ?_
 rintro _ w13 ⟨rfl,hS13⟩
 replace hS13:=hS13.jn rfl rfl
 clear hS12
 refine Qf (ZB (.inl rfl) rfl ?_)
 exact⟨_,rfl,rfl, by rw[Wh,if_pos hv]; exact hS13⟩
def Vj (W:WS) (n:Bs):WS:={W with objs:= fun m q=> if m=n then none else W.objs m q}
theorem ST {W:WS} {n:Bs} (h: ∀q,W.objs n q=none):Vj W n=W:= by
  have :(fun m q=> if m=n then none else W.objs m q)=W.objs:= by
    funext m q;by_cases hm:m=n
    · subst hm; simp [h]
    · simp [hm]
  unfold Vj; rw[this]
theorem PagesOk.drop {W:WS} (h:PagesOk W.objs) (n:Bs):PagesOk (Vj W n).objs:=⟨fun m q s hs=> by
  simp only[Vj]at hs
  split at hs
  · cases hs
  · exact h.ok m q s hs⟩
theorem Ac {w:World} {p:Nat} {W:WS} {LL:WL} {Lo:List (Bs×Nat)} {F:Th} {n:Bs} (hI:PagesOk W.objs) (hO:ObjL Lo W.objs) (h:Sat w [Q3 Xp LL.bo (upd (X4 Lo) n none),starL (Lo.map (Wo W.objs)),QF p (Wf LL W.time),Q3 Xp LL.bc (X7 W.cells),Q3 Xp LL.bl (X7 W.logs),F]):Sat w [Xi p (Vj W n),F]:= by
  rcases hq:Jv Lo n with _ | m
  · rw[Bx hq]at h
    rw[ST (H5 hO hq)]
    exact WR hI hO h
  · obtain⟨im,him⟩:=YG hq
    have h1:=HW (i:=im) (A:=Wo W.objs (n,m)) (h.pull 1 rfl) (by simp [him]); dsimp only[List.eraseIdx,Wo]at h1
    exact Tl (hI.drop n) hO him (fun q=> by simp) (fun k hk=> by funext q; simp [hk]) h1.tail
theorem CM {w:World} {p:Nat} {W:WS} {F:Th} (hS:Sat w [Xi p W,F]) (nm:Bs):
    Calls Tryz.prog 96 #[ptrV p 0,strV nm] w (Ret fun v w'=>v= .tuple #[]∧Sat w' [Xi p (Vj W nm),F]):= by
 obtain⟨LL,hI,hS⟩:=W5 hS
 obtain⟨Lo,hO,hS⟩:=J3 (hS.pull 2 rfl); dsimp only[List.eraseIdx]at hS
 refine Qq Tryz.func96 rfl Tryz.ntmps96 rfl ?_
 refine Qa (Qb rfl rfl (Qk rfl rfl (Qg rfl Je rfl (Qo rfl Yc (hS.cell 2 rfl rfl) rfl (Qb rfl rfl (Ji (k:=nm) 0 hS keysStr Tryz.underlying156 rfl rfl rfl rfl ?_))))))
 intro w1 hS1; dsimp only[List.set]at hS1
 exact Qf (ZB (.inl rfl) rfl (⟨_,rfl,rfl,Ac hI hO hS1⟩))
theorem Cc {w:World} {F:Th} {b:Nat} {g:Int→Option Value} (hS:Sat w [Q3 Xf b g,F]):
    Calls Tryz.prog 99 #[.map (some b)] w (Ret fun v w'=> ∃b',v= .map (some b')∧Sat w' [Q3 Xf b' g,Q3 Xf b g,F]):= by
 refine Qq Tryz.func99 rfl Tryz.ntmps99 rfl ?_
 refine Qd (Qa (Qe rfl rfl (Qf (Qc (Qd (Qd (Qa (Qb rfl rfl (UC Tryz.underlying164 rfl rfl rfl (Qf (Qc (QV rfl (Qr (Qc (Qd (Qa (Qb rfl rfl (Rs FT rfl rfl (Rr 0 hS Tryz.func127 mc1 mc2 mc3 mc4 rfl rfl rfl ?_)))))))))))))))))))
 intro b9 w9 hS9
 exact K5 FT rfl rfl (Qe rfl rfl (Qf (Qc (Qu (QQ (.inr rfl) rfl rfl (⟨_,rfl,_,rfl,hS9⟩))))))
theorem Ao {w:World} {F:Th} (hS:Sat w [F]):
    Calls Tryz.prog 99 #[.map none] w (Ret fun v w'=>v= .map none∧Sat w' [F]):= by
 refine Qq Tryz.func99 rfl Tryz.ntmps99 rfl ?_
 exact Qd (Qa (Qe rfl rfl (Qf (Qc (Qd (Qd (Qa (Qb rfl rfl (Vg Tryz.underlying164 rfl rfl rfl (Qf (Qc (Xr rfl (Qd (Qa (Qe rfl rfl (Qf (Qc (Qu (Qn (QQ (.inr rfl) rfl rfl (⟨_,rfl,rfl,hS⟩)))))))))))))))))))))
def OP (v:Value) (o:Int→Option Bs):Th:=CG fun m:Option Nat=>starL [WN (v= .map m∧(m=none→ ∀q,o q=none)), match m with | none=>SQ | some b=>Q3 Xf b (ZT o)]
theorem TJ {w:World} {As:List Th} {b:Nat} {o:Int→Option Bs} (h:Sat w (Q3 Xf b (ZT o)::As)):Sat w (OP (.map (some b)) o::As):=
  Sat.ex_intro (some b) (Sat.fold (As:=[WN _,Q3 Xf b (ZT o)]) (Sat.pure_intro ⟨rfl, by simp⟩ h))
theorem TK {w:World} {As:List Th} {o:Int→Option Bs} (ho: ∀q,o q=none) (h:Sat w As):Sat w (OP (.map none) o::As):=
  Sat.ex_intro none (Sat.fold (As:=[WN _,SQ]) (Sat.pure_intro ⟨rfl, fun _=>ho⟩ (h.new (Only.refl [] w) (A:=SQ) (F':= fun _=>False) rfl (fun _ q=>q.elim))))
theorem EE {w:World} {As:List Th} {v:Value} {o:Int→Option Bs} (h:Sat w (OP v o::As)):(v= .map none∧(∀q,o q=none)∧Sat w As)∨ ∃b,v= .map (some b)∧Sat w (Q3 Xf b (ZT o)::As):= by
  obtain⟨m,h⟩:=h.ex
  obtain⟨⟨h1,h2⟩,h3⟩:=h.flat.pure_elim
  cases m with
  | none=> exact .inl ⟨h1,h2 rfl,h3.tail⟩
  | some b=> exact .inr ⟨b,h1,h3⟩
def VO (W:WS) (frm:Bs) (first:Int) (to:Bs) (at_ hi:Int):WS:={W with objs:= fun m q=> if m=to∧max at_ 0≤q∧q<hi then W.objs frm (first+q -at_)else W.objs m q}
def KH (W:WS) (frm:Bs) (first n:Int) (to:Bs) (at_:Int):WS:=VO W frm first to at_ (min (at_+n) 256)
theorem VN {W:WS} {frm to:Bs} {first at_ hi:Int} (h:hi≤max at_ 0):VO W frm first to at_ hi=W:= by
  have :(fun m q=> if m=to∧max at_ 0≤q∧q<hi then W.objs frm (first+q -at_)else W.objs m q)=W.objs:= by
    funext m q; rw[if_neg (by omega)]
  unfold VO; rw[this]
theorem B4 {W:WS} {frm to:Bs} {first at_ j:Int} (hI:PagesOk W.objs) (h:max at_ 0≤j):GI (VO W frm first to at_ j) to j (W2 (W.objs frm (first+j -at_)))=VO W frm first to at_ (j+1):= by
  unfold GI VO
  congr 1
  funext m q
  unfold KP
  by_cases h1:m=to∧q=j
  · rw[if_pos h1,if_pos (show m=to∧max at_ 0≤q∧q<j+1 from⟨h1.1, by omega, by omega⟩),h1.2]
    cases hq:W.objs frm (first+j -at_)with
    | none=> simp [W2]
    | some s=> simp [W2,(hI.ok _ _ _ hq).2.1]
  · rw[if_neg h1]
    dsimp only
    by_cases h2:m=to∧max at_ 0≤q∧q<j
    · rw[if_pos h2,if_pos (show m=to∧max at_ 0≤q∧q<j+1 from⟨h2.1,h2.2.1, by omega⟩)]
    · have h3: ¬(m=to∧max at_ 0≤q∧q<j+1):= by
        rintro⟨a,b,c⟩
        have :q≠j:= fun e=>h1 ⟨a,e⟩
        exact h2 ⟨a,b, by omega⟩
      rw[if_neg h2,if_neg h3]
theorem N8 {w:World} {p:Nat} {W:WS} {LL:WL} {Lo:List (Bs×Nat)} {F X:Th} {n:Bs} {m im:Nat} (hI:PagesOk W.objs) (hO:ObjL Lo W.objs) (him:Lo[im]? =some (n,m)) (h:Sat w [Q3 Xf m (ZT (W.objs n)),starL ((Lo.map (Wo W.objs)).eraseIdx im),Q3 Xp LL.bo (X4 Lo),QF p (Wf LL W.time),Q3 Xp LL.bc (X7 W.cells),Q3 Xp LL.bl (X7 W.logs),F,X]):Sat w [Xi p W,F,X]:= by
  have h1:=h.split [0,1,2,3,4,5] [true,true,true,true,true,true,false,false] rfl
  dsimp only[UL,JU,H6,Ds,Dr]at h1
  have h2:=HJ hI hO him h1
  exact h2.join rfl
theorem qaf {w:World} {p:Nat} {W:WS} {F:Th} {frm to:Bs} {first n at_ j:Int} (hj:(max at_ 0≤j∧j≤max (max at_ 0) (min (at_+n) 256))∧ ¬j<min (at_+n) 256) (h:Sat w [Xi p (VO W frm first to at_ j),F]):Sat w [Xi p (KH W frm first n to at_),F]:= by
  unfold KH
  by_cases hc:min (at_+n) 256≤max at_ 0
  · rw[VN hc]; rw[VN (by omega)]at h; exact h
  · rw[show min (at_+n) 256=j by omega]; exact h
theorem Di {w:World} {p:Nat} {W:WS} {F:Th} (hS:Sat w [Xi p W,F]) (frm:Bs) (first n:Int) (to:Bs) (at_:Int) (hk:to.length≤281474976710656) (hb: -2251799813685248≤first∧first≤2251799813685248) (hb2: -2251799813685248≤n∧n≤2251799813685248) (hb3: -2251799813685248≤at_∧at_≤2251799813685248):
    Calls Tryz.prog 95 #[ptrV p 0,strV frm,intV first,intV n,strV to,intV at_] w (Ret fun v w'=>v= .tuple #[]∧Sat w' [Xi p (KH W frm first n to at_),F]):= by
 obtain⟨LL,hI,hS⟩:=W5 hS
 obtain⟨Lo,hO,hS⟩:=J3 (hS.pull 2 rfl); dsimp only[List.eraseIdx]at hS
 refine Qq Tryz.func95 rfl Tryz.ntmps95 rfl ?_
 refine Ue (fun E0 W0=> ∃(ov:Value),E0=[(0,ptrV p 0),(2,intV first),(3,intV n),(4,strV to),(5,intV at_),(12,ov)]∧Sat W0 [OP ov (W.objs frm),Xi p W,F]) ?_ ?_
 ·refine Qa (Qb rfl rfl (Qk rfl rfl (Qg rfl Je rfl (Qo rfl Yc (hS.cell 2 rfl rfl) rfl (Qb rfl rfl ?_)))))
  rcases hq:Jv Lo frm with _ | m
  ·have hno:=H5 hO hq
   refine X2 (k:=frm) 0 hS keysStr Tryz.underlying156 rfl rfl rfl Uc (u:= .map none) (by simp [X4,hq]) rfl ?_
   refine Qv Fi rfl (Ao (hS.sp [] rfl)) rfl ?_
   rintro _ w3 ⟨rfl,hS3⟩
   replace hS3:=hS3.jn rfl rfl
   refine Qe rfl rfl (Qf ?_)
   have hSx:=WR hI hO (hS3.reorder [0,1,2,3,4,5] rfl)
   exact Z9 (U9 rfl rfl rfl rfl rfl rfl) ⟨_,rfl,TK hno hSx⟩
  obtain⟨im,him⟩:=YG hq
  refine X2 (k:=frm) 0 hS keysStr Tryz.underlying156 rfl rfl rfl Uc (u:= .map (some m)) (by simp [X4,hq]) rfl ?_
  have hS2:=HW (i:=im) (A:=Wo W.objs (frm,m)) (hS.pull 1 rfl) (by simp [him]); dsimp only[List.eraseIdx,Wo]at hS2
  refine Qv Fi rfl (Cc (hS2.sp [0] rfl)) rfl ?_
  rintro _ w4 ⟨b4,rfl,hS4⟩
  replace hS4:=hS4.jn rfl rfl
  clear hS2
  refine Qe rfl rfl (Qf ?_)
  have hSx:=(hS4.reorder [1,2,3,4,5,6,7,0] rfl); dsimp only[JU,H6]at hSx
  have hSy:=N8 hI hO him hSx
  exact Z9 (U9 rfl rfl rfl rfl rfl rfl) ⟨_,rfl,TJ (hSy.reorder [2,0,1] rfl)⟩
 rintro _ w1 ⟨ov,rfl,hS1⟩
 refine Qd (Qa (Qb rfl rfl (Yj rfl rfl rfl (Qe rfl rfl (Qf (Qc (Qw ?_)))))))
 refine Xe (fun K0 E0 W0=> ∃(j:Int),K0=(256 -j).toNat∧E0=[(0,ptrV p 0),(2,intV first),(3,intV n),(4,strV to),(5,intV at_),(12,ov),(13,intV j)]∧Sat W0 [OP ov (W.objs frm),Xi p (VO W frm first to at_ j),F]∧(max at_ 0≤j∧j≤max (max at_ 0) (min (at_+n) 256))) (L0:=[(0,_),(2,_),(3,_),(4,_),(5,_),(12,_),(13,_)]) ((256 -max at_ 0).toNat) (N6 rfl rfl rfl rfl rfl rfl rfl) ⟨max at_ 0,rfl,rfl, by rw[VN (Int.le_refl _)]; exact hS1, by omega⟩ ?_
 rintro _ _ w5 ⟨j,rfl,rfl,hS5,hj⟩
 refine Qd (Qd (Qa (Qb rfl rfl (Qb rfl rfl (Qb rfl rfl (QK rfl rfl (by omega) (by omega) rfl ?_))))))
 refine HL rfl rfl rfl (Xb rfl rfl rfl (Qf (Qc (Qi [13,12,5,4,3,2,0,28] rfl (Qs rfl (fun h6=> ?_) (fun h6=> ?_))))))
 ·refine Qr (Qc (Qd (Qw (Qa (Qb rfl rfl (Qb rfl rfl (Qb rfl rfl (Qb rfl rfl (Qb rfl rfl (Qb rfl rfl (QK rfl rfl (by omega) (by omega) rfl ?_)))))))))))
  refine Qb rfl rfl (Hf rfl rfl (by omega) (by omega) rfl ?_)
  rcases EE hS5 with⟨hov,hon,hSo⟩ | ⟨bo,hov,hSo⟩
  ·clear hS5
   subst hov
   refine UB (k:=(first+j -at_)) keysInt Tryz.underlying164 Jc rfl rfl rfl ?_
   rw[show WH ZQ=WH (W2 (W.objs frm (first+j -at_))) by rw[hon];rfl]
   refine Qv Dl rfl (Ct (hSo.sp [0] rfl) to j (W2 (W.objs frm (first+j -at_))) hk (hI.len _ _) (by omega)) rfl ?_
   rintro _ w7 ⟨rfl,hS7⟩
   replace hS7:=hS7.jn rfl rfl
   clear hSo
   refine Qf (Ql (Qc (Qi [13,12,5,4,3,2,0] rfl (Qa (Qb rfl rfl (QK rfl rfl (by omega) (by omega) rfl ?_))))))
   refine Qe rfl rfl (Qf ?_)
   have hSz:=hS7
   rw[B4 hI (by omega)]at hSz
   have hSq:=TK (o:=W.objs frm) hon hSz
   exact Q6 (L1:=[(0,_),(2,_),(3,_),(4,_),(5,_),(12,_),(13,_)]) (N6 rfl rfl rfl rfl rfl rfl rfl) (k1:=(256 -(j+1)).toNat) (by omega) ⟨j+1,rfl,rfl,hSq, by omega⟩
  clear hS5
  subst hov
  refine X2 (k:=(first+j -at_)) 0 hSo keysInt Tryz.underlying164 rfl rfl rfl Jc (u:=WH (W2 (W.objs frm (first+j -at_)))) (UP _ _) rfl (Qv Dl rfl (Ct (hSo.sp [1] rfl) to j (W2 (W.objs frm (first+j -at_))) hk (hI.len _ _) (by omega)) rfl ?_)
  rintro _ w8 ⟨rfl,hS8⟩
  replace hS8:=hS8.jn rfl rfl
  clear hSo
  refine Qf (Ql (Qc (Qi [13,12,5,4,3,2,0] rfl (Qa (Qb rfl rfl (QK rfl rfl (by omega) (by omega) rfl ?_))))))
  refine Qe rfl rfl (Qf ?_)
  have hSz:=hS8
  rw[B4 hI (by omega)]at hSz
  have hSq:=TJ (hSz.pick [1,0,2] rfl)
  exact Q6 (L1:=[(0,_),(2,_),(3,_),(4,_),(5,_),(12,_),(13,_)]) (N6 rfl rfl rfl rfl rfl rfl rfl) (k1:=(256 -(j+1)).toNat) (by omega) ⟨j+1,rfl,rfl,hSq, by omega⟩
 exact QS (Qp (Qp (Qz (ZB (.inl rfl) rfl (⟨_,rfl,rfl,qaf (by omega) hS5.tail⟩)))))
set_option linter.unusedSectionVars false
variable [Inhabited SlW]
theorem O3 {l1 l2:List Bs} {i:Nat} (h: ∀j,j<i→l1[j]? =l2[j]?) (h1:i=l1.length) (h2:l1.length=l2.length):l1=l2:= by
  apply List.ext_getElem?
  intro j
  by_cases hj:j<i
  · exact h j hj
  · rw[List.getElem?_eq_none (by omega),List.getElem?_eq_none (by omega)]
theorem same_sp {w:World} {F:Th} (hS:Sat w [F]) {v1 v2:Value} {l1 l2:List Bs} (hA:Ent F (RdL stC v1 l1)) (hB:Ent F (RdL stC v2 l2)):
    Calls Tryz.prog 31 #[v1,v2] w (Ret fun v w'=>v= .bool (decide (l1=l2))∧Sat w' [F]):= by
 obtain⟨ao1,cap1,rfl,hm1⟩:=(hA.sat hS 0 rfl).shape
 obtain⟨ao2,cap2,rfl,hm2⟩:=(hB.sat hS 0 rfl).shape
 refine Qq Tryz.func31 rfl Tryz.ntmps31 rfl ?_
 refine Qd (Qa (Qe rfl rfl (Qf (Qc (Qd (Qd (Qa (Qb rfl rfl (X5 Tryz.underlying61 rfl rfl (Qb rfl rfl (X5 Tryz.underlying61 rfl rfl (X0 rfl rfl rfl (Qf (Qc (Qs rfl (fun h1=> ?_) (fun h1=> ?_))))))))))))))))
 ·refine Qd (Qa (Qe rfl rfl (Qf (Qc (Qu (Qn (QQ (.inr rfl) rfl rfl ?_)))))))
  exact⟨_,rfl, by rw[Q0 (by rintro rfl;omega)],hS⟩
 refine Qr (Qc (Qd (Qd (Qa (Qe rfl rfl (Qf (Qc (Qw ?_))))))))
 refine Xe (fun K0 E0 W0=> ∃(i:Nat),K0=l1.length -i∧E0=[(0,.slice ao1 l1.length cap1),(1,.slice ao2 l2.length cap2),(5,intV (i:Int))]∧Sat W0 [F]∧(i≤l1.length)∧(∀j,j<i→l1[j]? =l2[j]?)) (L0:=[(0,_),(1,_),(5,_)]) (l1.length -0) (Cn rfl rfl rfl) ⟨0,rfl,rfl,hS, by omega, by omega⟩ ?_
 rintro _ _ w2 ⟨i,rfl,rfl,hS2,hi,hok⟩
 refine Qd (Qd (Qa (Qb rfl rfl (Qb rfl rfl (X5 Tryz.underlying61 rfl rfl (Xb rfl rfl rfl (Qf (Qc (Qs rfl (fun h3=> ?_) (fun h3=> ?_))))))))))
 ·obtain⟨s1,ha⟩: ∃s,l1[i]? =some s:=⟨_,Zd (by omega)⟩
  obtain⟨s2,hb⟩: ∃s,l2[i]? =some s:=⟨_,Zd (by omega)⟩
  obtain⟨b1,off1,rfl,hc1⟩:=(hA.sat hS2 0 rfl).get ha
  obtain⟨b2,off2,rfl,hc2⟩:=(hB.sat hS2 0 rfl).get hb
  refine Qr (Qc (Qd (Qw (Qd ?_))))
  have hS4:=hS2.drew
  refine QJ [0,1,2,3,4,5,6,7,8] [] Wp (by kernel_rfl) ?_
  refine QE rfl rfl rfl (QE rfl rfl rfl (QU rfl rfl rfl (fun _=>(WB i rfl rfl (by rfl) ((XQ ha).1) KG)) ?_))
  refine Q9 rfl rfl rfl (Qm rfl ZC (by have h:=hc1 0 _ rfl; exact h)) ?_
  refine QE rfl rfl rfl (QE rfl rfl rfl (QU rfl rfl rfl (fun _=>(WB i rfl rfl (by rfl) ((XQ hb).1) KG)) ?_))
  refine Q9 rfl rfl rfl (Qm rfl ZC (by have h:=hc2 0 _ rfl; exact h)) ?_
  refine QU rfl rfl rfl (fun _=>(De rfl rfl)) ?_
  refine VC.nil (Qc (Qi [5,1,0,25] rfl (Qs rfl (fun h5=> ?_) (fun h5=> ?_))))
  ·have hne:s1≠s2:=h5
   refine Qd (Qa (Qe rfl rfl (Qf (Qc (Qu (Qx (Qn (Qn (Qx (Qn (QQ (.inr rfl) rfl rfl ?_)))))))))))
   exact⟨_,rfl, by rw[Q0 (by rintro rfl; rw[ha]at hb; cases hb; exact hne rfl)],hS4⟩
  have heq:s1=s2:=Decidable.not_not.1 h5
  refine Qr (Ql (Qc (Qa (Qb rfl rfl (QK rfl rfl (by omega) (by omega) rfl ?_)))))
  refine Qe rfl rfl (Qf ?_)
  exact Q6 (L1:=[(0,_),(1,_),(5,intV ((i+1:Nat):Int))]) (Cn rfl rfl rfl) (k1:=l1.length -(i+1)) (by omega) ⟨i+1,rfl,rfl,hS4, by omega, fun j hj=> by by_cases e:j=i;(subst e; rw[ha,hb,heq]); exact hok j (by omega)⟩
 exact QS (Qp (Qp (Qz (Qc (Qd (Qa (Qe rfl rfl (Qf (Qc (Qu (QQ (.inr rfl) rfl rfl (⟨_,rfl, by rw[QW (O3 hok (by omega) (by omega))],hS2⟩))))))))))))
theorem Iw {w:World} {l c b:Nat} {g:Bs→Option Value} {J:List Bs→Th} {F:Th} (hS:Sat w [J [],QF c [.map (some b)],Q3 Xp b g,F]) (hY:Ua Tryz.prog l Xp (okC g) J):
    Calls Tryz.prog 179 #[.func (.yield l) #[] #[],ptrV c 0] w (Ret fun v w'=> ∃ks,AllC g ks∧Sat w' [J ks,QF c [.map (some b)],Q3 Xp b g,F]):= by
 refine Qq Tryz.func179 rfl Tryz.ntmps179 rfl ?_
 refine Qd (Qa (Qo rfl Yc (by first | assumption | exact hS.cell 1 rfl rfl) rfl ?_))
 refine Jx 2 hS Tryz.underlying156 rfl rfl rfl ?_
 intro RR left0 wR hSR; dsimp only[List.set]at hSR
 refine Qf (Qc (Qw (Xe (fun K0 E0 W0=> ∃(dn:Bs→Prop) (cur:Option Bs) (left:Nat) (ks:List Bs),K0=1*left∧E0=[(0,.func (.yield l) #[] #[]),(5,ptrV RR 0)]∧Sat W0 [J ks,J2 Xp b RR g dn cur left,QF c [.map (some b)],F]∧(CSt g dn ks)) (L0:=[(0,_),(5,_)]) (1*left0) (Du rfl rfl) ⟨_,_,_,_,rfl,rfl,hSR.reorder [0,2,1,3] rfl,CSt.start g⟩ ?_)))
 rintro _ _ w1 ⟨dn,cur,left,ks,rfl,rfl,hS1,hcs⟩
 refine Qd (Qa (Yh 1 hS1 keysStr.inj rfl rfl rfl (fun hdone=> ?_) (fun k v left2 w2 hleft hgk hnd hS2=> ?_)))
 ·refine Qt rfl rfl rfl (Qf (Qc (Qd (QV rfl (QS (Qp (Qp (Qz (ZB (.inl rfl) rfl ?_)))))))))
  exact⟨_,rfl,ks,hcs.all hdone, by have hSz:=WG (hS1.reorder [1,0,2,3] rfl); exact hSz.reorder [1,2,0,3] rfl⟩
 dsimp only[List.set]at hS2
 refine Qt rfl rfl rfl (Qf (Qc (Qd (Xr rfl (Qr (Qc (Qw (Qd (Qa (Jy 1 hS2 rfl hgk rfl rfl (Qt rfl rfl rfl (Qe rfl rfl (Qf (Qc (Qd (Jz (XC rfl (Xa rfl) (XC rfl (Xa rfl) (Ul rfl rfl rfl (hY _ _ _ _ (hcs.ok hnd hgk) (hS2.sp [0] rfl)) ?_)))))))))))))))))))
 intro w5 hS5; replace hS5:=hS5.jn rfl rfl
 refine XC rfl (UW rfl) (HM (Qc (Qi [5,0,13] rfl (QV rfl (Qr (Ql ?_))))))
 have hSz:=hS5.reorder [0,1,2,3] rfl; dsimp only[JU,H6]at hSz
 exact Q6 (L1:=[(0,_),(5,_)]) (Du rfl rfl) (k1:=1*left2) (by omega) ⟨_,_,_,_,rfl,rfl,hSz,hcs.step hnd hgk⟩
theorem Iv {w:World} {v0:Value} {F:Th} (hS:Sat w [F]) (h0:v0.oneCell'=true):
    Calls Tryz.prog 147 #[v0] w (Ret fun v w'=> ∃c,v= .func (.func 179) #[] #[ptrV c 0]∧Sat w' [QF c v0.cells.toList,F]):= by
 refine Qq Tryz.func147 rfl Tryz.ntmps147 rfl ?_
 refine Qd (Qa (XU hS rfl rfl rfl ?_))
 intro b1 w1 hS1
 exact Qe rfl rfl (Qf (Qc (Qd (Qa (ZX rfl rfl (Qe rfl rfl (Qf (Qc (Qu (QQ (.inr rfl) rfl rfl (⟨_,rfl,_,rfl,hS1⟩)))))))))))
theorem itO (c b:Nat) (g:Bs→Option Value):ItS g 179 [ptrV c 0] (Iu c b g):= fun l J X w hS hY=> by
  have h1:=(hS.perm (List.Perm.swap _ _ _)).flat; dsimp only[Ds,Dr]at h1
  refine(Iw (h1.reorder [2,0,1,3] rfl) hY).mono fun e w' h=>h.mono fun v w' ⟨ks,h2,h3⟩=>⟨ks,h2, ?_⟩
  exact(Sat.fold (As:=[QF c [.map (some b)],Q3 Xp b g]) (h3.reorder [1,2,0,3] rfl)).perm (List.Perm.swap _ _ _)
theorem EI {W:WS} {Lo:List (Bs×Nat)} {N:Nat} (hO:ObjL Lo W.objs) (hN:Lo.length≤N): ∀ks,Came (X4 Lo) ks→ks.length≤N:= fun ks h=> by
  have :ks.length≤(Lo.map (·.1)).length:=List.Nodup.length_le_of_subset h.nodup fun k hk=> by
    have h1:=h.has k hk
    refine Decidable.not_not.1 fun q=>h1 ?_
    simp [X4,Wt.2 q]
  simpa using Nat.le_trans this (by simpa using hN)
def FB (O:Bs→Int→Option Bs) (n:Nat):Prop:= ∃ks:List Bs,ks.length≤n∧ ∀k,(∃q,O k q≠none)→k∈ks
theorem OR {W:WS} {Lo:List (Bs×Nat)} {n:Nat} (hO:ObjL Lo W.objs) (h:FB W.objs n):Lo.length≤n:= by
  obtain⟨ks,h1,h2⟩:=h
  have :(Lo.map (·.1)).length≤ks.length:=List.Nodup.length_le_of_subset hO.nodup fun k hk=>h2 k ((hO.has k).1 hk)
  simp at this;omega
def N2 (O:Bs→Int→Option Bs) (l:List Bs):Prop:= ∃l0,l=Zc l0∧l0.Nodup∧ ∀k,k∈l0↔ ∃q,O k q≠none
theorem Pm {W:WS} {Lo:List (Bs×Nat)} {ks:List Bs} (hO:ObjL Lo W.objs) (h:AllC (X4 Lo) ks):N2 W.objs (Zc ks):= by
  refine⟨ks,rfl,h.nodup, fun k=> ?_⟩
  rw[h.mem k,←hO.has k]
  constructor
  · intro h1
    refine Decidable.not_not.1 fun q=>h1 ?_
    simp [X4,Wt.2 q]
  · intro h1 h2
    simp [X4]at h2
    exact Wt.1 h2 h1
theorem OQ {w:World} {p:Nat} {W:WS} {LL:WL} {Lo:List (Bs×Nat)} {F X:Th} (hI:PagesOk W.objs) (hO:ObjL Lo W.objs) (h:Sat w [Q3 Xp LL.bo (X4 Lo),starL (Lo.map (Wo W.objs)),QF p (Wf LL W.time),Q3 Xp LL.bc (X7 W.cells),Q3 Xp LL.bl (X7 W.logs),F,X]):Sat w [X,Xi p W,F]:= by
  have h1:=h.split [0,1,2,3,4] [true,true,true,true,true,false,false] rfl
  dsimp only[UL,JU,H6,Ds,Dr]at h1
  have h2:=(WR hI hO h1).join rfl
  dsimp only[zqa,zqb,Ds,Dr]at h2
  exact h2.reorder [2,0,1] rfl
theorem SC {w:World} {p:Nat} {W:WS} {F:Th} (hS:Sat w [Xi p W,F]) (hOb:FB W.objs 100000000000):
    Calls Tryz.prog 100 #[ptrV p 0] w (Ret fun v w'=> ∃l,N2 W.objs l∧Sat w' [rowT stC v l,Xi p W,F]):= by
 obtain⟨LL,hI,hS⟩:=W5 hS
 obtain⟨Lo,hO,hS⟩:=J3 (hS.pull 2 rfl); dsimp only[List.eraseIdx]at hS
 refine Qq Tryz.func100 rfl Tryz.ntmps100 rfl ?_
 refine Qd (Qa (Qe rfl rfl (Qf (Qc (Qd (Qa (Qb rfl rfl (Qk rfl rfl (Qg rfl Je rfl (Qo rfl Yc (hS.cell 2 rfl rfl) rfl (Qv cal_147 rfl (Iv (v0:= .map (some LL.bo)) (hS.sp [] rfl) rfl) rfl ?_)))))))))))
 rintro _ w1 ⟨c1,rfl,hS1⟩
 replace hS1:=hS1.jn rfl rfl
 have hS2:=Sat.fold (As:=[QF _ [.map (some LL.bo)],Q3 Xp LL.bo (X4 Lo)]) (hS1.reorder [0,1,2,3,4,5,6] rfl)
 clear hS1
 refine Qv Ft rfl (KO (caps:=[ptrV _ 0]) (hS2.sp [0] rfl) cal_179 (itO _ _ _) (EI hO (OR hO hOb))) rfl ?_
 rintro _ w3 ⟨ks,hks,hS3⟩
 replace hS3:=hS3.jn rfl rfl
 clear hS2
 refine Qe rfl rfl (Qf (Qc (Qu (QQ (.inr rfl) rfl rfl ?_))))
 have hSz:=(hS3.reorder [1,2,3,4,5,6,0] rfl).flat; dsimp only[Ds,Dr]at hSz
 exact⟨_,rfl,_,Pm hO hks,OQ hI hO (hSz.pick [1,2,3,4,5,6,7] rfl)⟩
theorem qa4 {w:World} {b:Nat} {bs l2:Bs} {pv:Value} {F:Th} (hS:Sat w [Va b bs,F]) (hR:Ent F (RdL byC pv l2)) (h0:l2≠[]) (hl:bs.length+l2.length≤70368744177663):
    Calls Tryz.prog 150 #[ptrV b 0,pv] w (Ret fun v w'=>v= .tuple #[intV (l2.length:Int),.nilIface]∧Sat w' [Va b (bs++l2),F]):= by
 obtain⟨p,v,hp,hS⟩:=Hu hS
 obtain⟨ao2,cap2,rfl,hm2⟩:=(hR.sat hS 2 rfl).shape
 refine Qq Tryz.func150 rfl Tryz.ntmps150 rfl ?_
 refine Qd (Qa (Qe rfl rfl (Qe rfl rfl (Qf (Qc (Qd (Qa (Qb rfl rfl (Qv Nh rfl (MN hp (hS.sp [0] rfl)) rfl ?_)))))))))
 rintro _ w1 ⟨rfl,hS1⟩
 replace hS1:=hS1.jn rfl rfl
 refine Qf (Qc (Qd (Qa (Qb rfl rfl (Qb rfl rfl (Qk rfl rfl (Qg rfl J5 rfl (Qo rfl Ui (hS1.tcell 0 rfl (o:=1) rfl) rfl (Qb rfl rfl (Tt 1 hS1 rfl rfl rfl (hR.sat hS1 2 rfl) h0 Tryz.underlying143 rfl Py rfl (by omega) (by omega) rfl ?_))))))))))
 intro v2 w2 hS2; dsimp only[List.set]at hS2
 clear hS1
 obtain⟨_,_,_,h1v2,_⟩:=hS2.bufv 1 rfl
 refine Qk rfl rfl (Qg rfl J5 rfl (VY hS2 rfl rfl Sw (by assumption) (i:=0) rfl (by simp) ?_))
 intro w3 hS3; dsimp only[List.set]at hS3
 clear hS2
 exact Qf (Qc (Qi [1,4,5] rfl (Qd (Qa (Qb rfl rfl (X5 Tryz.underlying143 rfl rfl (Qe rfl rfl (Qe rfl rfl (Qf (Qc (Qu (Wx (.inr rfl) rfl rfl rfl (⟨_,rfl,rfl,YF (.inr rfl) (hS3.pick [0,1,2] rfl)⟩)))))))))))))
theorem Iy {w:World} {l c b:Nat} {g:Int→Option Value} {J:List Int→Th} {F:Th} (hS:Sat w [J [],QF c [.map (some b)],Q3 Xf b g,F]) (hY:Ua Tryz.prog l Xf (okC g) J):
    Calls Tryz.prog 180 #[.func (.yield l) #[] #[],ptrV c 0] w (Ret fun v w'=> ∃ks,AllC g ks∧Sat w' [J ks,QF c [.map (some b)],Q3 Xf b g,F]):= by
 refine Qq Tryz.func180 rfl Tryz.ntmps180 rfl ?_
 refine Qd (Qa (Qo rfl ag_164 (by first | assumption | exact hS.cell 1 rfl rfl) rfl ?_))
 refine Jx 2 hS Tryz.underlying164 rfl rfl rfl ?_
 intro RR left0 wR hSR; dsimp only[List.set]at hSR
 refine Qf (Qc (Qw (Xe (fun K0 E0 W0=> ∃(dn:Int→Prop) (cur:Option Int) (left:Nat) (ks:List Int),K0=1*left∧E0=[(0,.func (.yield l) #[] #[]),(5,ptrV RR 0)]∧Sat W0 [J ks,J2 Xf b RR g dn cur left,QF c [.map (some b)],F]∧(CSt g dn ks)) (L0:=[(0,_),(5,_)]) (1*left0) (Du rfl rfl) ⟨_,_,_,_,rfl,rfl,hSR.reorder [0,2,1,3] rfl,CSt.start g⟩ ?_)))
 rintro _ _ w1 ⟨dn,cur,left,ks,rfl,rfl,hS1,hcs⟩
 refine Qd (Qa (Yh 1 hS1 keysInt.inj rfl rfl rfl (fun hdone=> ?_) (fun k v left2 w2 hleft hgk hnd hS2=> ?_)))
 ·refine Qt rfl rfl rfl (Qf (Qc (Qd (QV rfl (QS (Qp (Qp (Qz (ZB (.inl rfl) rfl ?_)))))))))
  exact⟨_,rfl,ks,hcs.all hdone, by have hSz:=WG (hS1.reorder [1,0,2,3] rfl); exact hSz.reorder [1,2,0,3] rfl⟩
 dsimp only[List.set]at hS2
 refine Qt rfl rfl rfl (Qf (Qc (Qd (Xr rfl (Qr (Qc (Qw (Qd (Qa (Jy 1 hS2 rfl hgk rfl rfl (Qt rfl rfl rfl (Qe rfl rfl (Qf (Qc (Qd (Jz (XC rfl (Xa rfl) (XC rfl (Xa rfl) (Ul rfl rfl rfl (hY _ _ _ _ (hcs.ok hnd hgk) (hS2.sp [0] rfl)) ?_)))))))))))))))))))
 intro w5 hS5; replace hS5:=hS5.jn rfl rfl
 refine XC rfl (UW rfl) (HM (Qc (Qi [5,0,13] rfl (QV rfl (Qr (Ql ?_))))))
 have hSz:=hS5.reorder [0,1,2,3] rfl; dsimp only[JU,H6]at hSz
 exact Q6 (L1:=[(0,_),(5,_)]) (Du rfl rfl) (k1:=1*left2) (by omega) ⟨_,_,_,_,rfl,rfl,hSz,hcs.step hnd hgk⟩
theorem Ix {w:World} {v0:Value} {F:Th} (hS:Sat w [F]) (h0:v0.oneCell'=true):
    Calls Tryz.prog 149 #[v0] w (Ret fun v w'=> ∃c,v= .func (.func 180) #[] #[ptrV c 0]∧Sat w' [QF c v0.cells.toList,F]):= by
 refine Qq Tryz.func149 rfl Tryz.ntmps149 rfl ?_
 refine Qd (Qa (XU hS rfl rfl rfl ?_))
 intro b1 w1 hS1
 exact Qe rfl rfl (Qf (Qc (Qd (Qa (ZX rfl rfl (Qe rfl rfl (Qf (Qc (Qu (QQ (.inr rfl) rfl rfl (⟨_,rfl,_,rfl,hS1⟩)))))))))))
theorem itQ (c b:Nat) (g:Int→Option Value):ItI g 180 [ptrV c 0] (starL [QF c [.map (some b)],Q3 Xf b g]):= fun l J X w hS hY=> by
  have h1:=(hS.perm (List.Perm.swap _ _ _)).flat; dsimp only[Ds,Dr]at h1
  refine(Iy (h1.reorder [2,0,1,3] rfl) hY).mono fun e w' h=>h.mono fun v w' ⟨ks,h2,h3⟩=>⟨ks,h2, ?_⟩
  exact(Sat.fold (As:=[QF c [.map (some b)],Q3 Xf b g]) (h3.reorder [1,2,0,3] rfl)).perm (List.Perm.swap _ _ _)
end Go.Proofs.YtkcjfoaejijdoaaGreatDoor
namespace Go.Proofs.YtkcjfoaejijdoaaGreatDoor
open Go.RowKit M
set_option linter.unusedSectionVars false
variable [Inhabited SlW]
theorem PE {P:Program} {L:Env} {w:World} {d:Nat} {ty:TypeId} {pos:String} {aft:Array Edge} {x:Operand} {t e N sz b o:Nat} (hu:P.underlying t=some (.array N e)) (hs:ZW P e=some sz) (hx:M.look L x=some (ptrV b o)):Ev P L w ⟨some d,.slice t x none none none,ty,pos,aft,none⟩ (.slice (some ⟨b,o,none⟩) N N):= fun ρ hρ=> by
  simp [execOp,hρ _ _ hx,Instr.sliceAt,run_underlying hu,Instr.sureAddr,Instr.sliceBounds,M.run_sizeOf hs,Addr.add]
theorem HK {P:Program} {n:Nat} {ops:Array Oper} {Q:Exit→Act→World→Prop} {rest:List Oper} {L:Env} {w:World} {d:Nat} {ty:TypeId} {pos:String} {aft:Array Edge} {x:Operand} {t e N sz b o:Nat} (hu:P.underlying t=some (.array N e)) (hs:ZW P e=some sz) (hx:M.look L x=some (ptrV b o)) (hd:Nat.blt d n=true) (hk:wl P n ops Q rest ((d,.slice (some ⟨b,o,none⟩) N N)::L) w):wl P n ops Q (⟨some d,.slice t x none none none,ty,pos,aft,none⟩::rest) L w:=Xo hd (PE hu hs hx) hk
theorem IV {b:Nat} {s:Bs} (hs:s.length=64):Ent (QF b (XK s)) (RdL byC (.slice (some ⟨b,0,none⟩) 64 64) s):= fun {w G} h=> by
  have hS:Sat w [QF b (XK s)]:=⟨G,G, fun _=>False, by simp, fun _ _ h=>h,h,rfl⟩
  refine⟨_,64, by rw[hs], by omega, fun i c hi=>⟨b,0,rfl, fun j u hu=> ?_⟩⟩
  have hj:j=0:= by
    have :=(XQ hu).1
    simp [byC]at this; exact this
  subst hj
  have hu2:u=XS c:= by simp [byC]at hu; exact hu.symm
  subst hu2
  refine hS.cell 0 rfl (o:=0+i*byC.size+0) ?_
  simp [XK,byC,hi]
theorem Mm: ∀(l:List Int) (a:Int),(l.foldl max a=a∨l.foldl max a∈l)∧a≤l.foldl max a∧ ∀k∈l,k≤l.foldl max a
  | [],a=> by simp
  | x::l,a=> by
    obtain⟨h1,h2,h3⟩:=Mm l (max a x)
    simp only[List.foldl_cons,List.mem_cons]
    refine⟨?_, by omega, ?_⟩
    · rcases h1 with h | h
      · rw[h];by_cases hc:a≤x
        · right;left;omega
        · left;omega
      · right;right; exact h
    · rintro k (rfl | hk)
      · omega
      · exact h3 k hk
theorem EK {l:List Int} (h:l≠[]):Lib.maxOf l∈l∧ ∀k∈l,k≤Lib.maxOf l:= by
  obtain⟨h1,h2,h3⟩:=Mm l (l.headD 0)
  refine⟨?_,h3⟩
  rcases h1 with h1 | h1
  · unfold Lib.maxOf; rw[h1]; cases l with
    | nil=> exact absurd rfl h
    | cons a l=> simp
  · exact h1
theorem max0 {w:World} {v:Value} {ks:List Int} {As:List Th} (hS:Sat w (rowT inC v ks::As)) (hne:ks≠[]) (hl:ks.length≤100000000000):Calls Tryz.prog 148 #[v] w (Ret fun u w'=>u=intV (Lib.maxOf ks)∧Sat w' (rowT inC v ks::As)):= by
  have hpos:0<ks.length:=List.length_pos_iff.2 hne
  obtain⟨b,cap,rfl,hcap⟩:=hS.own_at 0 rfl hpos
  refine(Tryz.slices_Max_int b 0 ks.length cap ks w hpos (Nat.le_refl _) (by omega) (fun j hj=> ?_)).mono fun e w' ⟨h1,h2⟩=>⟨_,h1, by rw[List.take_length], by rw[h2]; exact hS⟩
  have hx:(inC.cells ks)[j]? =some (intV ks[j]):= by
    have :=RowC.cells_at (C:=inC) (l:=ks) (j:=j) (Zd hj)
    have h3:=congrArg (fun q=>q[0]?) this
    simpa [inC,List.getElem?_take,List.getElem?_drop]using h3
  have :=hS.ocell 0 rfl rfl hx
  rw[Nat.zero_add,this]
  simp [List.getD,hj]
theorem trim0 {w:World} {As:List Th} (hS:Sat w As) (s:Bs) (hs:s.length≤100000000000):Calls Tryz.prog 151 #[strV s,strV [0]] w (Ret fun v w'=>v=strV (Lib.trimRightB s 0)∧Sat w' As):=
  (Tryz.strings_TrimRight_one ⟨s.toArray⟩ 0 (by decide) w (by simp [ByteArray.size];omega)).mono fun e w' ⟨h1,h2⟩=>⟨_,h1,rfl, by rw[h2]; exact hS⟩
def Ha (W:WS) (nm:Bs) (k:Nat):Bs:=(List.range k).flatMap fun (q:Nat)=>XD W nm (q:Int)
def C8 (W:WS) (nm:Bs):Bs:=Lib.trimRightB (Ha W nm 256) 0
theorem HR (W:WS) (nm:Bs) (k:Nat):Ha W nm (k+1)=Ha W nm k++XD W nm (k:Int):= by simp [Ha,List.range_succ]
theorem Me {W:WS} (hI:PagesOk W.objs) (nm:Bs) (k:Nat):(Ha W nm k).length=64*k:= by
  induction k with
  | zero=>rfl
  | succ k ih=> rw[HR,List.length_append,ih,XD,hI.len];omega
theorem UG (l:Bs): ∀n:Nat,Lib.trimRightB (l++List.replicate n 0) 0=Lib.trimRightB l 0
  | 0=> by simp
  | n+1=> by
    rw[List.replicate_succ',←List.append_assoc]
    have h:=UG l n
    simp only[Lib.trimRightB,List.reverse_append,List.reverse_cons,List.reverse_nil,List.nil_append,List.singleton_append]at h⊢
    rw[List.dropWhile_cons_of_pos (by simp)]
    exact h
theorem TL {W:WS} {nm:Bs} {M:Nat} (hM:M≤256) (h: ∀q:Int,M≤q→W.objs nm q=none):Lib.trimRightB (Ha W nm M) 0=C8 W nm:= by
  have : ∀k,Lib.trimRightB (Ha W nm (M+k)) 0=Lib.trimRightB (Ha W nm M) 0:= by
    intro k
    induction k with
    | zero=>rfl
    | succ k ih=>
      rw[←Nat.add_assoc,HR]
      have hz:XD W nm ((M+k:Nat):Int)=List.replicate 64 0:= by simp only[XD]; rw[h _ (by omega)];rfl
      rw[hz,UG,ih]
  rw[C8,←this (256 -M), show M+(256 -M)=256 by omega]
theorem Px {W:WS} {nm:Bs} (hI:PagesOk W.objs): ∀ks,Came (ZT (W.objs nm)) ks→ks.length≤256:= fun ks h=> by
  have hb: ∀k∈ks,0≤k∧k<256:= fun k hk=> by
    have h1:=h.has k hk
    cases hq:W.objs nm k with
    | none=> exact absurd (WO.2 hq) h1
    | some s=> have :=hI.ok nm k s hq; exact⟨this.2.2.1,this.2.2.2⟩
  have hm:(ks.map Int.toNat).Nodup:= by
    refine List.pairwise_map.2 (h.nodup.imp_of_mem ?_)
    intro a b ha hb' hne e
    have :=hb a ha; have :=hb b hb'
    omega
  have :=List.Nodup.length_le_of_subset (l₂:=List.range 256) hm (fun x hx=> by
    obtain⟨k,hk,rfl⟩:=List.mem_map.1 hx
    have :=hb k hk
    simp;omega)
  simpa using this
theorem max_ok {W:WS} {nm:Bs} {ks:List Int} (hI:PagesOk W.objs) (h:AllC (ZT (W.objs nm)) ks) (hne:ks≠[]): ∃M:Nat,Lib.maxOf ks+1=(M:Int)∧M≤256∧ ∀q:Int,M≤q→W.objs nm q=none:= by
  obtain⟨h1,h2⟩:=EK hne
  have h3:=(h.mem _).1 h1
  have hb:0≤Lib.maxOf ks∧Lib.maxOf ks<256:= by
    cases hq:W.objs nm (Lib.maxOf ks)with
    | none=> exact absurd (WO.2 hq) h3
    | some s=> have :=hI.ok nm _ s hq; exact⟨this.2.2.1,this.2.2.2⟩
  refine⟨(Lib.maxOf ks+1).toNat, by omega, by omega, fun q hq=>Decidable.not_not.1 fun hn=> ?_⟩
  have :=h2 q ((h.mem q).2 fun e=>hn (WO.1 e))
  omega
theorem Ml {W:WS} {nm:Bs} {ks:List Int} (h:AllC (ZT (W.objs nm)) ks) (hs: ∃q,W.objs nm q≠none):ks≠[]:= by
  obtain⟨q,hq⟩:=hs
  rintro rfl
  exact absurd ((h.mem q).2 fun e=>hq (WO.1 e)) (by simp)
theorem EG {W:WS} {nm:Bs} (h: ∀q,W.objs nm q=none):C8 W nm=[]:= by
  rw[←TL (M:=0) (by omega) (fun q _=>h q)];rfl
theorem EF {w:World} {p:Nat} {W:WS} {F:Th} (hS:Sat w [Xi p W,F]) (nm:Bs):
    Calls Tryz.prog 101 #[ptrV p 0,strV nm] w (Ret fun v w'=>v=strV (C8 W nm)∧Sat w' [Xi p W,F]):= by
 obtain⟨LL,hI,hS⟩:=W5 hS
 obtain⟨Lo,hO,hS⟩:=J3 (hS.pull 2 rfl); dsimp only[List.eraseIdx]at hS
 refine Qq Tryz.func101 rfl Tryz.ntmps101 rfl ?_
 refine Qd (Qa (Qe rfl rfl (Qf (Qc (Qd (Qa (Qb rfl rfl (Qk rfl rfl (Qg rfl Je rfl (Qo rfl Yc (hS.cell 2 rfl rfl) rfl (Qb rfl rfl ?_)))))))))))
 rcases hq:Jv Lo nm with _ | m
 ·have hno:=H5 hO hq
  refine X2 (k:=nm) 0 hS keysStr Tryz.underlying156 rfl rfl rfl Uc (u:= .map none) (by simp [X4,hq]) rfl ?_
  refine Qe rfl rfl (Qf (Qc (Qd (Qd (Qa (Qb rfl rfl (NB Tryz.underlying164 rfl rfl (QX rfl rfl rfl (Qf (Qc (Qi [4,5,17] rfl (Qs rfl (fun h2=> ?_) (fun h2=> ?_)))))))))))))
  ·exact Qd (Qa (Qe rfl rfl (Qf (Qc (Qu (Qn (QQ (.inr rfl) rfl rfl (⟨_,rfl, by rw[EG hno],WR hI hO (hS.pick [0,1,2,3,4,5] rfl)⟩))))))))
  exact absurd rfl (by assumption)
 obtain⟨im,him⟩:=YG hq
 refine X2 (k:=nm) 0 hS keysStr Tryz.underlying156 rfl rfl rfl Uc (u:= .map (some m)) (by simp [X4,hq]) rfl ?_
 have hS1:=HW (i:=im) (A:=Wo W.objs (nm,m)) (hS.pull 1 rfl) (by simp [him]); dsimp only[List.eraseIdx,Wo]at hS1
 refine Qe rfl rfl (Qf (Qc (Qd (Qd (Qa (Qb rfl rfl (FE 0 hS1 Tryz.underlying164 keysInt.inj rfl rfl rfl ?_)))))))
 intro cn hcn
 refine QX rfl rfl rfl (Qf (Qc (Qi [4,5,17] rfl (Qs rfl (fun h3=> ?_) (fun h3=> ?_)))))
 ·exfalso
  obtain⟨q0,hq0⟩:=RB hO him
  exact hq0 (WO.1 (hcn.zero.1 (by omega) q0))
 refine Qr (Qc (Qd (Qa (G6 hS1 Sn (cs:=[.pointer none,.slice none 0 0]) rfl rfl ?_))))
 intro bb wB hSB
 have hSC:=YF (.inl rfl) ((ML hSB).perm (List.Perm.swap _ _ _))
 refine Qf (Qc (Qd (Qd (Qa (Qb rfl rfl (Qv cal_149 rfl (Ix (v0:= .map (some m)) (hSC.sp [] rfl) rfl) rfl ?_))))))
 rintro _ w4 ⟨c4,rfl,hS4⟩
 replace hS4:=hS4.jn rfl rfl
 clear hSC
 have hS5:=Sat.fold (As:=[QF _ [.map (some m)],Q3 Xf m (ZT (W.objs nm))]) (hS4.reorder [0,2,1,3,4,5,6,7,8] rfl)
 clear hS4
 refine Qv cal_121 rfl (colI (caps:=[ptrV _ 0]) (hS5.sp [0] rfl) cal_180 (itQ _ _ _) (fun ks h=>Nat.le_trans (Px hI ks h) (by omega))) rfl ?_
 rintro _ w6 ⟨ks,hks,hS6⟩
 replace hS6:=hS6.jn rfl rfl
 clear hS5
 have hkl:=Px hI _ (Came.of_all hks)
 refine Qv cal_148 rfl (max0 (hS6.sp [0] rfl) (Ml hks (RB hO him)) (by omega)) rfl ?_
 rintro _ w7 ⟨rfl,hS7⟩
 replace hS7:=hS7.jn rfl rfl
 clear hS6
 have hS8:=(hS7.pull 1 rfl).flat; dsimp only[List.eraseIdx,Ds,Dr]at hS8
 clear hS7
 obtain⟨M,hM,hM2,hM3⟩:=max_ok hI hks (Ml hks (RB hO him))
 refine QK rfl rfl (by omega) (by omega) rfl ?_
 rw[hM]
 refine Qb rfl rfl (Qf (Qc (Qw ?_)))
 refine Xe (fun K0 E0 W0=> ∃(k:Nat),K0=M -k∧E0=[(5,.map (some m)),(6,ptrV bb 0),(22,intV (M:Int)),(23,intV (k:Int))]∧Sat W0 [Va bb (Ha W nm k),Q3 Xf m (ZT (W.objs nm)),starL ((Lo.map (Wo W.objs)).eraseIdx im),Q3 Xp LL.bo (X4 Lo),QF p (Wf LL W.time),Q3 Xp LL.bc (X7 W.cells),Q3 Xp LL.bl (X7 W.logs),F]∧(k≤M)) (L0:=[(5,_),(6,_),(22,_),(23,_)]) (M -0) (Vk rfl rfl rfl rfl) ⟨0,rfl,rfl,(hS8.pick [3,1,4,5,6,7,8,9] rfl), by omega⟩ ?_
 rintro _ _ w9 ⟨k,rfl,rfl,hS9,hk⟩
 have hpl:=Me hI nm k
 have hpg:=hI.len nm (k:Int)
 refine Qd (Qa (Xb rfl rfl rfl (Qf (Qc (Qd (Qs rfl (fun h10=> ?_) (fun h10=> ?_)))))))
 ·refine Qr (Qc (Qd (Qw (Qd (Qa (Qb rfl rfl (Qe rfl rfl (Qf (Qc (Qd (Qa (Qb rfl rfl (Qb rfl rfl (X2 (k:=(k:Int)) 1 hS9 keysInt Tryz.underlying164 rfl rfl rfl Jc (u:=WH (XD W nm (k:Int))) (UP _ _) rfl (Xg hS9 Jc (cs:=XK ZQ) rfl rfl ?_)))))))))))))))
  intro bs w11 hS11
  clear hS9
  refine QY (vs:=(XK (XD W nm (k:Int))).toArray) hS11 rfl rfl UI (by have :=hI.len nm (k:Int); simp [XK,XD,this]) (VP _) (i:=0) rfl (by decide) ?_
  intro w12 hS12; dsimp only[List.set]at hS12
  rw[show X3 (XK ZQ) 0 (XK (XD W nm (k:Int))).toArray.toList=XK (XD W nm (k:Int)) from HE (hI.len nm (k:Int)).symm]at hS12
  clear hS11
  refine Qf (Qc (Qi [23,22,6,5,8] rfl (Qa (HK Tryz.underlying167 UH rfl rfl ?_))))
  refine Qv cal_150 rfl (qa4 (hS12.sp [1] rfl) (l2:=XD W nm (k:Int)) (Ent.starL (IV (hI.len nm (k:Int))) 0 rfl) (by intro h; simp only[XD]at h; rw[h]at hpg; simp at hpg) (by simp only[XD];omega)) rfl ?_
  rintro _ w13 ⟨rfl,hS13⟩
  replace hS13:=hS13.jn rfl rfl
  clear hS12
  refine Qf (Ql (Qc (Qa (QK rfl rfl (by omega) (by omega) rfl ?_))))
  refine Qb rfl rfl (Qf ?_)
  have hSz:=hS13.pick [0,2,3,4,5,6,7,8] rfl; dsimp only[JU,H6]at hSz; rw[←HR]at hSz
  exact Q6 (L1:=[(5,_),(6,_),(22,_),(23,intV ((k+1:Nat):Int))]) (Vk rfl rfl rfl rfl) (k1:=M -(k+1)) (by omega) ⟨k+1,rfl,rfl,hSz, by omega⟩
 refine QS (Qp (Qp (Qz (Qc (Qd (Qa (Qv Dm rfl (Cf (hS9.sp [0] rfl) (by omega)) rfl ?_)))))))
 rintro _ w14 ⟨rfl,hS14⟩
 replace hS14:=hS14.jn rfl rfl
 clear hS9
 refine Qv cal_151 rfl (trim0 (hS14.sp [] rfl) _ (by rw[hpl];omega)) rfl ?_
 rintro _ w15 ⟨rfl,hS15⟩
 replace hS15:=hS15.jn rfl rfl
 clear hS14
 exact Qe rfl rfl (Qf (Qc (Qu (QQ (.inr rfl) rfl rfl (⟨_,rfl, by rw[show k=M by omega,TL hM2 hM3],HJ hI hO him (hS15.pick [0,1,2,3,4,5,6] rfl)⟩)))))
end Go.Proofs.YtkcjfoaejijdoaaGreatDoor
