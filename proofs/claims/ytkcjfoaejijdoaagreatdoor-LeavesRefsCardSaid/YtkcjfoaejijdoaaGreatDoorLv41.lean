/- laws of leaves: a trial on another present, plain -/
import Derived.Test.YtkcjfoaejijdoaaGreatDoorWb
import Derived.Test.YtkcjfoaejijdoaaGreatDoorSk
import Derived.Test.YtkcjfoaejijdoaaGreatDoorLv51
import Derived.Test.YtkcjfoaejijdoaaGreatDoorLv33
set_option linter.unusedSectionVars false
set_option linter.unusedVariables false
set_option maxRecDepth 100000
set_option maxHeartbeats 1600000
namespace Go.Proofs.YtkcjfoaejijdoaaGreatDoor
open Go.RowKit M
variable [Inhabited SlW]
def G4 (c:KD→Bs) (t:TrA) (k:KD):Bs:= match t.lv k with
  | some x=>KZ (c k) x.own x.wr
  | none=> if t.dr k.1=true then zer else c k
def AL (t:TrA):Prop:= ∀k x,t.lv k=some x→NH x∧x.own.length=64
def ValT (c:KD→Bs) (t:TrA):Prop:= ∀k x,t.lv k=some x→ ∀j,j<64→x.rd.getLsbD j=true→x.base[j]? =(c k)[j]?
def G8 (c:KD→Bs):Prop:= ∀k,(c k).length=64
theorem PN:zer.length=64:=rfl
section
variable {b c:KD→Bs} {t:TrA} {k:KD} {y o:LfA} {ob nm to:Bs} {p0 base a:Int} {f:Nat→Bs} {W:WS} {v:UInt8} {x:AcL}
theorem Cy (h:AL t) (hb:G8 b):(Yt t (b k) k).length=64:= by
  unfold Yt
  cases hx:t.lv k with
  | some x=> exact(h k x hx).2
  | none=>
    dsimp only
    split
    · rfl
    · exact hb k
theorem AL.tou (h:AL t) (hb:G8 b):NH (Wa b t k)∧(Wa b t k).own.length=64:= by
  refine⟨?_, by rw[HU]; exact Cy h hb⟩
  unfold Wa
  cases hx:t.lv k with
  | some x=> exact(h k x hx).1
  | none=> exact fun j hj hw=>rfl
theorem AL.put (h:AL t) (hy:NH y∧y.own.length=64):AL (YQ t k y):= fun j x hx=> by
  have hx':Xi t.lv k (some y) j=some x:=hx
  by_cases e:j=k
  · subst e
    rw[Qy]at hx'
    cases hx'
    exact hy
  · rw[Q7 e]at hx'
    exact h j x hx'
theorem AL.drp (h:AL t):AL (Dn t ob):= fun j x hx=> by
  have hx':Zp (fun j=>j.1=ob) t.lv j=some x:=hx
  unfold Zp at hx'
  by_cases e:j.1=ob
  · rw[if_pos e]at hx'
    obtain⟨z,hz,rfl⟩:=Option.map_eq_some_iff.1 hx'
    exact⟨TX,rfl⟩
  · rw[if_neg e]at hx'
    exact h j x hx'
theorem wrX_ag (h:NH o):NH (wrX o a v):= fun j hj hw=> by
  have hw':(o.wr ||| (1#64<<<a.toNat)).getLsbD j=false:=hw
  rw[Tn hj,Bool.or_eq_false_iff]at hw'
  have hne: ¬j=a.toNat:= by simpa using hw'.2
  show o.base[j]? =(o.own.set a.toNat v)[j]?
  rw[List.getElem?_set_ne (fun e=>hne e.symm)]
  exact h j hj hw'.1
theorem AL.rdU (h:AL t) (hb:G8 b):AL (rdU b t ob a):= by
  unfold Go.Proofs.YtkcjfoaejijdoaaGreatDoor.rdU
  split
  · exact h.put ⟨(h.tou hb).1,(h.tou hb).2⟩
  · exact h
theorem AL.wrU (h:AL t) (hb:G8 b):AL (wrU b t ob a v):= by
  unfold Go.Proofs.YtkcjfoaejijdoaaGreatDoor.wrU
  split
  · refine h.put ⟨wrX_ag (h.tou hb).1, ?_⟩
    show((Wa b t (ob,a/ 64)).own.set _ _).length=64
    rw[List.length_set]
    exact(h.tou hb).2
  · exact h
theorem AL.rdf (h:AL t) (hb:G8 b): ∀n,AL (KR b ob p0 t n)
  | 0=>h
  | n+1=> by
    show AL (KS b ob (KR b ob p0 t n) _)
    unfold KS
    split
    · exact(AL.rdf h hb n).put ⟨((AL.rdf h hb n).tou hb).1,((AL.rdf h hb n).tou hb).2⟩
    · exact AL.rdf h hb n
theorem AL.wrf (h:AL t) (hf: ∀i,(f i).length=64): ∀n,AL (D9 b t to base f n)
  | 0=>h
  | n+1=>(AL.wrf h hf n).put ⟨TX,hf n⟩
theorem Nv (h:AL t) (hb:G8 b) {q:Int}:(O2 b t ob q).length=64:= by
  unfold O2
  split
  · exact Cy h hb
  · rfl
theorem AL.copy (h:AL t) (hb:G8 b) {fi n at_:Int}:AL (Kz b t ob fi n to at_):=(h.rdf hb _).wrf (fun _=>Nv h hb) _
theorem AL.step (h:AL t) (hb:G8 b):AL (YA b t x):= by
  unfold YA
  split
  · exact h.rdU hb
  · split
    · exact h.copy hb
    · split
      · exact h.drp
      · exact h.wrU hb
theorem ValT.put (h:ValT c (YQ t k y)) (hg:GoX (Wa b t k) y):ValT c t:= fun j x hx i hi hr=> by
  by_cases e:j=k
  · subst e
    have e2:Wa b t j=x:= by unfold Wa; rw[hx]
    obtain⟨g1,⟨r,g2⟩,_⟩:=hg
    rw[e2]at g1 g2
    rw[←g1]
    refine h j y Qy i hi ?_
    rw[g2,BitVec.getLsbD_or,hr,Bool.true_or]
  · exact h j x (show Xi t.lv k (some y) j=some x by rw[Q7 e]; exact hx) i hi hr
theorem ValT.drp (h:ValT c (Dn t ob)):ValT c t:= fun j x hx i hi hr=> by
  by_cases e:j.1=ob
  · exact h j (allX x zer) (show Zp (fun j=>j.1=ob) t.lv j=some (allX x zer) by unfold Zp; rw[if_pos e,hx];rfl) i hi hr
  · exact h j x (show Zp (fun j=>j.1=ob) t.lv j=some x by unfold Zp; rw[if_neg e]; exact hx) i hi hr
theorem ValT.rdf: ∀n,ValT c (KR b ob p0 t n)→ValT c t
  | 0,h=>h
  | n+1,h=> by
    have h':ValT c (KS b ob (KR b ob p0 t n) (p0+(n:Int))):=h
    unfold KS at h'
    split at h'
    · exact ValT.rdf n (h'.put (b:=b) GoX.allR)
    · exact ValT.rdf n h'
theorem ValT.wrf: ∀n,ValT c (D9 b t to base f n)→ValT c t
  | 0,h=>h
  | n+1,h=>ValT.wrf n (ValT.put (b:=b) h GoX.allX)
theorem ValT.step (h:ValT c (YA b t x)):ValT c t:= by
  unfold YA at h
  split at h
  · unfold Go.Proofs.YtkcjfoaejijdoaaGreatDoor.rdU at h
    split at h
    · exact h.put (b:=b) GoX.rdX
    · exact h
  · split at h
    · exact ValT.rdf _ (ValT.wrf _ h)
    · split at h
      · exact h.drp
      · unfold Go.Proofs.YtkcjfoaejijdoaaGreatDoor.wrU at h
        split at h
        · exact h.put (b:=b) GoX.wrX
        · exact h
theorem P9 {j:KD}:G4 c (YQ t k y) j= if j=k then KZ (c j) y.own y.wr else G4 c t j:= by
  unfold G4 YQ
  dsimp only
  by_cases e:j=k
  · subst e; rw[Qy,if_pos U]
  · rw[Q7 e,if_neg e]
theorem TA (hc:G8 c):KZ (c k) (Wa b t k).own (Wa b t k).wr=G4 c t k:= by
  unfold G4
  cases hx:t.lv k with
  | some x=>
    have e:Wa b t k=x:= by unfold Wa; rw[hx]
    rw[e]
  | none=>
    unfold Wa Yt
    rw[hx]
    dsimp only
    cases hd:t.dr k.1 with
    | true=> simp only[if_true]; exact GW PN (hc k)
    | false=> simp only[Bool.false_eq_true,if_false]; exact BS (hc k)
theorem SD (hc:G8 c) (h1:y.own=(Wa b t k).own) (h2:y.wr=(Wa b t k).wr) (j:KD):G4 c (YQ t k y) j=G4 c t j:= by
  rw[P9]
  by_cases e:j=k
  · subst e
    rw[if_pos U,h1,h2]
    exact TA hc
  · rw[if_neg e]
theorem mgB_set {n w:Bs} {r:BitVec 64} {i:Nat} (hi:i<64) (hw:w.length=64):KZ n (w.set i v) (r ||| (1#64<<<i))=(KZ n w r).set i v:= by
  apply List.ext_getElem?
  intro j
  by_cases hj:j<64
  · rw[GV hj,Tn hj]
    by_cases e:j=i
    · subst e
      rw[List.getElem?_set_self (by rw[U1];omega)]
      simp [List.getD,hw,hj]
    · rw[List.getElem?_set_ne (fun q=>e q.symm),GV hj]
      have e2:(w.set i v).getD j 0=w.getD j 0:= by simp [List.getD,List.getElem?_set_ne (fun q=>e q.symm)]
      rw[e2]
      simp [e]
  · rw[List.getElem?_eq_none (by rw[U1];omega),List.getElem?_eq_none (by rw[List.length_set,U1];omega)]
theorem cm_wr (h:AL t) (hb:G8 b) (hc:G8 c) (ha:0≤a∧a<64) (j:KD):G4 c (YQ t k (wrX (Wa b t k) a v)) j= if j=k then(G4 c t k).set a.toNat v else G4 c t j:= by
  rw[P9]
  by_cases e:j=k
  · subst e
    rw[if_pos U,if_pos U,←TA (b:=b) hc]
    exact mgB_set (by omega) (h.tou hb).2
  · rw[if_neg e,if_neg e]
theorem cm_all (hc:G8 c) {g:Bs} (hg:g.length=64) (j:KD):G4 c (YQ t k (allX o g)) j= if j=k then g else G4 c t j:= by
  rw[P9]
  by_cases e:j=k
  · subst e
    rw[if_pos U,if_pos U]
    exact GW hg (hc j)
  · rw[if_neg e,if_neg e]
theorem cm_drp (hc:G8 c) (j:KD):G4 c (Dn t ob) j= if j.1=ob then zer else G4 c t j:= by
  unfold G4 Dn Zp
  dsimp only
  by_cases e:j.1=ob
  · rw[if_pos e,if_pos e]
    cases t.lv j with
    | some x=> exact GW PN (hc j)
    | none=>
      dsimp only[Option.map_none]
      rw[if_pos (GQ.2 (.inr e))]
  · rw[if_neg e,if_neg e]
    have e2:Wv t.dr ob j.1=t.dr j.1:= by unfold Wv; rw[if_neg e]
    simp only[e2]
theorem cm_full (h:AL t) (hb:G8 b) (hc:G8 c) (hv:ValT c (YQ t k (allR (Wa b t k)))):G4 c t k=Yt t (b k) k:= by
  rw[←TA (b:=b) hc,←HU (b:=b)]
  refine BT (h.tou hb).2 (hc k) fun j hj hw=> ?_
  rw[←(h.tou hb).1 j hj hw]
  refine(hv k _ Qy j hj ?_).symm
  show((Wa b t k).rd ||| (BitVec.allOnes 64&&& ~~~(Wa b t k).wr)).getLsbD j=true
  rw[BitVec.getLsbD_or,BitVec.getLsbD_and,BitVec.getLsbD_allOnes,BitVec.getLsbD_not,hw]
  simp [hj]
theorem cm_byte (h:AL t) (hb:G8 b) (hc:G8 c) (ha:0≤a∧a<64) (hv:ValT c (YQ t k (rdX (Wa b t k) a))):NI (G4 c t k) a=NI (Yt t (b k) k) a:= by
  rw[←TA (b:=b) hc,←HU (b:=b)]
  unfold NI
  have hj:a.toNat<64:= by omega
  rw[CS (GV hj)]
  by_cases hw:(Wa b t k).wr.getLsbD a.toNat=true
  · rw[if_pos hw]
  · rw[if_neg hw]
    have hw':(Wa b t k).wr.getLsbD a.toNat=false:= by simpa using hw
    have h1:=(h.tou hb).1 a.toNat hj hw'
    have h2:=hv k _ Qy a.toNat hj (by
      show((Wa b t k).rd ||| ((1#64<<<a.toNat)&&& ~~~(Wa b t k).wr)).getLsbD a.toNat=true
      have h3:=Tn (w:=0#64) (i:=a.toNat) hj
      rw[BitVec.zero_or]at h3
      rw[BitVec.getLsbD_or,BitVec.getLsbD_and,BitVec.getLsbD_not,hw',h3]
      simp [hj])
    have h4:(c k)[a.toNat]? =(Wa b t k).own[a.toNat]? :=h2.symm.trans h1
    simp only[List.getD,h4]
theorem TB (hc:G8 c) (j:KD): ∀n,G4 c (KR b ob p0 t n) j=G4 c t j
  | 0=>rfl
  | n+1=> by
    show G4 c (KS b ob (KR b ob p0 t n) _) j=_
    unfold KS
    split
    · exact(SD (b:=b) (y:=allR (Wa b (KR b ob p0 t n) (ob,p0+(n:Int)))) hc U U j).trans (TB hc j n)
    · exact TB hc j n
theorem O8 (h:AL t) (hb:G8 b) (hc:G8 c): ∀n,ValT c (KR b ob p0 t n)→ ∀i,i<n→0≤p0+(i:Int)∧p0+(i:Int)<256→G4 c t (ob,p0+(i:Int))=Yt t (b (ob,p0+(i:Int))) (ob,p0+(i:Int))
  | 0,_,i,hi,_=> by omega
  | n+1,hv,i,hi,hp=> by
    have h':ValT c (KS b ob (KR b ob p0 t n) (p0+(n:Int))):=hv
    by_cases e:i=n
    · subst e
      unfold KS at h'
      rw[if_pos hp]at h'
      have :=cm_full (h.rdf hb i) hb hc h'
      rw[TB hc,BF]at this
      exact this
    · refine O8 h hb hc n ?_ i (by omega) hp
      unfold KS at h'
      split at h'
      · exact h'.put (b:=b) GoX.allR
      · exact h'
theorem O7 (hc:G8 c) (hf: ∀i,(f i).length=64) {m:Bs} {r:Int}: ∀q:Nat,G4 c (D9 b t to base f q) (m,r)= if m=to∧base≤r∧r<base+(q:Int)then f (r -base).toNat else G4 c t (m,r)
  | 0=> by rw[if_neg (by omega)];rfl
  | q+1=> by
    show G4 c (YQ (D9 b t to base f q) (to,base+(q:Int)) _) (m,r)=_
    rw[cm_all hc (hf q)]
    by_cases e:(m,r)=(to,base+(q:Int))
    · obtain⟨e1,e2⟩:=Prod.mk.inj e
      rw[if_pos e,if_pos ⟨e1, by omega, by omega⟩]
      have :(r -base).toNat=q:= by omega
      rw[this]
    · rw[if_neg e,O7 hc hf q]
      by_cases e2:m=to∧base≤r∧r<base+(q:Int)
      · rw[if_pos e2,if_pos ⟨e2.1,e2.2.1, by omega⟩]
      · rw[if_neg e2,if_neg fun a=>e2 ⟨a.1,a.2.1,Classical.byContradiction fun z=>e (by rw[a.1, show r=base+(q:Int) by omega])⟩]
def VisC (c:KD→Bs) (t:TrA) (W:WS):Prop:= ∀nm q,G4 c t (nm,q)=Yj W nm q
theorem VisC.step (h:VisC c t W) (hal:AL t) (hb:G8 b) (hc:G8 c) (hI:PagesOk W.objs) (hv:ValT c (YA b t x)):VisC c (YA b t x) (UH W x):= by
  rcases KI x with e | e | e | ⟨e1,e2,e3⟩
  · obtain⟨s1,_,s3⟩:=Ur (b:=b) (t:=t) (P:=b) (W:=W) e
    rw[s1,s3]
    unfold Go.Proofs.YtkcjfoaejijdoaaGreatDoor.rdU
    split
    · exact fun nm q=>(SD (b:=b) (y:=Go.Proofs.YtkcjfoaejijdoaaGreatDoor.rdX (Wa b t (x.ob,x.at_/ 64)) (x.at_%64)) hc U U _).trans (h nm q)
    · exact h
  · obtain⟨s1,_,s3⟩:=Vr (b:=b) (t:=t) (P:=b) (W:=W) e
    rw[s1]at hv⊢
    rw[s3]
    intro nm q
    unfold Kz at hv⊢
    have hv1:=ValT.wrf _ hv
    rw[O7 hc (fun _=>Nv hal hb),TB hc,Kq hI,h nm q]
    by_cases e1:nm=x.to∧x.at_+max 0 (-x.at_)≤q∧q<x.at_+max 0 (-x.at_)+(Nu x.n x.at_:Int)
    · rw[if_pos e1,if_pos e1]
      unfold O2
      have e2:x.first+max 0 (-x.at_)+(((q -(x.at_+max 0 (-x.at_))).toNat:Nat):Int)=x.first+q -x.at_:= by omega
      by_cases r:0≤x.first+q -x.at_∧x.first+q -x.at_<256
      · have hs:=O8 hal hb hc _ hv1 ((q -(x.at_+max 0 (-x.at_))).toNat) (by omega) (by omega)
        rw[e2]at hs⊢
        rw[if_pos r,if_pos r,←hs]
        exact h _ _
      · rw[e2,if_neg r,if_neg r]
    · rw[if_neg e1,if_neg e1]
  · obtain⟨s1,_,s3⟩:=Vq (b:=b) (t:=t) (P:=b) (W:=W) e
    rw[s1,s3]
    intro m q
    rw[cm_drp hc,Kp,h m q]
  · obtain⟨s1,_,s3⟩:=Vp (b:=b) (t:=t) (P:=b) (W:=W) e1 e2 e3
    rw[s1,s3]
    intro m q
    unfold Go.Proofs.YtkcjfoaejijdoaaGreatDoor.wrU
    by_cases ha:0≤x.at_∧x.at_<16384
    · rw[if_pos ha,cm_wr hal hb hc (by omega),Ko m q _ _ ha,h x.ob (x.at_/ 64),h m q]
      by_cases e:(m,q)=(x.ob,x.at_/ 64)
      · obtain⟨e4,e5⟩:=Prod.mk.inj e
        rw[if_pos e,if_pos ⟨e4,e5⟩]
      · rw[if_neg e,if_neg fun z=>e (by rw[z.1,z.2])]
    · rw[if_neg ha]
      unfold JJ
      rw[if_neg ha]
      exact h m q
theorem VisC.byte {W':WS} (h:VisT b t W) (h':VisC c t W') (hal:AL t) (hb:G8 b) (hc:G8 c) (he:Jo x=0∨Jo x=1∨Jo x=2∨Jo x=7∨Jo x=8) (hv:ValT c (YA b t x)):MI W x.ob x.at_=MI W' x.ob x.at_:= by
  have e1:=OZ (ob:=x.ob) (a:=x.at_) h
  have e2:=Ia (P:=G4 c t) (ob:=x.ob) (a:=x.at_) h'
  rw[←e1,←e2]
  by_cases ha:0≤x.at_∧x.at_<16384
  · rw[if_pos ha,if_pos ha]
    rw[(Ur (b:=b) (t:=t) (P:=b) (W:=W) he).1]at hv
    unfold Go.Proofs.YtkcjfoaejijdoaaGreatDoor.rdU at hv
    rw[if_pos ha]at hv
    exact(cm_byte hal hb hc (by omega) hv).symm
  · rw[if_neg ha,if_neg ha]
end
end Go.Proofs.YtkcjfoaejijdoaaGreatDoor
namespace Go.Proofs.YtkcjfoaejijdoaaGreatDoor
open Go.RowKit M
variable [Inhabited SlW]
end Go.Proofs.YtkcjfoaejijdoaaGreatDoor
namespace Go.Proofs.YtkcjfoaejijdoaaGreatDoor
open Go.RowKit M
variable [Inhabited SlW]
def t00:TrA:=⟨0, fun _=>none, fun _=>false⟩
section
variable {A:LvA} {b c P:KD→Bs} {t t1 t2:TrA} {W:WS} {q d q1 d1 q2 d2:Nat} {x:AcL}
structure FlI (A:LvA) (P:KD→Bs) (t1 t2:TrA):Prop where
  pres:A.pres=P
  t1:A.tr 1=some t1
  t2:A.tr 2=some t2
  oth: ∀j,j≠1→j≠2→A.tr j=none
theorem FlI.start (hA: ∀j,A.tr j=none):DR A 1 0=0∧DR (GG A 1 0) 2 0=0∧FlI (GG (GG A 1 0) 2 0) A.pres t00 t00:= by
  obtain⟨e0,e1⟩:=TU (A:=A) (i:=1) (by omega) (hA 1)
  refine⟨e0, ?_⟩
  rw[e1]
  obtain⟨e2,e3⟩:=TU (A:=({A with tr:=Xi A.tr 1 (some ⟨0, fun _=>none, fun _=>false⟩)}:LvA)) (i:=2) (by omega) ((Q7 (by decide)).trans (hA 2))
  refine⟨e2, ?_⟩
  rw[e3]
  exact⟨rfl,(Q7 (by decide)).trans Qy,Qy, fun j h1 h2=>(Q7 h2).trans ((Q7 h1).trans (hA j))⟩
theorem FlI.sa (h:FlI A P t1 t2) {t:TrA}:FlI (Ex A 1 t) P t t2:=⟨h.pres,Ew,(GO (by decide)).trans h.t2, fun j a c=>(GO a).trans (h.oth j a c)⟩
theorem FlI.sb (h:FlI A P t1 t2) {t:TrA}:FlI (Ex A 2 t) P t1 t:=⟨h.pres,(GO (by decide)).trans h.t1,Ew, fun j a c=>(GO c).trans (h.oth j a c)⟩
structure Fl1 (A:LvA) (t2:TrA):Prop where
  t2:A.tr 2=some t2
  oth: ∀j,j≠2→A.tr j=none
theorem FlI.com (h:FlI A P t1 t2) {Q:KD→Bs}:Fl1 ⟨Q,Xi A.tr 1 none⟩ t2:= by
  refine⟨(Q7 (by decide)).trans h.t2, fun j hj=> ?_⟩
  by_cases e:j=1
  · subst e; exact Qy
  · exact(Q7 e).trans (h.oth j e hj)
end
def capOk (v:Value):Prop:= ∀ao m cap,v= .slice ao m cap→m≤cap
end Go.Proofs.YtkcjfoaejijdoaaGreatDoor
namespace Go.Proofs.YtkcjfoaejijdoaaGreatDoor
open Go.RowKit M
variable [Inhabited SlW]
theorem itKT (c b:Nat) (g:Int→Option Value):ItI g 124 [ptrV c 0] (Tq c b g):= fun l J X w hS hY=> by
  have h1:=(hS.perm (List.Perm.swap _ _ _)).flat; dsimp only[R8,R7]at h1
  refine(kt_it (h1.reorder [2,0,1,3] U) hY).mono fun e w' h=>h.mono fun v w' ⟨ks,h2,h3⟩=>⟨ks,h2, ?_⟩
  exact(Sat.fold (As:=[Q3 c [.map (some b)],Q5 QO b g]) (h3.reorder [1,2,0,3] U)).perm (List.Perm.swap _ _ _)
theorem GX {w:World} {b:Nat} {L:LvD} {F:Th} (hS:Sat w [XY b L,F]) (hlen: ∀ks,Came (Xv TrD.ad L.tr) ks→ks.length≤100000000000):
    Calls Tryz.prog 24 #[ptrV b 0] w (Ret fun v w'=> ∃ks,AllC (Xv TrD.ad L.tr) ks∧Sat w' [rowT inC v (XZ ks),XY b L,F]):= by
 replace hS:=Xy hS
 refine Qm Tryz.func24 U Tryz.ntmps24 U ?_
 refine Qd (Qa (Qe U U (Qf (Qc (Qd (Qa (Qb U U (Qj U U (Qg U Z7 U (Qn U WN (hS.cell 0 U U) U (Qw cal_70 U (kt_sp (hS.sp [] U) U) U ?_)))))))))))
 rintro _ w1 ⟨ck,rfl,hS1⟩
 replace hS1:=hS1.jn U U
 have hK:=Sat.fold (As:=[Q3 ck [.map (some L.mt)],Q5 QO L.mt (Xv TrD.ad L.tr)]) (hS1.pick [0,3,1,2,4,5,6] U)
 have hC2:=hK.sp [0] U
 refine Qw Dv U (Hu hC2 cal_124 (itKT ck L.mt (Xv TrD.ad L.tr)) hlen) U ?_
 rintro _ w2 ⟨ks,hks,hS2⟩
 replace hS2:=hS2.jn U U; clear hC2
 clear hK
 refine Qe U U (Qf (Qc (Qu (QR (.inr U) U U ?_))))
 have hz:=(hS2.pick [1,0,2,3,4,5,6] U).flat; dsimp only[Tq,R8,R7]at hz
 exact⟨_,rfl,ks,hks,(QZ (hz.pick [3,4,1,5,6,2,7] U)).perm (List.Perm.swap _ _ _)⟩
end Go.Proofs.YtkcjfoaejijdoaaGreatDoor
namespace Go.Proofs.YtkcjfoaejijdoaaGreatDoor
open Go.RowKit M
variable [Inhabited SlW]
def SubT (T T':Int→Option TrD):Prop:= ∀i,T' i=T i∨T' i=none
def TrN (T:Int→Option TrD) (K:Nat):Prop:= ∃ids:List Int,ids.length≤K∧ ∀i,T i≠none→i∈ids
theorem TrN.del {T:Int→Option TrD} {K:Nat} {i:Int} (h:TrN T K) (hi:T i≠none): ∃K',K=K'+1∧TrN (Xi T i none) K':= by
  obtain⟨ids,h1,h2⟩:=h
  have h3:=h2 i hi
  have h4:=List.length_erase_of_mem h3
  have h5:=List.length_pos_of_mem h3
  refine⟨K -1, by omega,ids.erase i, by omega, fun j hj=> ?_⟩
  by_cases e:j=i
  · subst e; exact absurd Qy hj
  · rw[Q7 e]at hj
    exact(List.mem_erase_of_ne e).2 (h2 j hj)
def AbA (A A':LvA):Prop:=A'.pres=A.pres∧ ∀i,A'.tr i=A.tr i∨A'.tr i=none
structure AbI (m c:Nat) (L L':LvD) (V V':VS) (id:Int) (r:Int→Nat) (K K':Nat):Prop where
  inv:LvI m L' V'
  sp:L'.sp=L.sp
  pres:L'.pres=L.pres
  sub:SubT L.tr L'.tr
  ab:AbA (Q1 L V) (Q1 L' V')
  low: ∀i,r i≤r id→L'.tr i=L.tr i
  trn:TrN L'.tr K'
  le:K'≤K
  sz:SzLe L' c
structure AbP (m c:Nat) (L L':LvD) (V V':VS) (id:Int) (r:Int→Nat) (K K':Nat):Prop where
  inv:LvI m L' V'
  sp:L'.sp=L.sp
  pres:L'.pres=L.pres
  sub:SubT L.tr L'.tr
  ab:AbA (Q1 L V) (Q1 L' V')
  low: ∀i,r i<r id→L'.tr i=L.tr i
  gone:L'.tr id=none
  trn:TrN L'.tr K'
  lt:K'+1≤K
  sz:SzLe L' c
theorem SubT.refl {T:Int→Option TrD}:SubT T T:= fun _=> .inl U
theorem SubT.trans {T T1 T2:Int→Option TrD} (h:SubT T T1) (h':SubT T1 T2):SubT T T2:= fun i=> by
  rcases h' i with e | e
  · rw[e]; exact h i
  · exact .inr e
theorem SubT.some {T T1:Int→Option TrD} (h:SubT T T1) {i:Int} {t:TrD} (ht:T1 i=some t):T i=some t:= by
  rcases h i with e | e
  · rw[←e]; exact ht
  · rw[e]at ht; cases ht
theorem AbA.refl {A:LvA}:AbA A A:=⟨rfl, fun _=> .inl U⟩
theorem AbA.trans {A A1 A2:LvA} (h:AbA A A1) (h':AbA A1 A2):AbA A A2:=⟨h'.1.trans h.1, fun i=> by
  rcases h'.2 i with e | e
  · rw[e]; exact h.2 i
  · exact .inr e⟩
theorem AbA.del {A:LvA} {id:Int}:AbA A (GE A id):=⟨rfl, fun i=> by
  by_cases e:i=id
  · subst e; exact .inr Qy
  · exact .inl (Q7 e)⟩
theorem XL.abo {A A':LvA} {ids:List Int} {obs:List Bs} (h:XL A ids obs) (hs:AbA A A'):XL A' ids obs:= by
  have hq: ∀j u,A'.tr j=some u→A.tr j=some u:= fun j u hu=> by
    rcases hs.2 j with e | e
    · rw[←e]; exact hu
    · rw[e]at hu; cases hu
  refine⟨fun i v j x hu hd hx=>h.dr i v j x (hq i v hu) hd hx, fun j hj=> ?_, fun j v o hu hd=>h.obs j v o (hq j v hu) hd⟩
  obtain⟨u,hu⟩:=Option.ne_none_iff_exists'.1 hj
  exact h.ids j (by rw[hq j u hu]; simp)
section
variable {m c K K1 K2:Nat} {L L1 L2:LvD} {V V1 V2:VS} {id k:Int} {r:Int→Nat} {t:TrD}
theorem AbI.start (hI:LvI m L V) (hc:SzLe L c) (hK:TrN L.tr K):AbI m c L L V V id r K K:=⟨hI,rfl,rfl,.refl,.refl, fun _ _=>rfl,hK,Nat.le_refl _,hc⟩
theorem AbI.rank (h:AbI m c L L1 V V1 id r K K1) (hr: ∀i t,L.tr i=some t→t.parent=0∨r t.parent<r i): ∀i t,L1.tr i=some t→t.parent=0∨r t.parent<r i:= fun i t ht=>hr i t (h.sub.some ht)
theorem AbI.next (h:AbI m c L L1 V V1 id r K K1) (h2:AbP m c L1 L2 V1 V2 k r K1 K2) (hk:r id<r k):AbI m c L L2 V V2 id r K K2:=
  ⟨h2.inv,h2.sp.trans h.sp,h2.pres.trans h.pres,h.sub.trans h2.sub,h.ab.trans h2.ab, fun i hi=>(h2.low i (by omega)).trans (h.low i hi),h2.trn, by have :=h.le; have :=h2.lt;omega,h2.sz⟩
theorem AbI.fin (h:AbI m c L L1 V V1 id r K K1) (ht:L1.tr id=some t) (hs:StepX (fun _=>0) m L1 V1 (fun _=>0) m 0 0 L2 V2) (hab:Q1 L2 V2=GE (Q1 L1 V1) id) (hp:L2.pres=L1.pres) (hT:L2.tr=Xi L1.tr id none): ∃K2,K1=K2+1∧AbP m c L L2 V V2 id r K K2:= by
  obtain⟨K2,e,hK⟩:=h.trn.del (i:=id) (by rw[ht]; simp)
  have hsub:SubT L1.tr L2.tr:= fun i=> by
    rw[hT]
    by_cases e:i=id
    · subst e; exact .inr Qy
    · exact .inl (Q7 e)
  refine⟨K2,e,hs.inv,hs.sp.trans h.sp,hp.trans h.pres,h.sub.trans hsub,h.ab.trans (by rw[hab]; exact .del), fun i hi=> ?_, by rw[hT]; exact Qy, by rw[hT]; exact hK, by have :=h.le;omega,hs.sz _ h.sz⟩
  rw[hT,Q7 (fun q=> by subst q;omega)]
  exact h.low i (by omega)
end
def AbG (kk:Nat):Prop:= ∀{w:World} {b n Fr m c K:Nat} {L:LvD} {V:VS} {F:Th},Sat w [XY b L,XG L.sp n Fr V,F]→n+100000*K≤60000000000→LvI m L V→SzLe L c→c≤50000→TrN L.tr K→K≤100000→ ∀{r:Int→Nat},(∀i t,L.tr i=some t→t.parent=0∨r t.parent<r i)→ ∀{id:Int} {t:TrD},L.tr id=some t→(∀i,r i≤r id+kk)→
    Calls Tryz.prog 25 #[ptrV b 0,intV id] w (Ret fun v w'=> ∃L' V' K',AbP m c L L' V V' id r K K'∧Sat w' [XY b L',XG L'.sp (n+100000*(K -K')) Fr V',F])
theorem LS {kk:Nat} (ih: ∀j,j<kk→AbG j) {w:World} {b n Fr m c K:Nat} {L:LvD} {V:VS} {F:Th} (hS:Sat w [XY b L,XG L.sp n Fr V,F]) (hn:n+100000*K≤60000000000) (hI:LvI m L V) (hc:SzLe L c) (hcc:c≤50000) (hK:TrN L.tr K) (hKK:K≤100000) {r:Int→Nat} (hr: ∀i t,L.tr i=some t→t.parent=0∨r t.parent<r i) {id:Int} {t:TrD} (ht:L.tr id=some t) (hk0: ∀i,r i≤r id+kk):
    Calls Tryz.prog 25 #[ptrV b 0,intV id] w (Ret fun v w'=> ∃L' V' K',AbP m c L L' V V' id r K K'∧Sat w' [XY b L',XG L'.sp (n+100000*(K -K')) Fr V',F]):= by
 have h0:id≠0:=hI.rank.none0 ht
 have hlen: ∀ks,Came (Xv TrD.ad L.tr) ks→ks.length≤100000000000:= fun ks hq=> by
  obtain⟨ids,h1,h2⟩:=hK
  exact Nat.le_trans (KX hq.nodup fun i hi=>h2 i fun q=>absurd (by unfold Xv; rw[q];rfl) (hq.has i hi)) (by omega)
 replace hS:=Xy hS
 refine Qm Tryz.func25 U Tryz.ntmps25 U ?_
 refine Qd (Qd (Qa (Qb U U (Qj U U (Qg U Z7 U (Qn U WN (hS.cell 0 U U) U (Qb U U (XT (k:=id) 2 hS keysInt Tryz.underlying82 U U U Yu (u:=ptrV t.ad 0) (Zw ht) U (ZO Tryz.underlying94 U U U (Qf (Qc (QT U (Qt (Qc (Qd (Qd ?_))))))))))))))))
 have hS1:=QZ (L:=L) (hS.pick [0,1,2,3,4,5,6] U)
 refine Qa (Qb U U (Qw TI U (GX (hS1.sp [0] U) hlen) U ?_))
 rintro _ w2 ⟨ks,hks,hS2⟩
 replace hS2:=hS2.jn U U
 clear hS1
 obtain⟨ar,cr,hvr,_⟩:=hS2.own_shape 0 rfl; obtain rfl:=hvr
 have hkl:(XZ ks).length≤100000000000:= by rw[Wk]; exact hlen _ (Came.of_all hks)
 refine Xr Tryz.underlying47 U U (Qb U U (Qf (Qc (Qh [1,0,15,16,17] U (Qv ?_)))))
 have hzs:=Xe (m:=n+100000*(K -K)) (by omega) (hS2.pick [2,0,1,3] U)
 refine Xb (fun K0 E0 W0=> ∃(i:Nat) (L1:LvD) (V1:VS) (K1:Nat),K0=(XZ ks).length -i∧E0=[(0,ptrV b 0),(1,intV id),(15,.slice ar (XZ ks).length cr),(16,intV ((XZ ks).length:Int)),(17,intV (i:Int))]∧Sat W0 [XY b L1,rowT inC (.slice ar (XZ ks).length cr) (XZ ks),XG L1.sp (n+100000*(K -K1)) Fr V1,F]∧(i≤(XZ ks).length)∧(AbI m c L L1 V V1 id r K K1)∧(∀j k u,j<i→(XZ ks)[j]? =some k→L1.tr k=some u→u.parent≠id)) (L0:=[(0,_),(1,_),(15,_),(16,_),(17,_)]) ((XZ ks).length) (YU U U U U U) ⟨0,L,V,K,rfl,rfl,hzs.pick [2,1,0,3] U, by omega,.start hI hc hK, fun j k u hj=>absurd hj (by omega)⟩ ?_
 rintro _ _ w3 ⟨i,L1,V1,K1,rfl,rfl,hS3,hi,hab,hdn⟩
 refine Qd (Qa (Xg U U U (Qf (Qc (Qd (Qs U (fun h4=> ?_) (fun h4=> ?_)))))))
 ·obtain⟨k,hk⟩: ∃k,(XZ ks)[i]? =some k:=⟨_,Zi (by omega)⟩
  refine Qt (Qc (Qd (Qv (Qd (Qa (QW inC 1 i hS3 U U U (by first | rfl | omega) hk JQ U ?_))))))
  intro bx5 capx5 hvx5
  refine XE 1 i 0 hS3 U hvx5 U U hk QL U U (Qe U U (Qf (Qc (Qd ?_))))
  have hS6:=Xy (hS3.pick [0,1,2,3] U)
  refine Qa (Qb U U (Qj U U (Qg U Z7 U (Qn U WN (hS6.cell 0 U U) U (Qb U U (XT (k:=k) 2 hS6 keysInt Tryz.underlying82 U U U Yu (u:=ptO TrD.ad (L1.tr k)) (Uw _) U (Qe U U (Qf (Qc (Qh [17,16,15,1,0,5,6] U (Qd ?_)))))))))))
  have hS7:=QZ (L:=L1) (hS6.pick [0,1,2,3,4,5,6,7] U)
  refine Qa (Qb U U ?_)
  rcases hq_q:L1.tr k with _ | u
  ·refine J0 Tryz.underlying94 U U U (Qb U U (Qi U U U U (Qi U U U U (Qi U U U U (Qi U U U U (Qi U U U U (Qi U U U U (QP U U U U (Qf (Qc (Qh [17,16,15,1,0,5,36] U (QT U (Qt (Qk (Qc (Qa (QI U U (by omega) (by omega) U ?_)))))))))))))))))
   refine Qb U U (Qf ?_)
   exact Q0 (L1:=[(0,_),(1,_),(15,_),(16,_),(17,intV ((i+1:Nat):Int))]) (YU U U U U U) (k1:=(XZ ks).length -(i+1)) (by omega) ⟨i+1,L1,V1,K1,rfl,rfl,(Xe (m:=n+100000*(K -K1)) (by omega) (hS7.pick [2,0,1,3] U)).reorder [1,2,0,3] U, by omega,hab, fun j k2 u2 hj hk2 hu2=> by by_cases e:j=i;(subst e; rw[hk]at hk2; cases hk2; rw[hq_q]at hu2; cases hu2); exact hdn j k2 u2 (by omega) hk2 hu2⟩
  refine Hj Tryz.underlying94 U U U (Qb U U (Ql U U U (Qb U U (Ql U U U (Qj U U (Ql U U U (Qg U JT U (Ql U U U (Qn U QL (V6 hS7 0 U hq_q 0 U) U (Ql U U U (Qb U U (Ql U U U (Xd U U U (Q9 U U U U (Qf (Qc (Qh [17,16,15,1,0,5,36] U (Qs U (fun h8=> ?_) (fun h8=> ?_)))))))))))))))))))
  ·have hpar:u.parent=id:= by simpa using h8
   refine Qa (Qb U U (Qb U U ?_))
   have hlow:r id<r k:= by have h9:=(hr k u (hab.sub.some hq_q)).resolve_left (by rw[hpar]; exact h0);rwa [hpar]at h9
   have hkk:=hk0 k
   have hle0:=hab.le
   refine Qw PG U (ih (kk -1) (by omega) (hS7.sp [0,2] U) (by omega) hab.inv hab.sz hcc hab.trn (by omega) (hab.rank hr) hq_q (fun j=> by have :=hk0 j;omega)) U ?_
   rintro _ w9 ⟨L2,V2,K2,h2,hS9⟩
   replace hS9:=hS9.jn U U
   clear hS7
   refine Qf (Qk (Qc (Qa (QI U U (by omega) (by omega) U ?_))))
   refine Qb U U (Qf ?_)
   have hlt2:=h2.lt; have hle1:=hab.le
   exact Q0 (L1:=[(0,_),(1,_),(15,_),(16,_),(17,intV ((i+1:Nat):Int))]) (YU U U U U U) (k1:=(XZ ks).length -(i+1)) (by omega) ⟨i+1,L2,V2,K2,rfl,rfl,(Xe (m:=n+100000*(K -K2)) (by omega) (hS9.pick [1,0,2,3] U)).reorder [1,2,0,3] U, by omega,hab.next h2 hlow, fun j k2 u2 hj hk2 hu2=> by by_cases e:j=i;(subst e; rw[hk]at hk2; cases hk2; rw[h2.gone]at hu2; cases hu2); exact hdn j k2 u2 (by omega) hk2 (h2.sub.some hu2)⟩
  have hnp:u.parent≠id:= by simpa using h8
  refine Qt (Qk (Qc (Qa (QI U U (by omega) (by omega) U ?_))))
  refine Qb U U (Qf ?_)
  exact Q0 (L1:=[(0,_),(1,_),(15,_),(16,_),(17,intV ((i+1:Nat):Int))]) (YU U U U U U) (k1:=(XZ ks).length -(i+1)) (by omega) ⟨i+1,L1,V1,K1,rfl,rfl,(Xe (m:=n+100000*(K -K1)) (by omega) (hS7.pick [2,0,1,3] U)).reorder [1,2,0,3] U, by omega,hab, fun j k2 u2 hj hk2 hu2=> by by_cases e:j=i;(subst e; rw[hk]at hk2; cases hk2; rw[hq_q]at hu2; cases hu2; exact hnp); exact hdn j k2 u2 (by omega) hk2 hu2⟩
 refine QM (Qo (Qo (Qx (Qc (Qa (Qb U U (Qb U U ?_)))))))
 have hil:i=(XZ ks).length:= by omega
 have ht1:L1.tr id=some t:=(hab.low id (Nat.le_refl _)).trans ht
 have hle0:=hab.le
 obtain⟨K9,hK9,_⟩:=hab.trn.del (i:=id) (by rw[ht1]; simp)
 have hch: ∀i u,L1.tr i=some u→u.parent≠id:= fun i2 u2 hu2=> by have h9:=(hks.mem i2).2 (by unfold Xv; rw[hab.sub.some hu2]; simp); obtain⟨j,hj⟩:=List.mem_iff_getElem?.1 ((WT ks).mem_iff.2 h9); exact hdn j i2 u2 (by rw[hil]; exact(XR hj).1) hj hu2
 refine Qw OJ U (Mo (c:=c) (hS3.sp [0,2] U) hab.sz (by omega) hab.inv (fun _ _=>Int.le_refl _) ht1 hch) U ?_
 rintro _ w10 ⟨L2,V2,h3,h4,h5,h6,hS10⟩
 replace hS10:=hS10.jn U U
 clear hS3
 refine Qf (ZD (.inl U) U ?_)
 obtain⟨K2,e2,hP⟩:=hab.fin ht1 h3 h4 h5 h6
 exact⟨_,rfl,L2,V2,K2,hP,(Xe (m:=n+100000*(K -K2)) (by omega) (hS10.pick [1,0,3] U)).reorder [1,0,2] U⟩
theorem abortG: ∀kk,AbG kk:= fun kk=> by
  induction kk using Nat.strongRecOn with
  | _ kk ih=> exact fun hS hn hI hc hcc hK hKK r hr id t ht hk0=>LS ih hS hn hI hc hcc hK hKK hr ht hk0
theorem NF {w:World} {b n Fr m c K:Nat} {L:LvD} {V:VS} {F:Th} (hS:Sat w [XY b L,XG L.sp n Fr V,F]) (hn:n+100000*K≤60000000000) (hI:LvI m L V) (hc:SzLe L c) (hcc:c≤50000) (hK:TrN L.tr K) (hKK:K≤100000) {id:Int} {t:TrD} (ht:L.tr id=some t):
    Calls Tryz.prog 25 #[ptrV b 0,intV id] w (Ret fun v w'=> ∃L' V' K',(∃r,AbP m c L L' V V' id r K K')∧Sat w' [XY b L',XG L'.sp (n+100000*(K -K')) Fr V',F]):= by
  obtain⟨_,r,h1,h2⟩:=hI.rank
  refine(abortG m hS hn hI hc hcc hK hKK (r:=r) (fun i t ht=>(h2 i t ht).imp_right And.right) ht (fun i=> by have :=h1 i;omega)).mono fun e w h=>h.mono fun v w h=> ?_
  obtain⟨L',V',K',h3,h4⟩:=h
  exact⟨L',V',K',⟨r,h3⟩,h4⟩
theorem MR {w:World} {b n Fr:Nat} {L:LvD} {V:VS} {F:Th} (hS:Sat w [XY b L,XG L.sp n Fr V,F]) (hn:n≤60000000000) {id:Int} (ht:L.tr id=none):
    Calls Tryz.prog 25 #[ptrV b 0,intV id] w (Ret fun v w'=>Sat w' [XY b L,XG L.sp n Fr V,F]):= by
 replace hS:=Xy hS
 refine Qm Tryz.func25 U Tryz.ntmps25 U ?_
 exact Qd (Qd (Qa (Qb U U (Qj U U (Qg U Z7 U (Qn U WN (hS.cell 0 U U) U (Qb U U (XT (k:=id) 2 hS keysInt Tryz.underlying82 U U U Yu (u:= .pointer none) (Vw ht) U (Wy Tryz.underlying94 U U U (Qf (Qc (Xf U (Qu (Qp (ZD (.inr U) U (⟨_,rfl,QZ (hS.pick [0,1,2,3,4,5,6] U)⟩))))))))))))))))
end Go.Proofs.YtkcjfoaejijdoaaGreatDoor
namespace Go.Proofs.YtkcjfoaejijdoaaGreatDoor
open Go.RowKit M
variable [Inhabited SlW]
theorem M0 {w:World} {As:List Th} {f:KD→Option LfD} {k:KD} {x:LfD} {a:Nat} (ha:x.ad=a) (h:Sat w (Q3 a (lfV x)::Zj VQ (Xi f k none)::As)):Sat w (Zj VQ (Xi f k (some x))::As):= by subst ha; exact CH h
structure PlA {σ:Type} (g:Nat) (c1:Nat) (b mt:Nat) (Q:σ→Th) (J:σ→(Int→Option TrD)→(Int×KD×Bool→Prop)→Prop):Prop where
  ok:QE Tryz.prog g=true
  cell: ∀{s:σ} {w:World} {As:List Th} (i:Nat),Sat w As→As[i]? =some (Q s)→w.cell? ⟨b,2,none⟩=some (.map (some mt))
  step: ∀{s:σ} {T:Int→Option TrD} {dn:Int×KD×Bool→Prop} {i:Int} {t:TrD} {k:KD} {x:LfD} {a:Nat} (o:Bool) (q:Nat),q=(bif o then 1 else 0)→J s T dn→T i=some t→t.lv k=some x→ ¬dn (i,k,o)→x.ad=a→ ∀{w:World} {X:Th},Sat w [Q3 a (lfV x),Q s,X]→
    Calls Tryz.prog g #[ptrV a q,ptrV c1 0] w (Ret fun v w'=> ∃s' x',x'.ad=a∧J s' (Xi T i (some {t with lv:=Xi t.lv k (some x')})) (fun p=>dn p∨p=(i,k,o))∧Sat w' [Q3 a (lfV x'),Q s',X])
theorem Pf {σ:Type} {g c1 b mt:Nat} {Q:σ→Th} {J:σ→(Int→Option TrD)→(Int×KD×Bool→Prop)→Prop} (hP:PlA g c1 b mt Q J) {w:World} {T:Int→Option TrD} {s0:σ} {F:Th} (hS:Sat w [Q5 QO mt (Xv TrD.ad T),Zj HK T,Q s0,F]) (hJ0:J s0 T (fun _=>False)):
    Calls Tryz.prog 131 #[ptrV b 0,.func (.func g) #[] #[ptrV c1 0]] w (Ret fun v w'=> ∃s T' dn,J s T' dn∧(∀j t k x,T' j=some t→t.lv k=some x→ ∀o,dn (j,k,o))∧Xv TrD.ad T'=Xv TrD.ad T∧Sat w' [Q5 QO mt (Xv TrD.ad T),Zj HK T',Q s,F]):= by
 refine Qm Tryz.func131 U Tryz.ntmps131 U ?_
 refine Qd (Qa (Qb U U (Qj U U (Qg U Z7 U (Qn U WN (hP.cell 2 hS U) U (Wm 0 hS Tryz.underlying82 U U U ?_))))))
 intro RR leftZ wRRR hSRRR; dsimp only[List.set]at hSRRR
 refine Qf (Qc (Qv (Xb (fun K0 E0 W0=> ∃(dn0:Int→Prop) (cur:Option Int) (left:Nat) (s:σ) (T1:Int→Option TrD) (dn:Int×KD×Bool→Prop),K0=left∧E0=[(0,ptrV b 0),(1,.func (.func g) #[] #[ptrV c1 0]),(12,ptrV RR 0)]∧Sat W0 [Wq QO mt RR (Xv TrD.ad T) dn0 cur left,Zj HK T1,Q s,F]∧(J s T1 dn)∧(Xv TrD.ad T1=Xv TrD.ad T)∧(∀j t k x,dn0 j→T1 j=some t→t.lv k=some x→ ∀o,dn (j,k,o))∧(∀p,dn p→dn0 p.1)) (L0:=[(0,_),(1,_),(12,_)]) (leftZ) (RB U U U) ⟨_,_,_,s0,T, fun _=>False,rfl,rfl,hSRRR.pick [0,1,2,3] U,hJ0,rfl, fun _ _ _ _ h=>h.elim, fun _ h=>h⟩ ?_)))
 rintro _ _ w1 ⟨dn0,cur,left,s,T1,dn,rfl,rfl,hS1,hJ,hag,hcov0,hsub0⟩
 refine Qd (Qa (WP 0 hS1 keysInt.inj U U U (fun hdoneA=> ?_) (fun i vA leftA wNA hleftA hgkA hndA hSNA=> ?_)))
 ·refine Qq U U U (Qf (Qc (Qd (QT U (QM (Qo (Qo (Qx (ZD (.inl U) U ?_)))))))))
  have hz:=ZQ (hS1.pick [0,1,2,3] U)
  exact⟨_,rfl,s,T1,dn,hJ, fun j t k x ht hx o=>hcov0 j t k x (hdoneA j (ptrV t.ad 0) ((congrFun hag j).symm.trans (by unfold Xv; rw[ht];rfl))) ht hx o,hag,hz⟩
 dsimp only[List.set]at hSNA
 obtain⟨u,hu,rfl⟩:=Uv ((congrFun hag i).trans hgkA)
 refine Qq U U U (Qf (Qc (Qd (Xf U (Qt (Qc (Qv (Qd (Qa (Wn 0 hSNA U hgkA U U (Qq U U U (Qe U U (Qf (Qc (Qd ?_)))))))))))))))
 have hS2:=ZB (hSNA.pick [1,0,2,3] U) hu
 refine Qa (Qb U U (Qj U U (Qg U ZU U (Qn U Jy (hS2.cell 0 U U) U (Wm 1 hS2 Tryz.underlying90 U U U ?_)))))
 intro R2 leftY wRR2 hSRR2; dsimp only[List.set]at hSRR2
 clear hS2
 refine Qf (Qc (Qh [12,1,0,21] U (Qv ?_)))
 refine Xb (fun K0 E0 W0=> ∃(dk:KD→Prop) (ck:Option KD) (left3:Nat) (s1:σ) (g1:KD→Option LfD) (dn1:Int×KD×Bool→Prop),K0=left3∧E0=[(0,ptrV b 0),(1,.func (.func g) #[] #[ptrV c1 0]),(12,ptrV RR 0),(21,ptrV R2 0)]∧Sat W0 [Q3 u.ad [intV u.parent,.map (some u.ml),.map (some u.md)],Wq Xo u.ml R2 (Xv LfD.ad u.lv) dk ck left3,Zj VQ g1,Q5 Js u.md (ZZ u.dr),Zj HK (Xi T1 i none),Wq QO mt RR (Xv TrD.ad T) (fun j=>dn0 j∨j=i) (some i) leftA,Q s1,F]∧(J s1 (Xi T1 i (some {u with lv:=g1})) dn1)∧(Xv LfD.ad g1=Xv LfD.ad u.lv)∧(∀j x,dk j→g1 j=some x→ ∀o,dn1 (i,j,o))∧(∀p,dn1 p→dn0 p.1∨(p.1=i∧dk p.2.1))∧(∀p,dn p→dn1 p)) (L0:=[(0,_),(1,_),(12,_),(21,_)]) (leftY) (VN U U U U) ⟨_,_,_,s,u.lv,dn,rfl,rfl,hSRR2.pick [0,1,2,3,4,5,6,7] U, by rw[show Xi T1 i (some {u with lv:=u.lv})=T1 from WE hu]; exact hJ,rfl, fun _ _ h=>h.elim, fun p hp=> .inl (hsub0 p hp), fun _ h=>h⟩ ?_
 rintro _ _ w3 ⟨dk,ck,left3,s1,g1,dn1,rfl,rfl,hS3,hJ1,hgg,hcov,hsub,hmon⟩
 refine Qd (Qa (WP 1 hS3 keysKey.inj U U U (fun hdoneB=> ?_) (fun k vB leftB wNB hleftB hgkB hndB hSNB=> ?_)))
 ·refine Qq U U U (Qf (Qc (Qd (QT U (QM (Qo (Qo (Qx (Qk ?_)))))))))
  have hz:=ZQ (hS3.pick [1,0,2,3,4,5,6,7] U)
  rw[←hgg]at hz
  have hz2:=HT (t:={u with lv:=g1}) (hz.pick [1,0,2,3,4,5,6,7] U)
  exact Q0 (L1:=[(0,_),(1,_),(12,_)]) (RB U U U) (k1:=leftA) (by omega) ⟨_,_,_,s1,_,dn1,rfl,rfl,hz2.pick [1,0,2,3] U,hJ1,(J2 (ad:=TrD.ad) (y:={u with lv:=g1}) hu U).trans hag, fun j t2 k2 x2 hj ht2 hx2 o2=> by
 by_cases e:j=i
 ·subst e
  rw[Qy]at ht2
  cases ht2
  exact hcov k2 x2 (hdoneB k2 (ptrV x2.ad 0) ((congrFun hgg k2).symm.trans (by unfold Xv; rw[show g1 k2=some x2 from hx2];rfl))) hx2 o2
 ·rw[Q7 e]at ht2
  exact hmon _ (hcov0 j t2 k2 x2 (hj.resolve_right e) ht2 hx2 o2), fun p hp=>(hsub p hp).imp_right And.left⟩
 ·dsimp only[List.set]at hSNB
  obtain⟨x,hx,rfl⟩:=Uv ((congrFun hgg k).trans hgkB)
  refine Qq U U U (Qf (Qc (Qd (Xf U (Qt (Qc (Qv (Qd (Qa (Wn 1 hSNB U hgkB U U (Qq U U U (Qe U U (Qf (Qc (Qd ?_)))))))))))))))
  have hS4:=JO (hSNB.pick [2,0,1,3,4,5,6,7] U) hx
  refine Qa (Qb U U (Qb U U (Qj U U (Qg U U3 U ?_))))
  have hnp: ∀o,¬dn1 (i,k,o):= fun o q=>(hsub _ q).elim hndA fun h=>hndB h.2
  refine Y7 U hP.ok U (hP.step false 0 U hJ1 Qy hx (hnp _) U (hS4.sp [0,7] U)) U ?_
  rintro e w5 ⟨_,rfl,s2,x2,hx2,hJ2,hS5⟩; refine⟨_,rfl, ?_⟩
  replace hS5:=hS5.jn U U
  clear hS4
  have hJ3:J s2 (Xi T1 i (some {u with lv:=Xi g1 k (some x2)})) (fun p=>dn1 p∨p=(i,k,false)):= by rw[Ji]at hJ2; exact hJ2
  refine Qf (Qc (Qh [21,12,1,0,7] U (Qa (Qb U U (Qb U U (Qj U U (Qg U W5 U (Y7 U hP.ok U (hP.step true 1 U hJ3 Qy Qy (fun q=>q.elim (hnp _) fun h=> by cases h) hx2 (hS5.sp [0,1] U)) U ?_))))))))
  rintro e w6 ⟨_,rfl,s3,x3,hx3,hJ4,hS6⟩; refine⟨_,rfl, ?_⟩
  replace hS6:=hS6.jn U U
  clear hS5
  have hJ5:J s3 (Xi T1 i (some {u with lv:=Xi g1 k (some x3)})) (fun p=>(dn1 p∨p=(i,k,false))∨p=(i,k,true)):= by rw[Ji,Ji]at hJ4; exact hJ4
  refine Qf (Qk ?_)
  have hS7:=M0 hx3 (hS6.pick [0,2,1,3,4,5,6,7,8] U)
  exact Q0 (L1:=[(0,_),(1,_),(12,_),(21,_)]) (VN U U U U) (k1:=leftB) (by omega) ⟨_,_,_,s3,_,_,rfl,rfl,hS7.pick [2,3,0,4,5,6,1,7] U,hJ5,(J2 (ad:=LfD.ad) hx hx3).trans hgg, fun j y hj hy o2=> by
 by_cases e:j=k
 ·subst e
  cases o2
  ·exact .inl (.inr U)
  ·exact .inr U
 ·rw[Q7 e]at hy
  exact .inl (.inl (hcov j y (hj.resolve_right e) hy o2)), fun p hp=> by
 rcases hp with(hp | hp) | hp
 ·exact(hsub p hp).imp_right fun h=>⟨h.1,.inl h.2⟩
 ·subst hp; exact .inr ⟨rfl,.inr U⟩
 ·subst hp; exact .inr ⟨rfl,.inr U⟩, fun p hp=> .inl (.inl (hmon p hp))⟩
structure PlB {σ:Type} (g:Nat) (c1 c2 c3:Nat) (b mt:Nat) (Q:σ→Th) (J:σ→(Int→Option TrD)→(Int×KD×Bool→Prop)→Prop):Prop where
  ok:QE Tryz.prog g=true
  cell: ∀{s:σ} {w:World} {As:List Th} (i:Nat),Sat w As→As[i]? =some (Q s)→w.cell? ⟨b,2,none⟩=some (.map (some mt))
  step: ∀{s:σ} {T:Int→Option TrD} {dn:Int×KD×Bool→Prop} {i:Int} {t:TrD} {k:KD} {x:LfD} {a:Nat} (o:Bool) (q:Nat),q=(bif o then 1 else 0)→J s T dn→T i=some t→t.lv k=some x→ ¬dn (i,k,o)→x.ad=a→ ∀{w:World} {X:Th},Sat w [Q3 a (lfV x),Q s,X]→
    Calls Tryz.prog g #[ptrV a q,ptrV c1 0,ptrV c2 0,ptrV c3 0] w (Ret fun v w'=> ∃s' x',x'.ad=a∧J s' (Xi T i (some {t with lv:=Xi t.lv k (some x')})) (fun p=>dn p∨p=(i,k,o))∧Sat w' [Q3 a (lfV x'),Q s',X])
theorem Pe {σ:Type} {g c1 c2 c3 b mt:Nat} {Q:σ→Th} {J:σ→(Int→Option TrD)→(Int×KD×Bool→Prop)→Prop} (hP:PlB g c1 c2 c3 b mt Q J) {w:World} {T:Int→Option TrD} {s0:σ} {F:Th} (hS:Sat w [Q5 QO mt (Xv TrD.ad T),Zj HK T,Q s0,F]) (hJ0:J s0 T (fun _=>False)):
    Calls Tryz.prog 131 #[ptrV b 0,.func (.func g) #[] #[ptrV c1 0,ptrV c2 0,ptrV c3 0]] w (Ret fun v w'=> ∃s T' dn,J s T' dn∧(∀j t k x,T' j=some t→t.lv k=some x→ ∀o,dn (j,k,o))∧Xv TrD.ad T'=Xv TrD.ad T∧Sat w' [Q5 QO mt (Xv TrD.ad T),Zj HK T',Q s,F]):= by
 refine Qm Tryz.func131 U Tryz.ntmps131 U ?_
 refine Qd (Qa (Qb U U (Qj U U (Qg U Z7 U (Qn U WN (hP.cell 2 hS U) U (Wm 0 hS Tryz.underlying82 U U U ?_))))))
 intro RR leftZ wRRR hSRRR; dsimp only[List.set]at hSRRR
 refine Qf (Qc (Qv (Xb (fun K0 E0 W0=> ∃(dn0:Int→Prop) (cur:Option Int) (left:Nat) (s:σ) (T1:Int→Option TrD) (dn:Int×KD×Bool→Prop),K0=left∧E0=[(0,ptrV b 0),(1,.func (.func g) #[] #[ptrV c1 0,ptrV c2 0,ptrV c3 0]),(12,ptrV RR 0)]∧Sat W0 [Wq QO mt RR (Xv TrD.ad T) dn0 cur left,Zj HK T1,Q s,F]∧(J s T1 dn)∧(Xv TrD.ad T1=Xv TrD.ad T)∧(∀j t k x,dn0 j→T1 j=some t→t.lv k=some x→ ∀o,dn (j,k,o))∧(∀p,dn p→dn0 p.1)) (L0:=[(0,_),(1,_),(12,_)]) (leftZ) (RB U U U) ⟨_,_,_,s0,T, fun _=>False,rfl,rfl,hSRRR.pick [0,1,2,3] U,hJ0,rfl, fun _ _ _ _ h=>h.elim, fun _ h=>h⟩ ?_)))
 rintro _ _ w1 ⟨dn0,cur,left,s,T1,dn,rfl,rfl,hS1,hJ,hag,hcov0,hsub0⟩
 refine Qd (Qa (WP 0 hS1 keysInt.inj U U U (fun hdoneA=> ?_) (fun i vA leftA wNA hleftA hgkA hndA hSNA=> ?_)))
 ·refine Qq U U U (Qf (Qc (Qd (QT U (QM (Qo (Qo (Qx (ZD (.inl U) U ?_)))))))))
  have hz:=ZQ (hS1.pick [0,1,2,3] U)
  exact⟨_,rfl,s,T1,dn,hJ, fun j t k x ht hx o=>hcov0 j t k x (hdoneA j (ptrV t.ad 0) ((congrFun hag j).symm.trans (by unfold Xv; rw[ht];rfl))) ht hx o,hag,hz⟩
 dsimp only[List.set]at hSNA
 obtain⟨u,hu,rfl⟩:=Uv ((congrFun hag i).trans hgkA)
 refine Qq U U U (Qf (Qc (Qd (Xf U (Qt (Qc (Qv (Qd (Qa (Wn 0 hSNA U hgkA U U (Qq U U U (Qe U U (Qf (Qc (Qd ?_)))))))))))))))
 have hS2:=ZB (hSNA.pick [1,0,2,3] U) hu
 refine Qa (Qb U U (Qj U U (Qg U ZU U (Qn U Jy (hS2.cell 0 U U) U (Wm 1 hS2 Tryz.underlying90 U U U ?_)))))
 intro R2 leftY wRR2 hSRR2; dsimp only[List.set]at hSRR2
 clear hS2
 refine Qf (Qc (Qh [12,1,0,21] U (Qv ?_)))
 refine Xb (fun K0 E0 W0=> ∃(dk:KD→Prop) (ck:Option KD) (left3:Nat) (s1:σ) (g1:KD→Option LfD) (dn1:Int×KD×Bool→Prop),K0=left3∧E0=[(0,ptrV b 0),(1,.func (.func g) #[] #[ptrV c1 0,ptrV c2 0,ptrV c3 0]),(12,ptrV RR 0),(21,ptrV R2 0)]∧Sat W0 [Q3 u.ad [intV u.parent,.map (some u.ml),.map (some u.md)],Wq Xo u.ml R2 (Xv LfD.ad u.lv) dk ck left3,Zj VQ g1,Q5 Js u.md (ZZ u.dr),Zj HK (Xi T1 i none),Wq QO mt RR (Xv TrD.ad T) (fun j=>dn0 j∨j=i) (some i) leftA,Q s1,F]∧(J s1 (Xi T1 i (some {u with lv:=g1})) dn1)∧(Xv LfD.ad g1=Xv LfD.ad u.lv)∧(∀j x,dk j→g1 j=some x→ ∀o,dn1 (i,j,o))∧(∀p,dn1 p→dn0 p.1∨(p.1=i∧dk p.2.1))∧(∀p,dn p→dn1 p)) (L0:=[(0,_),(1,_),(12,_),(21,_)]) (leftY) (VN U U U U) ⟨_,_,_,s,u.lv,dn,rfl,rfl,hSRR2.pick [0,1,2,3,4,5,6,7] U, by rw[show Xi T1 i (some {u with lv:=u.lv})=T1 from WE hu]; exact hJ,rfl, fun _ _ h=>h.elim, fun p hp=> .inl (hsub0 p hp), fun _ h=>h⟩ ?_
 rintro _ _ w3 ⟨dk,ck,left3,s1,g1,dn1,rfl,rfl,hS3,hJ1,hgg,hcov,hsub,hmon⟩
 refine Qd (Qa (WP 1 hS3 keysKey.inj U U U (fun hdoneB=> ?_) (fun k vB leftB wNB hleftB hgkB hndB hSNB=> ?_)))
 ·refine Qq U U U (Qf (Qc (Qd (QT U (QM (Qo (Qo (Qx (Qk ?_)))))))))
  have hz:=ZQ (hS3.pick [1,0,2,3,4,5,6,7] U)
  rw[←hgg]at hz
  have hz2:=HT (t:={u with lv:=g1}) (hz.pick [1,0,2,3,4,5,6,7] U)
  exact Q0 (L1:=[(0,_),(1,_),(12,_)]) (RB U U U) (k1:=leftA) (by omega) ⟨_,_,_,s1,_,dn1,rfl,rfl,hz2.pick [1,0,2,3] U,hJ1,(J2 (ad:=TrD.ad) (y:={u with lv:=g1}) hu U).trans hag, fun j t2 k2 x2 hj ht2 hx2 o2=> by
 by_cases e:j=i
 ·subst e
  rw[Qy]at ht2
  cases ht2
  exact hcov k2 x2 (hdoneB k2 (ptrV x2.ad 0) ((congrFun hgg k2).symm.trans (by unfold Xv; rw[show g1 k2=some x2 from hx2];rfl))) hx2 o2
 ·rw[Q7 e]at ht2
  exact hmon _ (hcov0 j t2 k2 x2 (hj.resolve_right e) ht2 hx2 o2), fun p hp=>(hsub p hp).imp_right And.left⟩
 ·dsimp only[List.set]at hSNB
  obtain⟨x,hx,rfl⟩:=Uv ((congrFun hgg k).trans hgkB)
  refine Qq U U U (Qf (Qc (Qd (Xf U (Qt (Qc (Qv (Qd (Qa (Wn 1 hSNB U hgkB U U (Qq U U U (Qe U U (Qf (Qc (Qd ?_)))))))))))))))
  have hS4:=JO (hSNB.pick [2,0,1,3,4,5,6,7] U) hx
  refine Qa (Qb U U (Qb U U (Qj U U (Qg U U3 U ?_))))
  have hnp: ∀o,¬dn1 (i,k,o):= fun o q=>(hsub _ q).elim hndA fun h=>hndB h.2
  refine Y7 U hP.ok U (hP.step false 0 U hJ1 Qy hx (hnp _) U (hS4.sp [0,7] U)) U ?_
  rintro e w5 ⟨_,rfl,s2,x2,hx2,hJ2,hS5⟩; refine⟨_,rfl, ?_⟩
  replace hS5:=hS5.jn U U
  clear hS4
  have hJ3:J s2 (Xi T1 i (some {u with lv:=Xi g1 k (some x2)})) (fun p=>dn1 p∨p=(i,k,false)):= by rw[Ji]at hJ2; exact hJ2
  refine Qf (Qc (Qh [21,12,1,0,7] U (Qa (Qb U U (Qb U U (Qj U U (Qg U W5 U (Y7 U hP.ok U (hP.step true 1 U hJ3 Qy Qy (fun q=>q.elim (hnp _) fun h=> by cases h) hx2 (hS5.sp [0,1] U)) U ?_))))))))
  rintro e w6 ⟨_,rfl,s3,x3,hx3,hJ4,hS6⟩; refine⟨_,rfl, ?_⟩
  replace hS6:=hS6.jn U U
  clear hS5
  have hJ5:J s3 (Xi T1 i (some {u with lv:=Xi g1 k (some x3)})) (fun p=>(dn1 p∨p=(i,k,false))∨p=(i,k,true)):= by rw[Ji,Ji]at hJ4; exact hJ4
  refine Qf (Qk ?_)
  have hS7:=M0 hx3 (hS6.pick [0,2,1,3,4,5,6,7,8] U)
  exact Q0 (L1:=[(0,_),(1,_),(12,_),(21,_)]) (VN U U U U) (k1:=leftB) (by omega) ⟨_,_,_,s3,_,_,rfl,rfl,hS7.pick [2,3,0,4,5,6,1,7] U,hJ5,(J2 (ad:=LfD.ad) hx hx3).trans hgg, fun j y hj hy o2=> by
 by_cases e:j=k
 ·subst e
  cases o2
  ·exact .inl (.inr U)
  ·exact .inr U
 ·rw[Q7 e]at hy
  exact .inl (.inl (hcov j y (hj.resolve_right e) hy o2)), fun p hp=> by
 rcases hp with(hp | hp) | hp
 ·exact(hsub p hp).imp_right fun h=>⟨h.1,.inl h.2⟩
 ·subst hp; exact .inr ⟨rfl,.inr U⟩
 ·subst hp; exact .inr ⟨rfl,.inr U⟩, fun p hp=> .inl (.inl (hmon p hp))⟩
end Go.Proofs.YtkcjfoaejijdoaaGreatDoor
