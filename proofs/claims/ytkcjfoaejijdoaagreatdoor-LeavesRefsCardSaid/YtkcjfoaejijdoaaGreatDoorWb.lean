/- world: pages -/
import Derived.Test.YtkcjfoaejijdoaaGreatDoorShelf
import Derived.Test.YtkcjfoaejijdoaaGreatDoorFw
import Derived.Test.YtkcjfoaejijdoaaGreatDoorLv20
import Derived.Test.YtkcjfoaejijdoaaGreatDoorDrs
import Derived.Test.YtkcjfoaejijdoaaGreatDoorSh7
import Derived.Test.YtkcjfoaejijdoaaGreatDoorLv51
set_option linter.unusedSectionVars false
set_option linter.unusedVariables false
set_option maxRecDepth 100000
set_option maxHeartbeats 80000000000
namespace Go.Proofs.YtkcjfoaejijdoaaGreatDoor
open Go.RowKit M
def Yj (W:WS) (n:Bs) (q:Int):Bs:=UO (W.objs n q)
def setS (W:WS) (n:Bs) (q:Int) (s:Bs):WS:={W with objs:=setO W.objs n q s}
def JJ (W:WS) (n:Bs) (i:Int) (c:UInt8):WS:= if 0≤i∧i<16384 then setS W n (i/ 64) ((Yj W n (i/ 64)).set (i%64).toNat c)else W
def Gy (W:WS) (n:Bs):WS:={W with objs:= fun m q=> if m=n then none else W.objs m q}
theorem PagesOk.drop {W:WS} (h:PagesOk W.objs) (n:Bs):PagesOk (Gy W n).objs:=⟨fun m q s hs=> by
  simp only[Gy]at hs
  split at hs
  · cases hs
  · exact h.ok m q s hs⟩
def copyTo (W:WS) (frm:Bs) (first:Int) (to:Bs) (at_ hi:Int):WS:={W with objs:= fun m q=> if m=to∧max at_ 0≤q∧q<hi then W.objs frm (first+q -at_)else W.objs m q}
def MD (W:WS) (frm:Bs) (first n:Int) (to:Bs) (at_:Int):WS:=copyTo W frm first to at_ (min (at_+n) 256)
variable [Inhabited SlW]
end Go.Proofs.YtkcjfoaejijdoaaGreatDoor
namespace Go.Proofs.YtkcjfoaejijdoaaGreatDoor
open Go.RowKit M
variable [Inhabited SlW]
theorem Nf {P:Program} {L:Env} {w:World} {d:Nat} {ty:TypeId} {pos:String} {aft:Array Edge} {x:Operand} {t e N sz b o:Nat} (hu:P.underlying t=some (.array N e)) (hs:Wg P e=some sz) (hx:M.look L x=some (ptrV b o)):Ev P L w ⟨some d,.slice t x none none none,ty,pos,aft,none⟩ (.slice (some ⟨b,o,none⟩) N N):= fun ρ hρ=> by
  simp [execOp,hρ _ _ hx,Instr.sliceAt,run_underlying hu,Instr.sureAddr,Instr.sliceBounds,M.run_sizeOf hs,Addr.add]
theorem UD {P:Program} {n:Nat} {ops:Array Oper} {Q:Exit→Act→World→Prop} {rest:List Oper} {L:Env} {w:World} {d:Nat} {ty:TypeId} {pos:String} {aft:Array Edge} {x:Operand} {t e N sz b o:Nat} (hu:P.underlying t=some (.array N e)) (hs:Wg P e=some sz) (hx:M.look L x=some (ptrV b o)) (hd:Nat.blt d n=true) (hk:wl P n ops Q rest ((d,.slice (some ⟨b,o,none⟩) N N)::L) w):wl P n ops Q (⟨some d,.slice t x none none none,ty,pos,aft,none⟩::rest) L w:=Xu hd (Nf hu hs hx) hk
end Go.Proofs.YtkcjfoaejijdoaaGreatDoor
namespace Go.Proofs.YtkcjfoaejijdoaaGreatDoor
open Go.RowKit M
variable [Inhabited SlW]
structure CloSt (Lo Ln:List (Bs×Nat)) (dn:Bs→Prop):Prop where
  nodup:(Ln.map (·.1)).Nodup
  mem: ∀n,n∈Ln.map (·.1)↔dn n
  sub: ∀n,dn n→n∈Lo.map (·.1)
theorem CloSt.start (Lo:List (Bs×Nat)):CloSt Lo [] (fun _=>False):=⟨by simp, by simp, fun _ h=>h.elim⟩
theorem CloSt.step {Lo Ln:List (Bs×Nat)} {dn:Bs→Prop} {k:Bs} {m im nb:Nat} (h:CloSt Lo Ln dn) (hn: ¬dn k) (him:Lo[im]? =some (k,m)):CloSt Lo ((k,nb)::Ln) (fun j=>dn j∨j=k) where
  nodup:=List.nodup_cons.2 ⟨fun hm=>hn ((h.mem k).1 hm),h.nodup⟩
  mem:= fun n=> by
    rw[List.map_cons,List.mem_cons,h.mem n]
    exact or_comm
  sub:= fun n hd=> by
    rcases hd with hd | rfl
    · exact h.sub n hd
    · exact List.mem_map.2 ⟨(n,m),List.mem_of_getElem? him,rfl⟩
theorem CloSt.done {W:WS} {Lo Ln:List (Bs×Nat)} {dn:Bs→Prop} (hO:ObjL Lo W.objs) (h:CloSt Lo Ln dn) (hd: ∀k v,Al Lo k=some v→dn k):ObjL Ln W.objs:= by
  refine⟨h.nodup, fun n=> ?_⟩
  rw[h.mem,←hO.has]
  refine⟨h.sub n, fun hm=> ?_⟩
  cases ha:Fh Lo n with
  | none=> exact absurd hm (PI.1 ha)
  | some m=> exact hd n (.map (some m)) (by simp [Al,ha])
end Go.Proofs.YtkcjfoaejijdoaaGreatDoor
namespace Go.Proofs.YtkcjfoaejijdoaaGreatDoor
open Go.RowKit M
variable [Inhabited SlW]
def Yt (t:TrA) (c:Bs) (k:KD):Bs:= match t.lv k with
  | some x=>x.own
  | none=> if t.dr k.1=true then zer else c
def Wa (b:KD→Bs) (t:TrA) (k:KD):LfA:= match t.lv k with
  | some x=>x
  | none=>⟨Yt t (b k) k,Yt t (b k) k,0#64, if t.dr k.1=true then BitVec.allOnes 64 else 0#64⟩
noncomputable def YQ (t:TrA) (k:KD) (y:LfA):TrA:={t with lv:=Xi t.lv k (some y)}
noncomputable def Dn (t:TrA) (ob:Bs):TrA:={t with lv:=Zp (fun j=>j.1=ob) t.lv,dr:=Wv t.dr ob}
noncomputable def Ex (A:LvA) (id:Int) (t:TrA):LvA:={A with tr:=Xi A.tr id (some t)}
theorem stA_set {A:LvA} {id:Int} {t u:TrA}:Ex (Ex A id t) id u=Ex A id u:= by unfold Ex; simp only[Ji]
theorem Ew {A:LvA} {id:Int} {t:TrA}:(Ex A id t).tr id=some t:=Qy
theorem GO {A:LvA} {id j:Int} {t:TrA} (h:j≠id):(Ex A id t).tr j=A.tr j:=Q7 h
def BgI (A:LvA) (id p:Int) (b:KD→Bs):Prop:=id≠0∧id≠p∧ ∀t,t.parent=p→ ∀k,Wp (Ex A id t) p k=b k∧Wp (Ex A id t) id k=Yt t (b k) k
theorem BgI.set {A:LvA} {id p:Int} {b:KD→Bs} {u:TrA} (h:BgI A id p b):BgI (Ex A id u) id p b:=⟨h.1,h.2.1, fun t ht k=> by rw[stA_set]; exact h.2.2 t ht k⟩
section
variable {A:LvA} {id p i:Int} {b:KD→Bs} {t u:TrA} {k j:KD} {y:LfA} {ob nm:Bs} {W W':WS} {c:Bs}
theorem HU:(Wa b t k).own=Yt t (b k) k:= by
  unfold Wa Yt
  cases t.lv k<;>rfl
theorem KM:Yt (YQ t k y) c j= if j=k then y.own else Yt t c j:= by
  unfold Yt YQ
  dsimp only
  by_cases e:j=k
  · subst e; rw[Qy,if_pos U]
  · rw[Q7 e,if_neg e]
theorem EF:Yt (Dn t ob) c j= if j.1=ob then zer else Yt t c j:= by
  unfold Yt Dn Zp
  dsimp only
  by_cases e:j.1=ob
  · rw[if_pos e,if_pos e]
    cases t.lv j with
    | some x=>rfl
    | none=>
      dsimp only[Option.map_none]
      rw[if_pos (GQ.2 (.inr e))]
  · rw[if_neg e,if_neg e]
    have e2:Wv t.dr ob j.1=t.dr j.1:= by unfold Wv; rw[if_neg e]
    simp only[e2]
def VisT (b:KD→Bs) (t:TrA) (W:WS):Prop:= ∀nm q,Yt t (b (nm,q)) (nm,q)=Yj W nm q
def VisP (P:KD→Bs) (W:WS):Prop:= ∀nm q,P (nm,q)=Yj W nm q
theorem Lb {n m:Bs} {q q':Int} {s:Bs}:Yj (setS W n q s) m q'= if m=n∧q'=q then s else Yj W m q':= by
  unfold Yj setS setO UO
  dsimp only
  by_cases e:m=n∧q'=q
  · rw[if_pos e,if_pos e]
    by_cases z:s=MT
    · rw[if_pos z,z];rfl
    · rw[if_neg z];rfl
  · rw[if_neg e,if_neg e]
theorem Ko (m:Bs) (q:Int) (a:Int) (v:UInt8) (h:0≤a∧a<16384):Yj (JJ W nm a v) m q= if m=nm∧q=a/ 64 then(Yj W nm (a/ 64)).set (a%64).toNat v else Yj W m q:= by
  unfold JJ
  rw[if_pos h,Lb]
theorem Kp (m:Bs) (q:Int):Yj (Gy W nm) m q= if m=nm then zer else Yj W m q:= by
  unfold Yj Gy UO
  dsimp only
  by_cases e:m=nm
  · rw[if_pos e,if_pos e];rfl
  · rw[if_neg e,if_neg e]
theorem Lc (hI:PagesOk W.objs) {m:Bs} {q:Int} (h: ¬(0≤q∧q<256)):Yj W m q=zer:= by
  unfold Yj UO
  cases e:W.objs m q with
  | none=>rfl
  | some s=> exact absurd (hI.ok m q s e).2.2 h
def Nu (n at_:Int):Nat:=(min n (256 -at_) -max 0 (-at_)).toNat
theorem Kq (hI:PagesOk W.objs) {frm to:Bs} {fi n at_:Int} (m:Bs) (q:Int):Yj (MD W frm fi n to at_) m q= if m=to∧at_+max 0 (-at_)≤q∧q<at_+max 0 (-at_)+(Nu n at_:Int)then(if 0≤fi+q -at_∧fi+q -at_<256 then Yj W frm (fi+q -at_)else zer)else Yj W m q:= by
  have e0:Yj (MD W frm fi n to at_) m q=UO (if m=to∧max at_ 0≤q∧q<min (at_+n) 256 then W.objs frm (fi+q -at_)else W.objs m q):=rfl
  rw[e0]
  unfold Nu
  by_cases e:m=to∧max at_ 0≤q∧q<min (at_+n) 256
  · rw[if_pos e,if_pos ⟨e.1, by omega, by omega⟩]
    by_cases r:0≤fi+q -at_∧fi+q -at_<256
    · rw[if_pos r];rfl
    · rw[if_neg r]; exact Lc hI r
  · rw[if_neg e,if_neg fun a=>e ⟨a.1, by omega, by omega⟩]
    rfl
end
noncomputable def KS (b:KD→Bs) (ob:Bs) (t:TrA) (p:Int):TrA:= if 0≤p∧p<256 then YQ t (ob,p) (allR (Wa b t (ob,p)))else t
noncomputable def KR (b:KD→Bs) (ob:Bs) (p0:Int) (t:TrA):Nat→TrA
  | 0=>t
  | q+1=>KS b ob (KR b ob p0 t q) (p0+(q:Int))
noncomputable def D9 (b:KD→Bs) (t:TrA) (to:Bs) (base:Int) (f:Nat→Bs):Nat→TrA
  | 0=>t
  | q+1=>YQ (D9 b t to base f q) (to,base+(q:Int)) (allX (Wa b (D9 b t to base f q) (to,base+(q:Int))) (f q))
def O2 (b:KD→Bs) (t:TrA) (ob:Bs) (p:Int):Bs:= if 0≤p∧p<256 then Yt t (b (ob,p)) (ob,p)else zer
noncomputable def Kz (b:KD→Bs) (t:TrA) (ob:Bs) (fi n:Int) (to:Bs) (at_:Int):TrA:=
  D9 b (KR b ob (fi+max 0 (-at_)) t (Nu n at_)) to (at_+max 0 (-at_)) (fun i=>O2 b t ob (fi+max 0 (-at_)+(i:Int))) (Nu n at_)
section
variable {A:LvA} {id p:Int} {b:KD→Bs} {t:TrA} {ob to:Bs} {p0 base:Int} {f:Nat→Bs} {W:WS}
theorem EE {q:Int} {j:KD}:Yt (KS b ob t q) (b j) j=Yt t (b j) j:= by
  unfold KS
  split
  · rw[KM]
    by_cases e:j=(ob,q)
    · rw[if_pos e, show(allR (Wa b t (ob,q))).own=(Wa b t (ob,q)).own from rfl,HU,e]
    · rw[if_neg e]
  · rfl
theorem BF {j:KD}: ∀q,Yt (KR b ob p0 t q) (b j) j=Yt t (b j) j
  | 0=>rfl
  | q+1=>(EE (b:=b)).trans (BF q)
theorem Cx {m:Bs} {r:Int}: ∀q:Nat,Yt (D9 b t to base f q) (b (m,r)) (m,r)= if m=to∧base≤r∧r<base+(q:Int)then f (r -base).toNat else Yt t (b (m,r)) (m,r)
  | 0=> by rw[if_neg (by omega)];rfl
  | q+1=> by
    show Yt (YQ (D9 b t to base f q) (to,base+(q:Int)) _) (b (m,r)) (m,r)=_
    rw[KM]
    by_cases e:(m,r)=(to,base+(q:Int))
    · obtain⟨e1,e2⟩:=Prod.mk.inj e
      rw[if_pos e,if_pos ⟨e1, by omega, by omega⟩]
      have :(r -base).toNat=q:= by omega
      rw[this]
      rfl
    · rw[if_neg e,Cx q]
      by_cases e2:m=to∧base≤r∧r<base+(q:Int)
      · rw[if_pos e2,if_pos ⟨e2.1,e2.2.1, by omega⟩]
      · rw[if_neg e2,if_neg fun a=>e2 ⟨a.1,a.2.1,Classical.byContradiction fun z=>e (by rw[a.1, show r=base+(q:Int) by omega])⟩]
theorem VisT.copy (h:VisT b t W) (hI:PagesOk W.objs) {frm:Bs} {fi n at_:Int}:VisT b (Kz b t frm fi n to at_) (MD W frm fi n to at_):= fun nm q=> by
  unfold Kz
  rw[Cx,Kq hI,BF,h nm q]
  by_cases e:nm=to∧at_+max 0 (-at_)≤q∧q<at_+max 0 (-at_)+(Nu n at_:Int)
  · rw[if_pos e,if_pos e]
    unfold O2
    have e1:fi+max 0 (-at_)+(((q -(at_+max 0 (-at_))).toNat:Nat):Int)=fi+q -at_:= by omega
    rw[e1]
    by_cases r:0≤fi+q -at_∧fi+q -at_<256
    · rw[if_pos r,if_pos r]; exact h frm _
    · rw[if_neg r,if_neg r]
  · rw[if_neg e,if_neg e]
theorem VisT.rd (h:VisT b t W) {k:KD} {a:Int}:VisT b (YQ t k (rdX (Wa b t k) a)) W:= fun nm q=> by
  rw[KM]
  by_cases e:(nm,q)=k
  · rw[if_pos e, show(rdX (Wa b t k) a).own=(Wa b t k).own from rfl,HU,←e]; exact h nm q
  · rw[if_neg e]; exact h nm q
theorem VisT.wr (h:VisT b t W) {nm:Bs} {a:Int} {v:UInt8} (ha:0≤a∧a<16384):VisT b (YQ t (nm,a/ 64) (wrX (Wa b t (nm,a/ 64)) (a%64) v)) (JJ W nm a v):= fun m q=> by
  rw[KM,Ko m q a v ha]
  by_cases e:(m,q)=(nm,a/ 64)
  · obtain⟨e1,e2⟩:=Prod.mk.inj e
    rw[if_pos e,if_pos ⟨e1,e2⟩, show(wrX (Wa b t (nm,a/ 64)) (a%64) v).own=(Wa b t (nm,a/ 64)).own.set (a%64).toNat v from rfl,HU,h nm (a/ 64)]
  · rw[if_neg e,if_neg fun z=>e (by rw[z.1,z.2])]; exact h m q
theorem VisT.drp (h:VisT b t W) {nm:Bs}:VisT b (Dn t nm) (Gy W nm):= fun m q=> by
  rw[EF,Kp]
  by_cases e:m=nm
  · rw[if_pos e,if_pos e]
  · rw[if_neg e,if_neg e]; exact h m q
end
structure TrK (b:KD→Bs) (t:TrA) (q d:Nat):Prop where
  rd: ∀k x,t.lv k=some x→x.base=b k∨(x.rd=0#64∧x.wr=BitVec.allOnes 64)
  dr: ∀k x,t.dr k.1=true→t.lv k=some x→x.wr=BitVec.allOnes 64
  pt:PartLe t q
  dl:DrLe t d
def GoX (o y:LfA):Prop:=y.base=o.base∧(∃r,y.rd=o.rd ||| (r&&& ~~~o.wr))∧ ∃w,y.wr=o.wr ||| w
theorem Ir {w:BitVec 64}:BitVec.allOnes 64 ||| w=BitVec.allOnes 64:= by
  apply BitVec.eq_of_getLsbD_eq
  intro i hi
  rw[BitVec.getLsbD_or,BitVec.getLsbD_allOnes]
  simp [hi]
theorem Io {r:BitVec 64}:0#64 ||| (r&&& ~~~(BitVec.allOnes 64))=0#64:= by
  apply BitVec.eq_of_getLsbD_eq
  intro i hi
  simp [hi]
theorem or_zer {w:BitVec 64}:w ||| 0#64=w:= by
  apply BitVec.eq_of_getLsbD_eq
  intro i hi
  simp
section
variable {A:LvA} {id p:Int} {b:KD→Bs} {t:TrA} {k:KD} {y o:LfA} {q d:Nat} {ob to:Bs} {p0 base:Int} {f:Nat→Bs} {W:WS}
theorem GoX.rdX {a:Int}:GoX o (rdX o a):=⟨rfl,⟨_,rfl⟩,0#64,or_zer.symm⟩
theorem GoX.allR:GoX o (allR o):=⟨rfl,⟨_,rfl⟩,0#64,or_zer.symm⟩
theorem GoX.wrX {a:Int} {v:UInt8}:GoX o (wrX o a v):=⟨rfl,⟨0#64, by
  show o.rd=o.rd ||| (0#64&&& ~~~o.wr)
  apply BitVec.eq_of_getLsbD_eq
  intro i hi
  simp⟩,_,rfl⟩
theorem GoX.allX {c:Bs}:GoX o (allX o c):=⟨rfl,⟨0#64, by
  show o.rd=o.rd ||| (0#64&&& ~~~o.wr)
  apply BitVec.eq_of_getLsbD_eq
  intro i hi
  simp⟩,BitVec.allOnes 64, by
  show BitVec.allOnes 64=o.wr ||| BitVec.allOnes 64
  apply BitVec.eq_of_getLsbD_eq
  intro i hi
  rw[BitVec.getLsbD_or,BitVec.getLsbD_allOnes]
  simp [hi]⟩
theorem Fz (h:TrK b t q d):(Wa b t k).base=b k∨((Wa b t k).rd=0#64∧(Wa b t k).wr=BitVec.allOnes 64):= by
  unfold Wa
  cases hx:t.lv k with
  | some x=> exact h.rd k x hx
  | none=>
    dsimp only
    unfold Yt
    rw[hx]
    dsimp only
    cases hd:t.dr k.1 with
    | true=> exact .inr ⟨rfl, by simp⟩
    | false=> exact .inl (by simp)
theorem touT_dr (h:TrK b t q d) (hd:t.dr k.1=true):(Wa b t k).wr=BitVec.allOnes 64:= by
  unfold Wa
  cases hx:t.lv k with
  | some x=> exact h.dr k x hd hx
  | none=> dsimp only; rw[if_pos hd]
theorem TrK.putG (h:TrK b t q d) (hg:GoX (Wa b t k) y) {q':Nat} (hq:PartLe (YQ t k y) q'):TrK b (YQ t k y) q' d:= by
  obtain⟨g1,⟨r,g2⟩,w,g3⟩:=hg
  refine⟨fun j x hx=> ?_, fun j x hd hx=> ?_,hq,h.dl⟩
  · have hx':Xi t.lv k (some y) j=some x:=hx
    by_cases e:j=k
    · subst e
      rw[Qy]at hx'
      cases hx'
      rcases Fz (k:=j) h with e1 | ⟨e1,e2⟩
      · exact .inl (g1.trans e1)
      · exact .inr ⟨by rw[g2,e1,e2,Io], by rw[g3,e2,Ir]⟩
    · rw[Q7 e]at hx'; exact h.rd j x hx'
  · have hx':Xi t.lv k (some y) j=some x:=hx
    by_cases e:j=k
    · subst e
      rw[Qy]at hx'
      cases hx'
      rw[g3,touT_dr h hd,Ir]
    · rw[Q7 e]at hx'; exact h.dr j x hd hx'
theorem PartLe.put1 (h:PartLe t q):PartLe (YQ t k y) (q+1):= by
  obtain⟨l,a,c⟩:=h
  refine⟨k::l, by simp;omega, fun j x hx h1 h2=> ?_⟩
  have hx':Xi t.lv k (some y) j=some x:=hx
  by_cases e:j=k
  · rw[e]; exact List.mem_cons_self
  · rw[Q7 e]at hx'; exact List.mem_cons_of_mem _ (c j x hx' h1 h2)
theorem PartLe.put0 (h:PartLe t q) (hy:y.wr=(Wa b t k).wr∨y.wr=BitVec.allOnes 64):PartLe (YQ t k y) q:= by
  obtain⟨l,a,c⟩:=h
  refine⟨l,a, fun j x hx h1 h2=> ?_⟩
  have hx':Xi t.lv k (some y) j=some x:=hx
  by_cases e:j=k
  · subst e
    rw[Qy]at hx'
    cases hx'
    rcases hy with hy | hy
    · unfold Wa at hy
      cases hz:t.lv j with
      | some z=> rw[hz]at hy; dsimp only at hy; exact c j z hz (by rw[←hy]; exact h1) (by rw[←hy]; exact h2)
      | none=>
        rw[hz]at hy
        dsimp only at hy
        split at hy
        · exact absurd hy h2
        · exact absurd hy h1
    · exact absurd hy h2
  · rw[Q7 e]at hx'; exact c j x hx' h1 h2
theorem TrK.rdX (h:TrK b t q d) {a:Int}:TrK b (YQ t k (Go.Proofs.YtkcjfoaejijdoaaGreatDoor.rdX (Wa b t k) a)) q d:=h.putG GoX.rdX (h.pt.put0 (b:=b) (.inl U))
theorem TrK.wrX (h:TrK b t q d) {a:Int} {v:UInt8}:TrK b (YQ t k (Go.Proofs.YtkcjfoaejijdoaaGreatDoor.wrX (Wa b t k) a v)) (q+1) d:=h.putG GoX.wrX h.pt.put1
theorem TrK.drp (h:TrK b t q d):TrK b (Dn t ob) q (d+1):= by
  have key: ∀j x,(Dn t ob).lv j=some x→ ∃z,t.lv j=some z∧((j.1=ob∧x=allX z zer)∨(j.1≠ob∧x=z)):= fun j x hx=> by
    have hx':Zp (fun j=>j.1=ob) t.lv j=some x:=hx
    unfold Zp at hx'
    by_cases e:j.1=ob
    · rw[if_pos e]at hx'
      obtain⟨z,hz,rfl⟩:=Option.map_eq_some_iff.1 hx'
      exact⟨z,hz,.inl ⟨e,rfl⟩⟩
    · rw[if_neg e]at hx'
      exact⟨x,hx',.inr ⟨e,rfl⟩⟩
  refine⟨fun j x hx=> ?_, fun j x hd hx=> ?_, ?_, ?_⟩
  · obtain⟨z,hz,⟨_,rfl⟩ | ⟨_,rfl⟩⟩:=key j x hx
    · rcases h.rd j z hz with e | ⟨e1,e2⟩
      · exact .inl e
      · exact .inr ⟨e1,rfl⟩
    · exact h.rd j _ hz
  · obtain⟨z,hz,⟨_,rfl⟩ | ⟨e,rfl⟩⟩:=key j x hx
    · rfl
    · have hd':Wv t.dr ob j.1=true:=hd
      rcases GQ.1 hd' with q | q
      · exact h.dr j _ q hz
      · exact absurd q e
  · obtain⟨l,a,c⟩:=h.pt
    refine⟨l,a, fun j x hx h1 h2=> ?_⟩
    obtain⟨z,hz,⟨_,rfl⟩ | ⟨_,rfl⟩⟩:=key j x hx
    · exact absurd U h2
    · exact c j _ hz h1 h2
  · obtain⟨l,a,c⟩:=h.dl
    refine⟨ob::l, by simp;omega, fun o ho=> ?_⟩
    have ho':Wv t.dr ob o=true:=ho
    rcases GQ.1 ho' with q | q
    · exact List.mem_cons_of_mem _ (c o q)
    · rw[q]; exact List.mem_cons_self
theorem TrK.rdf (h:TrK b t q d): ∀n,TrK b (KR b ob p0 t n) q d
  | 0=>h
  | n+1=> by
    show TrK b (KS b ob (KR b ob p0 t n) _) q d
    unfold KS
    split
    · exact(TrK.rdf h n).putG GoX.allR ((TrK.rdf h n).pt.put0 (b:=b) (.inl U))
    · exact TrK.rdf h n
theorem TrK.wrf (h:TrK b t q d): ∀n,TrK b (D9 b t to base f n) q d
  | 0=>h
  | n+1=>(TrK.wrf h n).putG GoX.allX ((TrK.wrf h n).pt.put0 (b:=b) (.inr rfl))
theorem TrK.copy (h:TrK b t q d) {frm:Bs} {fi n at_:Int}:TrK b (Kz b t frm fi n to at_) q d:=(h.rdf _).wrf _
end
end Go.Proofs.YtkcjfoaejijdoaaGreatDoor
namespace Go.Proofs.YtkcjfoaejijdoaaGreatDoor
open Go.RowKit M
variable [Inhabited SlW]
structure AcL where
  dk:Int
  idn:Int
  ob:Bs
  to:Bs
  first:Int
  n:Int
  at_:Int
  bb:Int
def LR (x:AcL):List Value:=[intV x.dk,intV x.idn,strV x.ob,strV x.to,intV x.first,intV x.n,intV x.at_,intV x.bb]
def acLC:RowC AcL:=⟨LR,8, by decide, fun _=>rfl, fun _=>rfl⟩
def b8 (a:Int):UInt8:=UInt8.ofNat (a%256).toNat
theorem Bk (a:Int):IntKind.u8.wrap a=((b8 a).toNat:Int):= by
  rw[wrapU8]
  unfold b8
  simp
  omega
def FewL (x:AcL):Prop:=x.ob.length≤20∧x.to.length≤20∧x.n≤300∧ -2147483648≤x.first∧x.first≤2147483648∧ -2147483648≤x.at_∧x.at_≤2147483648∧ -2147483648≤x.n
noncomputable def rdU (b:KD→Bs) (t:TrA) (ob:Bs) (a:Int):TrA:= if 0≤a∧a<16384 then YQ t (ob,a/ 64) (rdX (Wa b t (ob,a/ 64)) (a%64))else t
noncomputable def wrU (b:KD→Bs) (t:TrA) (ob:Bs) (a:Int) (v:UInt8):TrA:= if 0≤a∧a<16384 then YQ t (ob,a/ 64) (wrX (Wa b t (ob,a/ 64)) (a%64) v)else t
noncomputable def wrPU (P:KD→Bs) (ob:Bs) (a:Int) (v:UInt8):KD→Bs:= if 0≤a∧a<16384 then UA P (ob,a/ 64) ((P (ob,a/ 64)).set (a%64).toNat v)else P
noncomputable def cpPU (P:KD→Bs) (ob:Bs) (fi n:Int) (to:Bs) (at_:Int):KD→Bs:= fun k=> if k.1=to∧at_+max 0 (-at_)≤k.2∧k.2<at_+max 0 (-at_)+(Nu n at_:Int)then(if 0≤fi+k.2 -at_∧fi+k.2 -at_<256 then P (ob,fi+k.2 -at_)else zer)else P k
noncomputable def drPU (P:KD→Bs) (ob:Bs):KD→Bs:=Wf (fun j=>j.1=ob) zer P
section
variable {A:LvA} {id p:Int} {b:KD→Bs} {t:TrA} {ob nm to:Bs} {W:WS} {P:KD→Bs} {k:KD} {a:Int} {v:UInt8} {q d:Nat}
theorem VisT.rdU (h:VisT b t W):VisT b (rdU b t ob a) W:= by
  unfold Go.Proofs.YtkcjfoaejijdoaaGreatDoor.rdU
  split
  · exact h.rd
  · exact h
theorem VisT.wrU (h:VisT b t W):VisT b (wrU b t nm a v) (JJ W nm a v):= by
  unfold Go.Proofs.YtkcjfoaejijdoaaGreatDoor.wrU
  by_cases e:0≤a∧a<16384
  · rw[if_pos e]; exact h.wr e
  · rw[if_neg e]
    unfold JJ
    rw[if_neg e]
    exact h
theorem TrK.rdU (h:TrK b t q d):TrK b (Go.Proofs.YtkcjfoaejijdoaaGreatDoor.rdU b t ob a) q d:= by
  unfold Go.Proofs.YtkcjfoaejijdoaaGreatDoor.rdU
  split
  · exact h.rdX
  · exact h
theorem PartLe.up {q':Nat} (h:PartLe t q) (hq:q≤q'):PartLe t q':= by
  obtain⟨l,a,c⟩:=h
  exact⟨l, by omega,c⟩
theorem DrLe.up {d':Nat} (h:DrLe t d) (hq:d≤d'):DrLe t d':= by
  obtain⟨l,a,c⟩:=h
  exact⟨l, by omega,c⟩
theorem TrK.up {q' d':Nat} (h:TrK b t q d) (hq:q≤q') (hd:d≤d'):TrK b t q' d':=⟨h.rd,h.dr,h.pt.up hq,h.dl.up hd⟩
theorem TrK.wrU (h:TrK b t q d):TrK b (Go.Proofs.YtkcjfoaejijdoaaGreatDoor.wrU b t ob a v) (q+1) d:= by
  unfold Go.Proofs.YtkcjfoaejijdoaaGreatDoor.wrU
  split
  · exact h.wrX
  · exact h.up (by omega) (by omega)
theorem VisP.wrU (h:VisP P W):VisP (wrPU P nm a v) (JJ W nm a v):= fun m q=> by
  unfold wrPU
  by_cases e:0≤a∧a<16384
  · rw[if_pos e,Ko m q a v e]
    by_cases e2:(m,q)=(nm,a/ 64)
    · obtain⟨e3,e4⟩:=Prod.mk.inj e2
      rw[e2,X4,if_pos ⟨e3,e4⟩,h nm (a/ 64)]
    · rw[XM e2,if_neg fun z=>e2 (by rw[z.1,z.2])]
      exact h m q
  · rw[if_neg e]
    unfold JJ
    rw[if_neg e]
    exact h m q
theorem VisP.copy (h:VisP P W) (hI:PagesOk W.objs) {fi n at_:Int}:VisP (cpPU P ob fi n to at_) (MD W ob fi n to at_):= fun m q=> by
  unfold cpPU
  rw[Kq hI]
  dsimp only
  by_cases e:m=to∧at_+max 0 (-at_)≤q∧q<at_+max 0 (-at_)+(Nu n at_:Int)
  · rw[if_pos e,if_pos e]
    by_cases r:0≤fi+q -at_∧fi+q -at_<256
    · rw[if_pos r,if_pos r]; exact h ob _
    · rw[if_neg r,if_neg r]
  · rw[if_neg e,if_neg e]; exact h m q
theorem VisP.drp (h:VisP P W):VisP (drPU P nm) (Gy W nm):= fun m q=> by
  unfold drPU Wf
  rw[Kp]
  dsimp only
  by_cases e:m=nm
  · rw[if_pos e,if_pos e]
  · rw[if_neg e,if_neg e]; exact h m q
theorem OZ (h:VisT b t W):(if 0≤a∧a<16384 then NI (Yt t (b (ob,a/ 64)) (ob,a/ 64)) (a%64)else 0)=MI W ob a:= by
  unfold MI NI
  rw[h ob (a/ 64)]
  rfl
theorem Ia (h:VisP P W):(if 0≤a∧a<16384 then NI (P (ob,a/ 64)) (a%64)else 0)=MI W ob a:= by
  unfold MI NI
  rw[h ob (a/ 64)]
  rfl
end
def Jo (x:AcL):Int:=x.dk%14
noncomputable def YA (b:KD→Bs) (t:TrA) (x:AcL):TrA:= if Jo x=0∨Jo x=1∨Jo x=2∨Jo x=7∨Jo x=8 then rdU b t x.ob x.at_ else if Jo x=5∨Jo x=11 then Kz b t x.ob x.first x.n x.to x.at_ else if Jo x=6 then Dn t x.ob else wrU b t x.ob x.at_ (b8 x.bb)
noncomputable def KJ (P:KD→Bs) (x:AcL):KD→Bs:= if Jo x=0∨Jo x=1∨Jo x=2∨Jo x=7∨Jo x=8 then P else if Jo x=5∨Jo x=11 then cpPU P x.ob x.first x.n x.to x.at_ else if Jo x=6 then drPU P x.ob else wrPU P x.ob x.at_ (b8 x.bb)
def UH (W:WS) (x:AcL):WS:= if Jo x=0∨Jo x=1∨Jo x=2∨Jo x=7∨Jo x=8 then W else if Jo x=5∨Jo x=11 then MD W x.ob x.first x.n x.to x.at_ else if Jo x=6 then Gy W x.ob else JJ W x.ob x.at_ (b8 x.bb)
section
variable {b:KD→Bs} {t:TrA} {W:WS} {P:KD→Bs} {x:AcL} {q d:Nat}
theorem Ur (h:Jo x=0∨Jo x=1∨Jo x=2∨Jo x=7∨Jo x=8):YA b t x=rdU b t x.ob x.at_∧KJ P x=P∧UH W x=W:= by unfold YA KJ UH; rw[if_pos h,if_pos h,if_pos h]; exact⟨rfl,rfl,rfl⟩
theorem Vr (h:Jo x=5∨Jo x=11):YA b t x=Kz b t x.ob x.first x.n x.to x.at_∧KJ P x=cpPU P x.ob x.first x.n x.to x.at_∧UH W x=MD W x.ob x.first x.n x.to x.at_:= by
  have h1: ¬(Jo x=0∨Jo x=1∨Jo x=2∨Jo x=7∨Jo x=8):= by omega
  unfold YA KJ UH; rw[if_neg h1,if_neg h1,if_neg h1,if_pos h,if_pos h,if_pos h]; exact⟨rfl,rfl,rfl⟩
theorem Vq (h:Jo x=6):YA b t x=Dn t x.ob∧KJ P x=drPU P x.ob∧UH W x=Gy W x.ob:= by
  have h1: ¬(Jo x=0∨Jo x=1∨Jo x=2∨Jo x=7∨Jo x=8):= by omega
  have h2: ¬(Jo x=5∨Jo x=11):= by omega
  unfold YA KJ UH; rw[if_neg h1,if_neg h1,if_neg h1,if_neg h2,if_neg h2,if_neg h2,if_pos h,if_pos h,if_pos h]; exact⟨rfl,rfl,rfl⟩
theorem Vp (h1: ¬(Jo x=0∨Jo x=1∨Jo x=2∨Jo x=7∨Jo x=8)) (h2: ¬(Jo x=5∨Jo x=11)) (h3: ¬Jo x=6):YA b t x=wrU b t x.ob x.at_ (b8 x.bb)∧KJ P x=wrPU P x.ob x.at_ (b8 x.bb)∧UH W x=JJ W x.ob x.at_ (b8 x.bb):= by
  unfold YA KJ UH; rw[if_neg h1,if_neg h1,if_neg h1,if_neg h2,if_neg h2,if_neg h2,if_neg h3,if_neg h3,if_neg h3]; exact⟨rfl,rfl,rfl⟩
theorem KI (x:AcL):(Jo x=0∨Jo x=1∨Jo x=2∨Jo x=7∨Jo x=8)∨(Jo x=5∨Jo x=11)∨Jo x=6∨(¬(Jo x=0∨Jo x=1∨Jo x=2∨Jo x=7∨Jo x=8)∧ ¬(Jo x=5∨Jo x=11)∧ ¬Jo x=6):= by omega
theorem VisT.step (h:VisT b t W) (hI:PagesOk W.objs):VisT b (YA b t x) (UH W x):= by
  rcases KI x with e | e | e | ⟨e1,e2,e3⟩
  · rw[(Ur (b:=b) (t:=t) (P:=b) (W:=W) e).1,(Ur (b:=b) (t:=t) (P:=b) (W:=W) e).2.2]; exact h.rdU
  · rw[(Vr (b:=b) (t:=t) (P:=b) (W:=W) e).1,(Vr (b:=b) (t:=t) (P:=b) (W:=W) e).2.2]; exact h.copy hI
  · rw[(Vq (b:=b) (t:=t) (P:=b) (W:=W) e).1,(Vq (b:=b) (t:=t) (P:=b) (W:=W) e).2.2]; exact h.drp
  · rw[(Vp (b:=b) (t:=t) (P:=b) (W:=W) e1 e2 e3).1,(Vp (b:=b) (t:=t) (P:=b) (W:=W) e1 e2 e3).2.2]; exact h.wrU
theorem VisP.step (h:VisP P W) (hI:PagesOk W.objs):VisP (KJ P x) (UH W x):= by
  rcases KI x with e | e | e | ⟨e1,e2,e3⟩
  · rw[(Ur (b:=P) (t:=⟨0, fun _=>none, fun _=>false⟩) (P:=P) (W:=W) e).2.1,(Ur (b:=P) (t:=⟨0, fun _=>none, fun _=>false⟩) (P:=P) (W:=W) e).2.2]; exact h
  · rw[(Vr (b:=P) (t:=⟨0, fun _=>none, fun _=>false⟩) (P:=P) (W:=W) e).2.1,(Vr (b:=P) (t:=⟨0, fun _=>none, fun _=>false⟩) (P:=P) (W:=W) e).2.2]; exact h.copy hI
  · rw[(Vq (b:=P) (t:=⟨0, fun _=>none, fun _=>false⟩) (P:=P) (W:=W) e).2.1,(Vq (b:=P) (t:=⟨0, fun _=>none, fun _=>false⟩) (P:=P) (W:=W) e).2.2]; exact h.drp
  · rw[(Vp (b:=P) (t:=⟨0, fun _=>none, fun _=>false⟩) (P:=P) (W:=W) e1 e2 e3).2.1,(Vp (b:=P) (t:=⟨0, fun _=>none, fun _=>false⟩) (P:=P) (W:=W) e1 e2 e3).2.2]; exact h.wrU
theorem TrK.step (h:TrK b t q d):TrK b (YA b t x) (q+1) (d+1):= by
  rcases KI x with e | e | e | ⟨e1,e2,e3⟩
  · rw[(Ur (b:=b) (t:=t) (P:=b) (W:=T4) e).1]; exact h.rdU.up (by omega) (by omega)
  · rw[(Vr (b:=b) (t:=t) (P:=b) (W:=T4) e).1]; exact h.copy.up (by omega) (by omega)
  · rw[(Vq (b:=b) (t:=t) (P:=b) (W:=T4) e).1]; exact h.drp.up (by omega) (by omega)
  · rw[(Vp (b:=b) (t:=t) (P:=b) (W:=T4) e1 e2 e3).1]; exact h.wrU.up (by omega) (by omega)
end
end Go.Proofs.YtkcjfoaejijdoaaGreatDoor
namespace Go.Proofs.YtkcjfoaejijdoaaGreatDoor
open Go.RowKit M
variable [Inhabited SlW]
section
variable {P:Program} {n:Nat} {ops:Array Oper} {Q:Exit→Act→World→Prop} {rest:List Oper} {L:Env} {w:World} {d:Nat} {ty:TypeId} {pos:String} {aft:Array Edge} {x y:Operand} {t t2:TypeId}
theorem wl_remT {a b:Int} (hx:M.look L x=some (.int .i64 a)) (hy:M.look L y=some (.int .i64 b)) (hb:0<b∧b≤1000) (hd:Nat.blt d n=true) (hk:wl P n ops Q rest ((d,.int .i64 (a.tmod b))::L) w):wl P n ops Q (⟨some d,.binOp .rem t x y t2,ty,pos,aft,none⟩::rest) L w:=
  Xu hd (fun ρ hρ=> by
    have hb':b≠0:= by omega
    have h1:=Int.tmod_lt_of_pos a hb.1
    have h2:=Int.lt_tmod_of_pos a hb.1
    have e:IntKind.i64.wrap (a.tmod b)=a.tmod b:=wrap64 (by omega) (by omega)
    simp [execOp,hρ _ _ hx,hρ _ _ hy,eqGuard,binOp,Op.intDiv,hb',e]) hk
end
theorem Sd {n m:Int} (hm:0<m):n%m= if n.tmod m<0 then n.tmod m+m else n.tmod m:= by
  rw[Int.tmod_eq_emod]
  have h1:=Int.emod_nonneg n (by omega:m≠0)
  have h2:=Int.emod_lt_of_pos n hm
  split
  · rw[if_neg (by omega)];omega
  · rename_i h
    rw[Int.natAbs_of_nonneg (by omega)]
    by_cases h3:n%m -m<0
    · rw[if_pos h3];omega
    · omega
theorem Sc {w:World} {F:Th} (hS:Sat w [F]) (n m:Int) (hm:0<m∧m≤1000):
    Calls Tryz.prog 19 #[intV n,intV m] w (Ret fun v w'=>v=intV (n%m)∧Sat w' [F]):= by
 refine Qm Tryz.func19 U Tryz.ntmps19 U ?_
 have hm1:=Int.tmod_lt_of_pos n hm.1
 have hm2:=Int.lt_tmod_of_pos n hm.1
 refine Qd (Qa (Qe U U (Qf (Qc (Qd (Qa (Qb U U (Qb U U (wl_remT U U hm U (Qe U U (Qf (Qc (Ee (fun E0 W0=>E0=[(0,intV (n%m))]∧Sat W0 [F]) ?_ ?_)))))))))))))
 ·refine Qd (Qa (Qb U U (Xg U U U (Qf (Qc (Qs U (fun h2=> ?_) (fun h2=> ?_)))))))
  ·refine Qa (Qb U U (Qb U U (QI U U (by omega) (by omega) U ?_)))
   exact Qe U U (Qf (Ti (L':=[(0,_)]) (zb1 U) ⟨by rw[Sd (n:=n) hm.1,if_pos (by assumption)],hS⟩))
  exact Qt (Ti (L':=[(0,_)]) (zb1 U) ⟨by rw[Sd (n:=n) hm.1,if_neg (by assumption)],hS⟩)
 rintro _ w1 ⟨rfl,hS1⟩
 exact Qd (Qa (Qb U U (Qe U U (Qf (Qc (Qu (QR (.inr U) U U (⟨_,rfl,rfl,hS1⟩))))))))
end Go.Proofs.YtkcjfoaejijdoaaGreatDoor
namespace Go.Proofs.YtkcjfoaejijdoaaGreatDoor
open Go.RowKit M
variable [Inhabited SlW]
def Gv (x:AcL):Bool:=decide (x.ob.length≤20)&&decide (x.to.length≤20)&&decide (x.n≤300)&&decide (-2147483648≤x.first)&&decide (x.first≤2147483648)&&decide (-2147483648≤x.at_)&&decide (x.at_≤2147483648)&&decide (-2147483648≤x.n)
def Nd (l:List AcL) (n:Int):Bool:=l.all Gv&&decide ((l.length:Int)≤n)
theorem YH {l:List AcL} {n:Int} {i:Nat} {x:AcL} (ha:l[i]? =some x) (h:Gv x=false):Value.bool false= .bool (Nd l n):= by
  have :l.all Gv=false:= by
    rw[List.all_eq_false]; exact⟨x,List.mem_of_getElem? ha, by rw[h]; simp⟩
  simp [Nd,this]
theorem Og {l:List AcL} {n:Int} {i:Nat} (hok: ∀j a,j<i→l[j]? =some a→Gv a=true) (hi:i≤l.length) (he: ¬i<l.length):Value.bool (decide ((l.length:Int)≤n))= .bool (Nd l n):= by
  have :l.all Gv=true:= by
    rw[List.all_eq_true]; intro a ha
    obtain⟨j,hj⟩:=List.mem_iff_getElem?.1 ha
    exact hok j a (by have :=(XR hj).1;omega) hj
  simp only[Nd,this,Bool.true_and]
theorem okL_is {x:AcL} (h:Gv x=true):FewL x:= by
  simp only[Gv,Bool.and_eq_true,decide_eq_true_eq]at h
  unfold FewL
  omega
theorem fewL_is {l:List AcL} {n:Int} (h:Nd l n=true):(l.length:Int)≤n∧ ∀(i:Nat) (x:AcL),l[i]? =some x→FewL x:= by
  simp only[Nd,Bool.and_eq_true,List.all_eq_true,decide_eq_true_eq]at h
  exact⟨h.2, fun i x hx=>okL_is (h.1 x (List.mem_of_getElem? hx))⟩
theorem xb_norm {w:World} {xb:Nat} {x:AcL} {As:List Th} (h:Sat w (Q3 xb (Value.agg (LR x).toArray).cells.toList::As)):Sat w (Q3 xb [intV x.dk,intV x.idn,strV x.ob,strV x.to,intV x.first,intV x.n,intV x.at_,intV x.bb]::As):=h
theorem few_sp {w:World} {F:Th} (hS:Sat w [F]) {lv:Value} {l:List AcL} (hL:Ent F (RdL acLC lv l)) (n:Int):
    Calls Tryz.prog 17 #[lv,intV n] w (Ret fun v w'=>v= .bool (Nd l n)∧Sat w' [F]):= by
 obtain⟨ao,cap,rfl,hmax⟩:=(hL.sat hS 0 rfl).shape
 refine Qm Tryz.func17 U Tryz.ntmps17 U ?_
 refine Qd (Qa (Qe U U (Qf (Qc (Qd (Qd (Qa (Qe U U (Qf (Qc (Qv ?_)))))))))))
 refine Xb (fun K0 E0 W0=> ∃(i:Nat),K0=l.length -i∧E0=[(0,.slice ao l.length cap),(1,intV n),(5,intV (i:Int))]∧Sat W0 [F]∧(i≤l.length)∧(∀j a,j<i→l[j]? =some a→Gv a=true)) (L0:=[(0,_),(1,_),(5,_)]) (l.length -0) (RB U U U) ⟨0,rfl,rfl,hS, by omega, by omega⟩ ?_
 rintro _ _ w1 ⟨i,rfl,rfl,hS1,hi,hok⟩
 refine Qd (Qd (Qa (Qb U U (Qb U U (Xr Tryz.underlying36 U U (Xg U U U (Qf (Qc (Qs U (fun h2=> ?_) (fun h2=> ?_))))))))))
 ·obtain⟨x,ha⟩: ∃x,l[i]? =some x:=⟨_,Zi (by omega)⟩
  obtain⟨bq,off,rfl,_⟩:=(hL.sat hS1 0 rfl).get ha
  have hil:=(XR ha).1
  refine Qt (Qc (Qd (Qv (Qd (Qa (Qb U U (Qb U U (Zq i U U (by first | rfl | omega) (by omega) On U ?_))))))))
  refine Vh U ag_43 Ei (vs:=LR x) ((hL.sat hS1 0 U).at_ ha) U (QX hS1 zr_43 U U ?_)
  intro xb wk3 hk3
  clear hS1
  refine QK hk3 U U Ei U (by rfl) (i:=0) U (by decide) ?_
  intro wk4 hk4; dsimp only[List.set]at hk4
  clear hk3
  replace hk4:=xb_norm (x:=x) hk4
  refine Qf (Qc (Qh [5,1,0,6] U (Qd (Qa (Qg U Hc U (Qn U WC (hk4.cell 0 U U) U (WD Tryz.underlying9 U U (YO U U U (Qb U U (QU 21 U (fun h5=> ?_) (fun h5=> ?_)))))))))))
  ·have hoo:Gv x=false:= by unfold Gv; simp;omega
   exact Qi U U (Xl h5) U (Qi U U (Xl h5) U (Qi U U (Xl h5) U (Qi U U (Xl h5) U (Q9 U (Xl h5) U U (Qb U U (Qi U U U U (Qi U U U U (Qi U U U U (Q9 U U U U (Qb U U (Qi U U U U (Qi U U U U (Qi U U U U (Q9 U U U U (Qb U U (Qi U U U U (Qi U U U U (Qi U U U U (Q9 U U U U (Qb U U (Qi U U U U (Qi U U U U (Qi U U U U (Q9 U U U U (Qb U U (Qi U U U U (Qi U U U U (Qi U U U U (Q9 U U U U (Qb U U (Qi U U U U (Qi U U U U (Qi U U U U (Q9 U U U U (Qf (Qc (Qh [5,1,0,56] U (Xf U (Qd (Qa (Qe U U (Qf (Qc (Qu (Qz (Qp (Qp (Qz (Qp (QR (.inr U) U U (⟨_,rfl,YH ha hoo,hk4.pick [1] U⟩)))))))))))))))))))))))))))))))))))))))))))))))))))
  refine Ql U U (QC h5) (Qg U Sz U (Ql U U (QC h5) (Qn U WC (hk4.cell 0 U U) U (Ql U U (QC h5) (WD Tryz.underlying9 U U (Ql U U (QC h5) (YO U U U (QP U (QC h5) U U (Qb U U (QU 27 U (fun h6=> ?_) (fun h6=> ?_)))))))))))
  ·have hoo:Gv x=false:= by unfold Gv; simp;omega
   exact Qi U U (Xl h6) U (Qi U U (Xl h6) U (Qi U U (Xl h6) U (Q9 U (Xl h6) U U (Qb U U (Qi U U U U (Qi U U U U (Qi U U U U (Q9 U U U U (Qb U U (Qi U U U U (Qi U U U U (Qi U U U U (Q9 U U U U (Qb U U (Qi U U U U (Qi U U U U (Qi U U U U (Q9 U U U U (Qb U U (Qi U U U U (Qi U U U U (Qi U U U U (Q9 U U U U (Qb U U (Qi U U U U (Qi U U U U (Qi U U U U (Q9 U U U U (Qf (Qc (Qh [5,1,0,56] U (Xf U (Qd (Qa (Qe U U (Qf (Qc (Qu (Qz (Qp (Qp (Qz (Qp (QR (.inr U) U U (⟨_,rfl,YH ha hoo,hk4.pick [1] U⟩)))))))))))))))))))))))))))))))))))))))))))))
  refine Ql U U (QC h6) (Qg U Rj U (Ql U U (QC h6) (Qn U QL (hk4.cell 0 U U) U (Ql U U (QC h6) (YO U U U (QP U (QC h6) U U (Qb U U (QU 32 U (fun h7=> ?_) (fun h7=> ?_)))))))))
  ·have hoo:Gv x=false:= by unfold Gv; simp;omega
   exact Qi U U (Xl h7) U (Qi U U (Xl h7) U (Qi U U (Xl h7) U (Q9 U (Xl h7) U U (Qb U U (Qi U U U U (Qi U U U U (Qi U U U U (Q9 U U U U (Qb U U (Qi U U U U (Qi U U U U (Qi U U U U (Q9 U U U U (Qb U U (Qi U U U U (Qi U U U U (Qi U U U U (Q9 U U U U (Qb U U (Qi U U U U (Qi U U U U (Qi U U U U (Q9 U U U U (Qf (Qc (Qh [5,1,0,56] U (Xf U (Qd (Qa (Qe U U (Qf (Qc (Qu (Qz (Qp (Qp (Qz (Qp (QR (.inr U) U U (⟨_,rfl,YH ha hoo,hk4.pick [1] U⟩))))))))))))))))))))))))))))))))))))))))
  refine Ql U U (QC h7) (Qg U Ba U (Ql U U (QC h7) (Qn U QL (hk4.cell 0 U U) U (Ql U U (QC h7) (Xg U U U (QP U (QC h7) U U (Qb U U (QU 37 U (fun h8=> ?_) (fun h8=> ?_)))))))))
  ·have hoo:Gv x=false:= by unfold Gv; simp;omega
   exact Qi U U (Xl h8) U (Qi U U (Xl h8) U (Qi U U (Xl h8) U (Q9 U (Xl h8) U U (Qb U U (Qi U U U U (Qi U U U U (Qi U U U U (Q9 U U U U (Qb U U (Qi U U U U (Qi U U U U (Qi U U U U (Q9 U U U U (Qb U U (Qi U U U U (Qi U U U U (Qi U U U U (Q9 U U U U (Qf (Qc (Qh [5,1,0,56] U (Xf U (Qd (Qa (Qe U U (Qf (Qc (Qu (Qz (Qp (Qp (Qz (Qp (QR (.inr U) U U (⟨_,rfl,YH ha hoo,hk4.pick [1] U⟩)))))))))))))))))))))))))))))))))))
  refine Ql U U (QC h8) (Qg U Ba U (Ql U U (QC h8) (Qn U QL (hk4.cell 0 U U) U (Ql U U (QC h8) (YO U U U (QP U (QC h8) U U (Qb U U (QU 42 U (fun h9=> ?_) (fun h9=> ?_)))))))))
  ·have hoo:Gv x=false:= by unfold Gv; simp;omega
   exact Qi U U (Xl h9) U (Qi U U (Xl h9) U (Qi U U (Xl h9) U (Q9 U (Xl h9) U U (Qb U U (Qi U U U U (Qi U U U U (Qi U U U U (Q9 U U U U (Qb U U (Qi U U U U (Qi U U U U (Qi U U U U (Q9 U U U U (Qf (Qc (Qh [5,1,0,56] U (Xf U (Qd (Qa (Qe U U (Qf (Qc (Qu (Qz (Qp (Qp (Qz (Qp (QR (.inr U) U U (⟨_,rfl,YH ha hoo,hk4.pick [1] U⟩))))))))))))))))))))))))))))))
  refine Ql U U (QC h9) (Qg U HB U (Ql U U (QC h9) (Qn U QL (hk4.cell 0 U U) U (Ql U U (QC h9) (Xg U U U (QP U (QC h9) U U (Qb U U (QU 47 U (fun h10=> ?_) (fun h10=> ?_)))))))))
  ·have hoo:Gv x=false:= by unfold Gv; simp;omega
   exact Qi U U (Xl h10) U (Qi U U (Xl h10) U (Qi U U (Xl h10) U (Q9 U (Xl h10) U U (Qb U U (Qi U U U U (Qi U U U U (Qi U U U U (Q9 U U U U (Qf (Qc (Qh [5,1,0,56] U (Xf U (Qd (Qa (Qe U U (Qf (Qc (Qu (Qz (Qp (Qp (Qz (Qp (QR (.inr U) U U (⟨_,rfl,YH ha hoo,hk4.pick [1] U⟩)))))))))))))))))))))))))
  refine Ql U U (QC h10) (Qg U HB U (Ql U U (QC h10) (Qn U QL (hk4.cell 0 U U) U (Ql U U (QC h10) (YO U U U (QP U (QC h10) U U (Qb U U (QU 52 U (fun h11=> ?_) (fun h11=> ?_)))))))))
  ·have hoo:Gv x=false:= by unfold Gv; simp;omega
   exact Qi U U (Xl h11) U (Qi U U (Xl h11) U (Qi U U (Xl h11) U (Q9 U (Xl h11) U U (Qf (Qc (Qh [5,1,0,56] U (Xf U (Qd (Qa (Qe U U (Qf (Qc (Qu (Qz (Qp (Qp (Qz (Qp (QR (.inr U) U U (⟨_,rfl,YH ha hoo,hk4.pick [1] U⟩))))))))))))))))))))
  refine Ql U U (QC h11) (Qg U Rj U (Ql U U (QC h11) (Qn U QL (hk4.cell 0 U U) U (Ql U U (QC h11) (Xg U U U (QP U (QC h11) U U (Qf (Qc (Qh [5,1,0,56] U (Qs U (fun h12=> ?_) (fun h12=> ?_)))))))))))
  ·have hoo:Gv x=false:= by first | assumption | (unfold Gv; simp;omega)
   exact Qd (Qa (Qe U U (Qf (Qc (Qu (Qz (Qp (Qp (Qz (Qp (QR (.inr U) U U (⟨_,rfl,YH ha hoo,hk4.pick [1] U⟩))))))))))))
  have hoo:Gv x=true:= by unfold Gv; simp;omega
  refine Qt (Qk (Qc (Qa (Qb U U (QI U U (by omega) (by omega) U ?_)))))
  refine Qe U U (Qf ?_)
  exact Q0 (L1:=[(0,_),(1,_),(5,intV ((i+1:Nat):Int))]) (RB U U U) (k1:=l.length -(i+1)) (by omega) ⟨i+1,rfl,rfl,hk4.pick [1] U, by omega, fun j b hj hb=> by by_cases e:j=i;(subst e; rw[ha]at hb; cases hb; exact hoo); exact hok j b (by omega) hb⟩
 exact QM (Qo (Qo (Qx (Qc (Qd (Qa (Qb U U (Xr Tryz.underlying36 U U (Qb U U (Ec U U U (Qe U U (Qf (Qc (Qh [4] U (Qu (QR (.inr U) U U (⟨_,rfl,Og hok hi (by omega),hS1.pick [0] U⟩)))))))))))))))))
end Go.Proofs.YtkcjfoaejijdoaaGreatDoor
namespace Go.Proofs.YtkcjfoaejijdoaaGreatDoor
open Go.RowKit M
variable [Inhabited SlW]
end Go.Proofs.YtkcjfoaejijdoaaGreatDoor
