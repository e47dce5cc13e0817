/- leaves: what is held, plain -/
import Derived.Test.YtkcjfoaejijdoaaGreatDoorLv41
import Derived.Test.YtkcjfoaejijdoaaGreatDoorLv33
import Derived.Test.YtkcjfoaejijdoaaGreatDoorWb
set_option linter.unusedSectionVars false
set_option linter.unusedVariables false
set_option maxRecDepth 100000
set_option maxHeartbeats 1600000
namespace Go.Proofs.YtkcjfoaejijdoaaGreatDoor
open Go.RowKit M
variable [Inhabited SlW]
open Classical in
noncomputable def Nz {κ:Type} (f:κ→Bool) (k:κ):κ→Bool:= fun j=> if j=k then false else f j
theorem Ny {κ:Type} {f:κ→Bool} {k j:κ}:Nz f k j=true↔j≠k∧f j=true:= by
  unfold Nz
  by_cases e:j=k
  · simp [e]
  · simp [e]
theorem boG_del {κ:Type} (f:κ→Bool) (k:κ):upd (ZZ f) k none=ZZ (Nz f k):= by
  funext j
  by_cases h:j=k
  · subst h; rw[Wd];unfold ZZ Nz; simp
  · rw[Jd h];unfold ZZ Nz; simp [h]
theorem Gj {κ:Type} {f:κ→Bool} {k:κ}:ZZ f k≠none↔f k=true:= by
  unfold ZZ
  cases f k<;> simp
theorem BL {p:KD→Int} {k:KD} {v:Value} (h:Zg p k=some v):p k≠0∧v=intV (p k):= by
  unfold Zg at h
  split at h
  · cases h
  · rename_i e; cases h; exact⟨e,rfl⟩
theorem Cu {κ:Type} {f:κ→Bool} {k j:κ}:Wv f k j=true↔j=k∨f j=true:= by
  unfold Wv
  by_cases e:j=k
  · simp [e]
  · simp [e]
def HeldI (L:LvD) (f:Int→Bool) (D:Pl→Prop):Prop:= ∀s,s≠0→(f s=true↔ ∃p,D p∧QJ L p=s)
def HeldL (L:LvD) (hs:List Int):Prop:=(∀s,s∈hs↔s≠0∧ ∃p,QJ L p=s)∧hs.Pairwise (· < ·)
theorem HeldI.nil {L:LvD}:HeldI L (fun _=>false) (fun _=>False):= fun s _=>⟨fun h=>(by cases h), fun ⟨_,h,_⟩=>h.elim⟩
theorem HeldI.add {L:LvD} {f:Int→Bool} {D:Pl→Prop} (h:HeldI L f D) (p:Pl):HeldI L (Wv f (QJ L p)) (fun q=>D q∨q=p):= fun s hs=> by
  rw[Cu,h s hs]
  constructor
  · rintro(e | ⟨q,a,b⟩)
    · exact⟨p,.inr U,e.symm⟩
    · exact⟨q,.inl a,b⟩
  · rintro⟨q,a | a,b⟩
    · exact .inr ⟨q,a,b⟩
    · subst a; exact .inl b.symm
theorem HeldI.congr {L:LvD} {f:Int→Bool} {D D':Pl→Prop} (h:HeldI L f D) (hD: ∀p,QJ L p≠0→(D p↔D' p)):HeldI L f D':= fun s hs=> by
  rw[h s hs]
  constructor
  · rintro⟨p,a,b⟩; exact⟨p,(hD p (by rw[b]; exact hs)).1 a,b⟩
  · rintro⟨p,a,b⟩; exact⟨p,(hD p (by rw[b]; exact hs)).2 a,b⟩
theorem Mf {ks:List Int} (h:ks.Nodup):(XZ ks).Pairwise (· < ·):= by
  have h1:=List.pairwise_mergeSort (le:= fun x y:Int=>decide (x≤y)) (fun a b c h1 h2=> by simp at h1 h2⊢;omega) (fun a b=> by simp;omega) ks
  have h2:(XZ ks).Nodup:=(WT ks).nodup_iff.2 h
  refine(List.Pairwise.and h1 h2).imp fun {a b} hab=> ?_
  have h3:a≤b:= by simpa using hab.1
  have h4:=hab.2
  omega
theorem AR {L:LvD} {f:Int→Bool} {ks:List Int} (h:HeldI L f (fun _=>True)) (hn:ks.Nodup) (hk: ∀s,s∈ks↔ZZ (Nz f 0) s≠none):HeldL L (XZ ks):= by
  refine⟨fun s=> ?_,Mf hn⟩
  rw[(WT ks).mem_iff,hk,Gj,Ny]
  constructor
  · rintro⟨a,b⟩
    obtain⟨p,_,e⟩:=(h s a).1 b
    exact⟨a,p,e⟩
  · rintro⟨a,p,e⟩
    exact⟨a,(h s a).2 ⟨p,trivial,e⟩⟩
section
variable {m c:Nat} {L L1 L2:LvD} {V V1 V2:VS} {x y s:Int} {k:KD} {p:Pl} {D D':Pl→Prop} {i:Int} {t:TrD} {z:LfD} {o:Bool}
theorem Km (h:SzLe L c): ∃lp:List Pl,lp.length≤3*c∧ ∀p,QJ L p≠0→p∈lp:= by
  obtain⟨l,h1,h2,h3⟩:=h
  refine⟨l.flatMap fun q=>[.inl q.2,.inr (q.1,q.2,true),.inr (q.1,q.2,false)], ?_, fun p hp=> ?_⟩
  · have e: ∀l:List (Int×KD),(l.flatMap fun q=>([.inl q.2,.inr (q.1,q.2,true),.inr (q.1,q.2,false)]:List Pl)).length=3*l.length:= fun l=> by
      induction l with
      | nil=>rfl
      | cons a l ih=> rw[List.flatMap_cons,List.length_append,ih]; simp;omega
    rw[e];omega
  · rw[List.mem_flatMap]
    cases p with
    | inl k=> exact⟨(0,k),h2 k hp, by simp⟩
    | inr q=>
      obtain⟨i,k,o⟩:=q
      cases ht:L.tr i with
      | none=> exact absurd (by simp [QJ,ht]) hp
      | some t=>
        cases hx:t.lv k with
        | none=> exact absurd (by simp [QJ,ht,hx]) hp
        | some x=> exact⟨(i,k),h3 i t k x ht hx, by cases o<;> simp⟩
theorem Tg (hI:LvI m L V) (h:SzLe L c) (h0:s≠0):Zc V s≤3*c:= by
  obtain⟨lp,h1,h2⟩:=Km h
  obtain⟨n,⟨l,a,b,e⟩,hr⟩:=hI.ref.1 s h0
  dsimp only at hr
  have :=Zr a fun p hp=>h2 p (by rw[(b p).1 hp]; exact h0)
  omega
theorem Wb (hI:LvI m L V) (s:Int):V s≠none↔s≠0∧ ∃p,QJ L p=s:= by
  constructor
  · intro h
    obtain⟨x,hx⟩:=Option.ne_none_iff_exists'.1 h
    obtain⟨h1,h2,_⟩:=hI.ref.2 s x hx
    refine⟨by omega, ?_⟩
    obtain⟨n,⟨l,a,b,e⟩,hr⟩:=hI.ref.1 s (by omega)
    dsimp only at hr
    rw[Z8 hx]at hr
    cases l with
    | nil=> simp at e;omega
    | cons p l=> exact⟨p,(b p).1 List.mem_cons_self⟩
  · rintro⟨h0,p,rfl⟩
    exact(hI.alive p).resolve_left h0
theorem LQ (hI:LvI m L V) (h:SzLe L c):AliveLe V (3*c):= by
  obtain⟨lp,h1,h2⟩:=Km h
  refine⟨lp.map (QJ L), by simpa using h1, fun j hj=> ?_⟩
  obtain⟨h0,p,rfl⟩:=(Wb hI j).1 hj
  exact List.mem_map_of_mem (h2 p h0)
theorem Rb (h:SzLe L c) {ks:List Int} (hn:ks.Nodup) (hk: ∀s∈ks,s≠0∧ ∃p,QJ L p=s):ks.length≤3*c:= by
  obtain⟨lp,h1,h2⟩:=Km h
  have :=Zr (b:=lp.map (QJ L)) hn fun s hs=> by
    obtain⟨h0,p,rfl⟩:=hk s hs
    exact List.mem_map_of_mem (h2 p h0)
  simp at this
  omega
structure SwR (m c:Nat) (L L1:LvD) (V V1:VS) (x y:Int) (D:Pl→Prop):Prop where
  inv:LvI m L1 V1
  sp:L1.sp=L.sp
  cur:L1.cur=L.cur
  ab:Q1 L1 V1=Q1 L V
  old: ∀p,¬(D p∧QJ L p=x)→QJ L1 p=QJ L p
  new: ∀p,D p→QJ L p=x→QJ L1 p=y
  sz:SzLe L1 c
  pgs:Pgs V V1
theorem SwR.refl (hI:LvI m L V) (hc:SzLe L c):SwR m c L L V V x y (fun _=>False):=⟨hI,rfl,rfl,rfl, fun _ _=>rfl, fun _ h=>h.elim,hc,.refl⟩
theorem SwR.congr (h:SwR m c L L1 V V1 x y D) (hD: ∀p,QJ L p=x→(D p↔D' p)):SwR m c L L1 V V1 x y D':=
  ⟨h.inv,h.sp,h.cur,h.ab, fun p hp=>h.old p fun q=>hp ⟨(hD p q.2).1 q.1,q.2⟩, fun p hd hp=>h.new p ((hD p hp).2 hd) hp,h.sz,h.pgs⟩
theorem SwR.aliveY (h:SwR m c L L1 V V1 x y D) (hI:LvI m L V) (hne:y≠x) (hy:Xq V y):Xq V1 y:= by
  rcases hy with e | e
  · exact .inl e
  · obtain⟨h0,p,hp⟩:=(Wb hI y).1 e
    have :=h.inv.alive p
    rw[h.old p fun q=>hne (hp.symm.trans q.2),hp]at this
    exact this
theorem B2 (hI:LvI m L1 V1) (ha:Xq V1 y) (hp:QJ L1 p=x) (hf: ∀q,QJ L2 q=UA (QJ L1) p y q):RefI (QJ L2) (Zb (refW V1 y) x) (fun _=>0):= by
  have a2:=(hI.ref.ref ha).put p y
  have hx:Xq (refW V1 y) x:= by
    have :=hI.alive p
    rw[hp]at this
    exact this.imp_right Jv.2
  refine((a2.unr hx).fn hf).ext fun j _=> ?_
  show(0:Int)=0+dl y j+dl (QJ L1 p) j -dl y j -dl x j
  rw[hp];omega
theorem PU (hI:LvI m L1 V1) (ha:Xq V1 y) (hp:QJ L1 p=x) (hf: ∀q,QJ L2 q=UA (QJ L1) p y q) (q:Pl):Xq (Zb (refW V1 y) x) (QJ L2 q)∧XH (Zb (refW V1 y) x) (QJ L2 q)=XH V1 (QJ L2 q):= by
  have h1:=(B2 hI ha hp hf).alive (p:=q) U (Int.le_refl 0)
  exact⟨h1, by rw[RV (hI.ref.ref ha).zero h1,JR]⟩
theorem Cn (hI:LvI m L1 V1) (ha:Xq V1 y):Pgs V1 (Zb (refW V1 y) x):=Pgs.ref.trans (Pgs.unr (hI.ref.ref ha).zero)
theorem SwR.setP (h:SwR m c L L1 V V1 x y D) (hk:L1.pres k=x) (hL:L.pres k=x) (hx0:x≠0) (ha:Xq V1 y) (hpg:XH V1 y=XH V1 x) (f:Int→Bool):
    SwR m c L {L1 with pres:=Zv L1.pres k y,sh:=f} V (Zb (refW V1 y) (L1.pres k)) x y (fun p=>D p∨p= .inl k):= by
  generalize hL2:({L1 with pres:=Zv L1.pres k y,sh:=f}:LvD)=L2
  have hP:L2.pres=Zv L1.pres k y:= by subst hL2;rfl
  have hT:L2.tr=L1.tr:= by subst hL2;rfl
  have hf:=Gb (L:=L1) hP hT
  rw[hk]
  have hR:=B2 (p:= .inl k) h.inv ha hk hf
  have hG:=PU (p:= .inl k) h.inv ha hk hf
  have hab:Q1 L2 (Zb (refW V1 y) x)=Q1 L1 V1:= by
    rw[VM (V:=V1) hP hT fun q hq=> by have :=(hG q).2;rwa [hf q,XM hq]at this]
    have e1:XH (Zb (refW V1 y) x) y=(Q1 L1 V1).pres k:= by
      have :=(hG (.inl k)).2
      rw[hf,X4]at this
      rw[this,hpg,←hk];rfl
    rw[e1,Yf U]
  refine⟨⟨hR, by rw[hT]; exact h.inv.rank, by rw[hab]; exact h.inv.agree⟩, by subst hL2; exact h.sp, by subst hL2; exact h.cur,hab.trans h.ab, fun q hq=> ?_, fun q hd hq=> ?_, ?_,h.pgs.trans (Cn h.inv ha)⟩
  · rw[hf]
    by_cases e:q= .inl k
    · subst e; exact absurd ⟨.inr U,hL⟩ hq
    · rw[XM e]; exact h.old q fun r=>hq ⟨.inl r.1,r.2⟩
  · rw[hf]
    by_cases e:q= .inl k
    · rw[e,X4]
    · rw[XM e]; exact h.new q (hd.resolve_right e) hq
  · obtain⟨l,a,b,d⟩:=h.sz
    refine⟨l,a, fun q hq=> ?_, fun j u q w hj hq=>d j u q w (by rw[hT]at hj; exact hj) hq⟩
    rw[hP]at hq
    by_cases e:q=k
    · subst e; exact b q (by rw[hk]; exact hx0)
    · simp only[Zv,if_neg e]at hq; exact b q hq
theorem SwR.setL (h:SwR m c L L1 V V1 x y D) (ht:L1.tr i=some t) (hz:t.lv k=some z) (hv:(if o=true then z.own else z.base)=x) (hL:QJ L (.inr (i,k,o))=x) (ha:Xq V1 y) (hpg:XH V1 y=XH V1 x) {z':LfD} (hz':z'= if o=true then{z with own:=y}else{z with base:=y}) (f:Int→Bool):
    SwR m c L {L1 with tr:=Xi L1.tr i (some {t with lv:=Xi t.lv k (some z')}),sh:=f} V (Zb (refW V1 y) x) x y (fun p=>D p∨p= .inr (i,k,o)):= by
  generalize hL2:({L1 with tr:=Xi L1.tr i (some {t with lv:=Xi t.lv k (some z')}),sh:=f}:LvD)=L2
  have hP:L2.pres=L1.pres:= by subst hL2;rfl
  have hT:L2.tr=Xi L1.tr i (some {t with lv:=Xi t.lv k (some z')}):= by subst hL2;rfl
  have hk:QJ L1 (.inr (i,k,o))=x:=(Xj ht hz).trans hv
  have hf: ∀q,QJ L2 q=UA (QJ L1) (.inr (i,k,o)) y q:= fun q=> by
    rw[Y0 (x:=z') hP hT ht U]
    cases o with
    | true=>
      rw[show z'={z with own:=y} from hz']
      dsimp only
      rw[Yf (f:=QJ L1) (v:=z.base) (by rw[Xj ht hz];rfl)]
    | false=>
      rw[show z'={z with base:=y} from hz']
      dsimp only
      by_cases e:q= .inr (i,k,true)
      · subst e
        rw[X4,XM (by simp),Xj ht hz];rfl
      · rw[XM e]
  have hR:=B2 h.inv ha hk hf
  have hG:=PU h.inv ha hk hf
  have hab:Q1 L2 (Zb (refW V1 y) x)=Q1 L1 V1:= by
    have h3: ∀q,q≠ .inr (i,k,o)→XH (Zb (refW V1 y) x) (QJ L1 q)=XH V1 (QJ L1 q):= fun q hq=> by
      have :=(hG q).2
      rwa [hf q,XM hq]at this
    rw[Yb (V:=V1) (x:=z') hP hT ht U fun q q1 q2=>h3 q (by cases o; exact q1; exact q2)]
    have h4:XH (Zb (refW V1 y) x) y=XH V1 x:= by
      have :=(hG (.inr (i,k,o))).2
      rw[hf,X4]at this
      rw[this,hpg]
    refine RT (Zk ht) ?_
    rw[ZC hz]
    congr 1
    cases o with
    | true=>
      rw[show z'={z with own:=y} from hz']
      have h5:=h3 (.inr (i,k,false)) (by simp)
      rw[Xj ht hz]at h5
      have h5:XH (Zb (refW V1 y) x) z.base=XH V1 z.base:=h5
      have hv:z.own=x:=hv
      simp only[Wl,h4,h5,hv]
    | false=>
      rw[show z'={z with base:=y} from hz']
      have h5:=h3 (.inr (i,k,true)) (by simp)
      rw[Xj ht hz]at h5
      have h5:XH (Zb (refW V1 y) x) z.own=XH V1 z.own:=h5
      have hv:z.base=x:=hv
      simp only[Wl,h4,h5,hv]
  refine⟨⟨hR, by rw[hT]; exact h.inv.rank.same (WA (t':={t with lv:=Xi t.lv k (some z')}) ht U), by rw[hab]; exact h.inv.agree⟩, by subst hL2; exact h.sp, by subst hL2; exact h.cur,hab.trans h.ab, fun q hq=> ?_, fun q hd hq=> ?_, ?_,h.pgs.trans (Cn h.inv ha)⟩
  · rw[hf]
    by_cases e:q= .inr (i,k,o)
    · subst e; exact absurd ⟨.inr U,hL⟩ hq
    · rw[XM e]; exact h.old q fun r=>hq ⟨.inl r.1,r.2⟩
  · rw[hf]
    by_cases e:q= .inr (i,k,o)
    · rw[e,X4]
    · rw[XM e]; exact h.new q (hd.resolve_right e) hq
  · exact h.sz.putOld ht hz hP hT
theorem SwR.skip (h:SwR m c L L1 V V1 x y D) (hp:QJ L p≠x):SwR m c L L1 V V1 x y (fun q=>D q∨q=p):=
  h.congr fun q hq=>⟨.inl, fun r=>r.resolve_right fun e=>hp (by rw[←e]; exact hq)⟩
theorem Mp (hI:LvI m L1 V1) (hx:V1 x≠none) (hne:y≠x):Zc (Zb (refW V1 y) x) x=Zc V1 x -1:= by
  obtain⟨z,hz⟩:=Option.ne_none_iff_exists'.1 hx
  obtain⟨h1,_,_⟩:=hI.ref.2 x z hz
  have e1:refW V1 y x=some z:= by
    unfold refW
    split
    · exact hz
    · unfold Ha
      cases V1 y with
      | none=> exact hz
      | some w=> exact(Q7 fun e=>hne e.symm).trans hz
  rw[Yw e1,Z8 hz]
  split
  · rw[Z8 Qy]
  · rw[Yz Qy];omega
theorem SwR.all (h:SwR m c L L1 V V1 x y (fun _=>True)) (hne:y≠x) (hI:LvI m L V):(∀p,QJ L1 p≠x)∧ ∀s,(V1 s≠none↔V s≠none∧s≠x)∨s=y:= by
  have h1: ∀p,QJ L1 p≠x:= fun p e=> by
    by_cases q:QJ L p=x
    · exact hne ((h.new p trivial q).symm.trans e)
    · exact q ((h.old p fun r=>q r.2).symm.trans e)
  refine⟨h1, fun s=> ?_⟩
  by_cases es:s=y
  · exact .inr es
  · refine .inl ?_
    rw[Wb h.inv,Wb hI]
    constructor
    · rintro⟨h0,p,hp⟩
      have hq:QJ L p≠x:= fun q=>es (hp.symm.trans (h.new p trivial q))
      rw[h.old p fun r=>hq r.2]at hp
      exact⟨⟨h0,p,hp⟩, fun e=>hq (hp.trans e)⟩
    · rintro⟨⟨h0,p,hp⟩,hx⟩
      exact⟨h0,p,(h.old p fun r=>hx (hp.symm.trans r.2)).trans hp⟩
end
end Go.Proofs.YtkcjfoaejijdoaaGreatDoor
namespace Go.Proofs.YtkcjfoaejijdoaaGreatDoor
open Go.RowKit M
variable [Inhabited SlW]
theorem AU {w:World} {a q cs sm:Nat} {val:Int} {xs:List Value} {f:Int→Bool} {F:Th} (hS:Sat w [Q3 a xs,Q3 cs [.map (some sm)],Q5 QO sm (ZZ f),F]) (hv:xs[q]? =some (intV val)):
    Calls Tryz.prog 132 #[ptrV a q,ptrV cs 0] w (Ret fun v w'=>Sat w' [Q3 a xs,Q3 cs [.map (some sm)],Q5 QO sm (ZZ (Wv f val)),F]):= by
 refine Qm Tryz.func132 U Tryz.ntmps132 U ?_
 have hS1:=hS.drew
 refine QF [0,1,2,3,4] [4] We (by kernel_rfl) ?_
 refine Q4 U U U (Qr U D0 (hS1.cell 1 U U)) (QG U U U (Xh U U U (Q4 U U U (Qr U QL (hS1.cell 0 U hv)) (Xn U U U U U U ?_))))
 refine Xw (k:=val) (v:= .bool true) 2 hS1 keysInt Tryz.underlying83 U U U U ?_
 intro w2 hS2; dsimp only[List.set]at hS2; rw[VI]at hS2
 clear hS1
 refine Z4 (X1 (by kernel_rfl)) ?_
 exact VC.nil (ZD (.inl U) U (⟨_,rfl,hS2.pick [0,1,2,3] U⟩))
def QH (b:Nat) (L:LvD) (cs sm:Nat) (f:Int→Bool):Th:=starL [Q3 b [ptrV L.sp 0,.map (some L.mp),.map (some L.mt),intV L.cur,.map (some L.ms)],Q3 cs [.map (some sm)],Q5 QO sm (ZZ f)]
def JH (L:LvD) (f:Int→Bool) (T:Int→Option TrD) (dn:Int×KD×Bool→Prop):Prop:=T=L.tr∧HeldI L f (fun p=> match p with | .inl _=>True | .inr q=>dn q)
theorem AS {L:LvD} {f:Int→Bool} {dn:Int×KD×Bool→Prop} (h:HeldI L f (fun p=> match p with | .inl _=>True | .inr q=>dn q)) (hcov: ∀i t k x,L.tr i=some t→t.lv k=some x→ ∀o,dn (i,k,o)):HeldI L f (fun _=>True):=h.congr fun p hp=> by
  cases p with
  | inl k=> exact⟨fun _=>trivial, fun _=>trivial⟩
  | inr q=>
    obtain⟨i,k,o⟩:=q
    refine⟨fun _=>trivial, fun _=> ?_⟩
    cases ht:L.tr i with
    | none=> exact absurd (by simp [QJ,ht]) hp
    | some t=>
      cases hx:t.lv k with
      | none=> exact absurd (by simp [QJ,ht,hx]) hp
      | some x=> exact hcov i t k x ht hx o
theorem lfV_at {x:LfD} {o:Bool} {q:Nat} (hq:q=(bif o then 1 else 0)):(lfV x)[q]? =some (intV (if o=true then x.own else x.base)):= by
  subst hq; cases o<;>rfl
theorem EV {b:Nat} {L:LvD} {cs sm:Nat}:PlA 132 cs b L.mt (QH b L cs sm) (JH L) where
  ok:=cal_132
  cell:= fun i h hi=> by
    have h1:=(h.pull i hi).flat
    exact h1.cell 0 U U
  step:= by
    intro s T dn i t k x a o q hq hJ ht hx hnd ha w X hS
    have h1:=(hS.perm (List.Perm.swap _ _ _)).flat; dsimp only[R8,R7]at h1
    have h2:=h1.sp [3,1,2] U
    refine(AU h2 (lfV_at hq)).mono fun e w h=>h.mono fun v w h=> ?_
    obtain⟨rfl,hJ2⟩:=hJ
    have h3:=(h.join U).reorder [3,1,2,0,4] U
    have h4:=Sat.fold (As:=[Q3 b [ptrV L.sp 0,.map (some L.mp),.map (some L.mt),intV L.cur,.map (some L.ms)],Q3 cs [.map (some sm)],Q5 QO sm (ZZ (Wv s _))]) h3
    refine⟨Wv s _,x,ha,⟨?_, ?_⟩,h4.perm (List.Perm.swap _ _ _)⟩
    · rw[show Xi t.lv k (some x)=t.lv from WE hx]
      exact WE ht
    · have h5:=hJ2.add (.inr (i,k,o))
      rw[Xj ht hx]at h5
      refine h5.congr fun p _=> ?_
      cases p with
      | inl j=> simp
      | inr z=> simp
theorem itKB (c b:Nat) (g:Int→Option Value):ItI g 136 [ptrV c 0] (starL [Q3 c [.map (some b)],Q5 QO b g]):= fun l J X w hS hY=> by
  have h1:=(hS.perm (List.Perm.swap _ _ _)).flat; dsimp only[R8,R7]at h1
  refine(kb_it (h1.reorder [2,0,1,3] U) hY).mono fun e w' h=>h.mono fun v w' ⟨ks,h2,h3⟩=>⟨ks,h2, ?_⟩
  exact(Sat.fold (As:=[Q3 c [.map (some b)],Q5 QO b g]) (h3.reorder [1,2,0,3] U)).perm (List.Perm.swap _ _ _)
theorem held_sp {w:World} {b c:Nat} {L:LvD} {F:Th} (hS:Sat w [XY b L,F]) (hc:SzLe L c) (hcc:c≤100000):
    Calls Tryz.prog 83 #[ptrV b 0] w (Ret fun v w'=> ∃hs,HeldL L hs∧Sat w' [rowT inC v hs,XY b L,F]):= by
 replace hS:=Xy hS
 refine Qm Tryz.func83 U Tryz.ntmps83 U ?_
 refine Qd (Qa (Qe U U (Qf (Qc (Qd (Qa (ZN QO hS U ?_)))))))
 intro sm w1 hS1; rw[←TS]at hS1
 refine QX hS1 zr_83 U U ?_
 intro cs w2 hS2
 clear hS1
 (refine Q6 hS2 U U sz_83 (by rfl) (i:=0) U (by decide) ?_)
 intro w3 hS4; dsimp only[List.set]at hS4
 clear hS2
 refine Qf (Qc (Qd (Qd (Qa (Qb U U (Qj U U (Qg U JU U (Qn U Up (hS4.cell 2 U U) U (Wm 3 hS4 Tryz.underlying81 U U U ?_)))))))))
 intro RR leftZ wRRR hSRRR; dsimp only[List.set]at hSRRR
 clear hS4
 refine Qf (Qc (Qv (Xb (fun K0 E0 W0=> ∃(dn:KD→Prop) (cur:Option KD) (left:Nat) (f:Int→Bool),K0=left∧E0=[(0,ptrV b 0),(3,ptrV cs 0),(11,ptrV RR 0)]∧Sat W0 [Wq Xo L.mp RR (Zg L.pres) dn cur left,Q5 QO sm (ZZ f),Q3 cs [.map (some sm)],Q3 b [ptrV L.sp 0,.map (some L.mp),.map (some L.mt),intV L.cur,.map (some L.ms)],Q5 QO L.mt (Xv TrD.ad L.tr),Zj HK L.tr,Q5 QO L.ms (ZZ L.sh),F]∧(HeldI L f (fun p=> ∃k,p= .inl k∧dn k))) (L0:=[(0,_),(3,_),(11,_)]) (leftZ) (RB U U U) ⟨_,_,_, fun _=>false,rfl,rfl,hSRRR.pick [3,1,0,2,4,5,6,7] U,HeldI.nil.congr fun p _=>⟨fun h=>h.elim, fun ⟨_,_,h⟩=>h.elim⟩⟩ ?_)))
 rintro _ _ w5 ⟨dn,cur,left,f,rfl,rfl,hS5,hf⟩
 refine Qd (Qa (WP 0 hS5 keysKey.inj U U U (fun hdoneA=> ?_) (fun k vA leftA wNA hleftA hgkA hndA hSNA=> ?_)))
 ·refine Qq U U U (Qf (Qc (Qd (QT U (QM (Qo (Qo (Qx (Qc (Qd (Qa (Qb U U (Zx U U ?_)))))))))))))
  have hz:=ZQ (hS5.pick [0,1,2,3,4,5,6,7] U)
  have hQ:=Sat.fold (As:=[Q3 b [ptrV L.sp 0,.map (some L.mp),.map (some L.mt),intV L.cur,.map (some L.ms)],Q3 cs [.map (some sm)],Q5 QO sm (ZZ f)]) (hz.pick [3,2,1,0,4,5,6,7] U)
  have hC6:=hQ.sp [2,3,0] U
  refine Qw SQ U (Pf (EV (b:=b) (L:=L) (cs:=cs) (sm:=sm)) (Q:=QH b L cs sm) (J:=JH L) (s0:=f) hC6 ⟨rfl,hf.congr fun p hp=> by cases p with | inl k=> exact⟨fun _=>trivial, fun _=>⟨k,rfl,hdoneA k _ (show Zg L.pres k=some (intV (L.pres k)) by unfold Zg; exact if_neg hp)⟩⟩ | inr q=> exact⟨fun ⟨_,e,_⟩=>(by cases e), fun h=>h.elim⟩⟩) U ?_
  rintro _ w6 ⟨f2,T2,dn2,⟨rfl,hf2⟩,hcov,_,hS6⟩
  replace hS6:=hS6.jn U U; clear hC6
  clear hQ
  have hz3:=(hS6.pick [2,0,1,3,4,5] U).flat; dsimp only[R8,R7]at hz3
  have hf3:=AS hf2 hcov
  refine Qf (Qc (Qd (Qa (Qn U D0 (by first | assumption | exact hz3.cell 0 U U | exact hz3.cell 1 U U) U ?_))))
  refine Yv (k:=0) 2 hz3 keysInt Tryz.underlying83 U U U U ?_
  intro w7 hS7; dsimp only[List.set]at hS7; rw[boG_del]at hS7
  clear hz3
  refine Qf (Qc (Qd (Qa (Qn U D0 (by first | assumption | exact hS7.cell 0 U U | exact hS7.cell 1 U U) U ?_))))
  refine Qw PE U (AM (hS7.sp [] U) U) U ?_
  rintro _ w8 ⟨ck,rfl,hS8⟩
  replace hS8:=hS8.jn U U
  clear hS7
  have hK:=Sat.fold (As:=[Q3 ck [.map (some sm)],Q5 QO sm (ZZ (Nz f2 0))]) (hS8.pick [0,3,1,2,4,5,6,7,8] U)
  have hC9:=hK.sp [0] U
  refine Qw Dv rfl (Hu hC9 TR (itKB ck sm (ZZ (Nz f2 0))) (fun ks hq=>Nat.le_trans (Rb hc hq.nodup fun s hs=> by have h8:=hq.has s hs; rw[Gj,Ny]at h8; obtain⟨p,_,e⟩:=(hf3 s h8.1).1 h8.2; exact⟨h8.1,p,e⟩) (by omega))) rfl ?_
  rintro _ w9 ⟨ks,hks,hS9⟩
  replace hS9:=hS9.jn U U; clear hC9
  clear hK
  exact Qe U U (Qf (Qc (Qh [2] U (Qu (QR (.inr U) U U (⟨_,rfl,XZ ks,AR hf3 hks.nodup hks.mem,(QZ (hS9.pick [2,6,4,5,7,0,8] U)).perm (List.Perm.swap _ _ _)⟩))))))
 dsimp only[List.set]at hSNA
 obtain⟨hpk,rfl⟩:=BL hgkA
 refine Qq U U U (Qf (Qc (Qd (Xf U (Qt (Qc (Qv (Qd (Qa (Wn 0 hSNA U hgkA U U (Qq U U U (Qe U U (Qf (Qc (Qa (Qn U D0 (by first | assumption | exact hSNA.cell 2 U U | exact hSNA.cell 3 U U) U ?_))))))))))))))))
 refine Qb U U (Xw (k:=(L.pres k)) (v:= .bool true) 1 hSNA keysInt Tryz.underlying83 U U U U ?_)
 intro w10 hS10; dsimp only[List.set]at hS10; rw[VI]at hS10
 clear hSNA
 refine Qf (Qk ?_)
 have hp2:=BL hgkA
 exact Q0 (L1:=[(0,_),(3,_),(11,_)]) (RB U U U) (k1:=leftA) (by omega) ⟨_,_,_,_,rfl,rfl,hS10.pick [0,1,2,3,4,5,6,7] U,(hf.add (.inl k)).congr fun p _=> by
 constructor
 ·rintro(⟨j,a,b⟩ | e)
  ·exact⟨j,a,.inl b⟩
  ·exact⟨k,e,.inr U⟩
 ·rintro⟨j,a,b | b⟩
  ·exact .inl ⟨j,a,b⟩
  ·exact .inr (by rw[a,b])⟩
end Go.Proofs.YtkcjfoaejijdoaaGreatDoor
namespace Go.Proofs.YtkcjfoaejijdoaaGreatDoor
open Go.RowKit M
variable [Inhabited SlW]
theorem hold0_p {w:World} {b sp mp mt ms n Fr:Nat} {a:Nat} {v0 v2 v3:Value} {cu old:Int} {f:Int→Bool} {V:VS} {F:Th} (hS:Sat w [Q3 b [ptrV sp 0,.map (some mp),.map (some mt),intV cu,.map (some ms)],Q5 QO ms (ZZ f),XG sp n Fr V,Q3 a [intV old,v0,v2,v3],F]) (hn:n≤70000000000) (s:Int):
    Calls Tryz.prog 73 #[ptrV b 0,ptrV a 0,intV s] w (Ret fun v w'=>v= .tuple #[]∧Sat w' [Q3 b [ptrV sp 0,.map (some mp),.map (some mt),intV cu,.map (some ms)],Q5 QO ms (ZZ (Jq (refW V s) (J1 f s) old)),XG sp (n+2) Fr (Zb (refW V s) old),Q3 a [intV s,v0,v2,v3],F]):= by
 refine Qm Tryz.func73 U Tryz.ntmps73 U ?_
 refine Qd (Qa (Qb U U (Qb U U (Qw K5 U (BJ (hS.sp [0,1,2] U) (by omega) s) U ?_))))
 rintro _ w1 ⟨rfl,hS1⟩
 replace hS1:=hS1.jn U U
 refine Qf (Qc (Qd (Qa (Qb U U (Qb U U (Qj U U (Qn U QL (by first | assumption | exact hS1.cell 0 U U | exact hS1.cell 3 U U) U ?_)))))))
 refine Qw HF U (H5 (hS1.sp [0,1,2] U) (by omega) old) U ?_
 rintro _ w2 ⟨rfl,hS2⟩
 replace hS2:=hS2.jn U U
 clear hS1
 refine Qf (Qc (Qh [2,1] U (Qa (Qb U U (Qb U U (Qj U U ?_))))))
 first | (refine Q6 hS2 U U JG (by first | rfl | assumption) (i:=0) U (by first | decide | exact Xa U | (simp;done) | omega) ?_) | (refine Q6 hS2 U U JG (by first | rfl | assumption) (i:=3) U (by first | decide | exact Xa U | (simp;done) | omega) ?_)
 intro w3 hS4; dsimp only[List.set]at hS4
 clear hS2
 exact Qf (ZD (.inl U) U (⟨_,rfl,rfl,hS4.pick [0,1,2,3,4] U⟩))
theorem F7 {w:World} {b sp mp mt ms n Fr a cx cl cy:Nat} {v0 v2 v3:Value} {cu old x y:Int} {f:Int→Bool} {V:VS} {F:Th} (hS:Sat w [Q3 a [intV old,v0,v2,v3],Q3 b [ptrV sp 0,.map (some mp),.map (some mt),intV cu,.map (some ms)],Q5 QO ms (ZZ f),XG sp n Fr V,Q3 cx [intV x],Q3 cl [ptrV b 0],Q3 cy [intV y],F]) (hn:n≤70000000000) (hne:old≠x):
    Calls Tryz.prog 135 #[ptrV a 0,ptrV cx 0,ptrV cl 0,ptrV cy 0] w (Ret fun v w'=>Sat w' [Q3 a [intV old,v0,v2,v3],Q3 b [ptrV sp 0,.map (some mp),.map (some mt),intV cu,.map (some ms)],Q5 QO ms (ZZ f),XG sp n Fr V,Q3 cx [intV x],Q3 cl [ptrV b 0],Q3 cy [intV y],F]):= by
 refine Qm Tryz.func135 U Tryz.ntmps135 U ?_
 refine Qd ?_
 have hS1:=hS.drew
 refine QF [0,1,2,3,4] [] We (by kernel_rfl) ?_
 refine QG U U U (Xh U U U (Q4 U U U (Qr U QL (hS1.cell 0 U U)) (Q4 U U U (Qr U QL (hS1.cell 4 U U)) (X8 U U U (fun _=>(U5 U U)) ?_))))
 refine VC.nil (Qc (Qs U (fun h2=> ?_) (fun h2=> ?_)))
 ·exact absurd h2 hne
 exact Qt (ZD (.inl U) U (⟨_,rfl,hS1.pick [0,1,2,3,4,5,6,7] U⟩))
theorem F5 {w:World} {b sp mp mt ms n Fr a cx cl cy:Nat} {v0 v2 v3:Value} {cu old x y:Int} {f:Int→Bool} {V:VS} {F:Th} (hS:Sat w [Q3 a [intV old,v0,v2,v3],Q3 b [ptrV sp 0,.map (some mp),.map (some mt),intV cu,.map (some ms)],Q5 QO ms (ZZ f),XG sp n Fr V,Q3 cx [intV x],Q3 cl [ptrV b 0],Q3 cy [intV y],F]) (hn:n≤70000000000) (he:old=x):
    Calls Tryz.prog 135 #[ptrV a 0,ptrV cx 0,ptrV cl 0,ptrV cy 0] w (Ret fun v w'=>Sat w' [Q3 a [intV y,v0,v2,v3],Q3 b [ptrV sp 0,.map (some mp),.map (some mt),intV cu,.map (some ms)],Q5 QO ms (ZZ (Jq (refW V y) (J1 f y) x)),XG sp (n+2) Fr (Zb (refW V y) x),Q3 cx [intV x],Q3 cl [ptrV b 0],Q3 cy [intV y],F]):= by
 refine Qm Tryz.func135 U Tryz.ntmps135 U ?_
 refine Qd ?_
 have hS1:=hS.drew
 refine QF [0,1,2,3,4] [] We (by kernel_rfl) ?_
 refine QG U U U (Xh U U U (Q4 U U U (Qr U QL (hS1.cell 0 U U)) (Q4 U U U (Qr U QL (hS1.cell 4 U U)) (X8 U U U (fun _=>(U5 U U)) ?_))))
 refine VC.nil (Qc (Qs U (fun h2=> ?_) (fun h2=> ?_)))
 ·refine Qa (Qn U HI (hS1.cell 5 U U) U (Qb U U (Qn U QL (hS1.cell 6 U U) U (Qw TF U (hold0_p (hS1.sp [1,2,3,0] U) (by omega) y) U ?_))))
  rintro _ w3 ⟨rfl,hS3⟩
  replace hS3:=hS3.jn U U
  clear hS1
  refine Qf (ZD (.inl U) U ?_)
  subst he; exact⟨_,rfl,hS3.pick [3,0,1,2,4,5,6,7] U⟩
 exact absurd he h2
theorem F6 {w:World} {b sp mp mt ms n Fr a cx cl cy:Nat} {v0 v2 v3:Value} {cu old x y:Int} {f:Int→Bool} {V:VS} {F:Th} (hS:Sat w [Q3 a [v0,intV old,v2,v3],Q3 b [ptrV sp 0,.map (some mp),.map (some mt),intV cu,.map (some ms)],Q5 QO ms (ZZ f),XG sp n Fr V,Q3 cx [intV x],Q3 cl [ptrV b 0],Q3 cy [intV y],F]) (hn:n≤70000000000) (hne:old≠x):
    Calls Tryz.prog 135 #[ptrV a 1,ptrV cx 0,ptrV cl 0,ptrV cy 0] w (Ret fun v w'=>Sat w' [Q3 a [v0,intV old,v2,v3],Q3 b [ptrV sp 0,.map (some mp),.map (some mt),intV cu,.map (some ms)],Q5 QO ms (ZZ f),XG sp n Fr V,Q3 cx [intV x],Q3 cl [ptrV b 0],Q3 cy [intV y],F]):= by
 refine Qm Tryz.func135 U Tryz.ntmps135 U ?_
 refine Qd ?_
 have hS1:=hS.drew
 refine QF [0,1,2,3,4] [] We (by kernel_rfl) ?_
 refine QG U U U (Xh U U U (Q4 U U U (Qr U QL (hS1.cell 0 U U)) (Q4 U U U (Qr U QL (hS1.cell 4 U U)) (X8 U U U (fun _=>(U5 U U)) ?_))))
 refine VC.nil (Qc (Qs U (fun h2=> ?_) (fun h2=> ?_)))
 ·exact absurd h2 hne
 exact Qt (ZD (.inl U) U (⟨_,rfl,hS1.pick [0,1,2,3,4,5,6,7] U⟩))
theorem F4 {w:World} {b sp mp mt ms n Fr a cx cl cy:Nat} {v0 v2 v3:Value} {cu old x y:Int} {f:Int→Bool} {V:VS} {F:Th} (hS:Sat w [Q3 a [v0,intV old,v2,v3],Q3 b [ptrV sp 0,.map (some mp),.map (some mt),intV cu,.map (some ms)],Q5 QO ms (ZZ f),XG sp n Fr V,Q3 cx [intV x],Q3 cl [ptrV b 0],Q3 cy [intV y],F]) (hn:n≤70000000000) (he:old=x):
    Calls Tryz.prog 135 #[ptrV a 1,ptrV cx 0,ptrV cl 0,ptrV cy 0] w (Ret fun v w'=>Sat w' [Q3 a [v0,intV y,v2,v3],Q3 b [ptrV sp 0,.map (some mp),.map (some mt),intV cu,.map (some ms)],Q5 QO ms (ZZ (Jq (refW V y) (J1 f y) x)),XG sp (n+2) Fr (Zb (refW V y) x),Q3 cx [intV x],Q3 cl [ptrV b 0],Q3 cy [intV y],F]):= by
 refine Qm Tryz.func135 U Tryz.ntmps135 U ?_
 refine Qd ?_
 have hS1:=hS.drew
 refine QF [0,1,2,3,4] [] We (by kernel_rfl) ?_
 refine QG U U U (Xh U U U (Q4 U U U (Qr U QL (hS1.cell 0 U U)) (Q4 U U U (Qr U QL (hS1.cell 4 U U)) (X8 U U U (fun _=>(U5 U U)) ?_))))
 refine VC.nil (Qc (Qs U (fun h2=> ?_) (fun h2=> ?_)))
 ·refine Qa (Qn U HI (hS1.cell 5 U U) U (Qb U U (Qn U QL (hS1.cell 6 U U) U (Qw TF U (Po (hS1.sp [1,2,3,0] U) (by omega) y) U ?_))))
  rintro _ w3 ⟨rfl,hS3⟩
  replace hS3:=hS3.jn U U
  clear hS1
  refine Qf (ZD (.inl U) U ?_)
  subst he; exact⟨_,rfl,hS3.pick [3,0,1,2,4,5,6,7] U⟩
 exact absurd he h2
structure SwS where
  f:Int→Bool
  V:VS
  q:Nat
def QS (b:Nat) (L:LvD) (n Fr:Nat) (cx cl cy:Nat) (x y:Int) (s:SwS):Th:=starL [Q3 b [ptrV L.sp 0,.map (some L.mp),.map (some L.mt),intV L.cur,.map (some L.ms)],Q5 QO L.ms (ZZ s.f),XG L.sp (n+2*s.q) Fr s.V,Q3 cx [intV x],Q3 cl [ptrV b 0],Q3 cy [intV y]]
def JSw (m c:Nat) (L:LvD) (V:VS) (pr:KD→Int) (x y:Int) (s:SwS) (T:Int→Option TrD) (dn:Int×KD×Bool→Prop):Prop:=
  SwR m c L {L with pres:=pr,tr:=T,sh:=s.f} V s.V x y (fun p=> match p with | .inl _=>True | .inr z=>dn z)∧(s.q:Int)+Zc s.V x=Zc V x
theorem BI {m:Nat} {L:LvD} {V:VS} {x:Int} (hI:LvI m L V):0≤Zc V x:= by
  cases h:V x with
  | none=> rw[Yz h];omega
  | some z=> rw[Z8 h]; have :=(hI.ref.2 x z h).1;omega
theorem JSw.bound {m c:Nat} {L:LvD} {V:VS} {pr:KD→Int} {x y:Int} {s:SwS} {T:Int→Option TrD} {dn:Int×KD×Bool→Prop} (h:JSw m c L V pr x y s T dn) (hI:LvI m L V) (hc:SzLe L c) (hx0:x≠0):s.q≤3*c:= by
  have h1:=Tg hI hc hx0
  have h2:=BI (x:=x) h.1.inv
  have h3:=h.2
  omega
theorem EU {m c b n Fr cx cl cy:Nat} {L:LvD} {V:VS} {pr:KD→Int} {x y:Int} (hI:LvI m L V) (hc:SzLe L c) (hn:n+6*c≤60000000000) (hne:y≠x) (hx0:x≠0) (hya:Xq V y) (hpg:XH V y=XH V x):PlB 135 cx cl cy b L.mt (QS b L n Fr cx cl cy x y) (JSw m c L V pr x y) where
  ok:=cal_135
  cell:= fun i h hi=> by
    have h1:=(h.pull i hi).flat
    exact h1.cell 0 U U
  step:= by
    intro s T dn i t k z a o q hq hJ ht hx hnd ha w X hS
    have hb:=hJ.bound hI hc hx0
    obtain⟨hJ1,hJ2⟩:=hJ
    have hLold:QJ L (.inr (i,k,o))= if o=true then z.own else z.base:= by
      rw[←hJ1.old (.inr (i,k,o)) fun r=>hnd r.1]
      exact Xj ht hx
    have h1:=(hS.perm (List.Perm.swap _ _ _)).flat; dsimp only[R8,R7]at h1
    have h2:=h1.reorder [6,0,1,2,3,4,5,7] U
    by_cases hv:(if o=true then z.own else z.base)=x
    · have hax:Xq s.V x:= by
        have :=hJ1.inv.alive (.inr (i,k,o))
        rw[Xj ht hx,hv]at this
        exact this
      have hay:Xq s.V y:=hJ1.aliveY hI hne hya
      have hp2:XH s.V y=XH s.V x:= by rw[(hJ1.pgs y hay).2,(hJ1.pgs x hax).2,hpg]
      have hR:=hJ1.setL (o:=o) ht hx hv (hLold.trans hv) hay hp2 (z':= if o=true then{z with own:=y}else{z with base:=y}) U (Jq (refW s.V y) (J1 s.f y) x)
      have hcnt:=Mp hJ1.inv (hax.resolve_left hx0) hne
      have hfin:JSw m c L V pr x y ⟨Jq (refW s.V y) (J1 s.f y) x,Zb (refW s.V y) x,s.q+1⟩ (Xi T i (some {t with lv:=Xi t.lv k (some (if o=true then{z with own:=y}else{z with base:=y}))})) (fun p=>dn p∨p=(i,k,o)):= by
        refine⟨hR.congr fun p _=> ?_, ?_⟩
        · cases p with
          | inl j=> simp
          | inr r=> simp
        · show((s.q+1:Nat):Int)+Zc (Zb (refW s.V y) x) x=_
          rw[hcnt];omega
      cases o with
      | false=>
        subst hq
        refine(F5 (h2.split [0,1,2,3,4,5,6] [true,true,true,true,true,true,true,false] U) (by omega) hv).mono fun e w h=>h.mono fun v w h=> ?_
        have h3:=(h.join U).reorder [1,2,3,4,5,6,0,7] U
        have h4:=Sat.fold (As:=[Q3 b [ptrV L.sp 0,.map (some L.mp),.map (some L.mt),intV L.cur,.map (some L.ms)],Q5 QO L.ms (ZZ _),XG L.sp (n+2*s.q+2) Fr _,Q3 cx [intV x],Q3 cl [ptrV b 0],Q3 cy [intV y]]) h3
        exact⟨_,{z with base:=y},ha,hfin,h4.perm (List.Perm.swap _ _ _)⟩
      | true=>
        subst hq
        refine(F4 (h2.split [0,1,2,3,4,5,6] [true,true,true,true,true,true,true,false] U) (by omega) hv).mono fun e w h=>h.mono fun v w h=> ?_
        have h3:=(h.join U).reorder [1,2,3,4,5,6,0,7] U
        have h4:=Sat.fold (As:=[Q3 b [ptrV L.sp 0,.map (some L.mp),.map (some L.mt),intV L.cur,.map (some L.ms)],Q5 QO L.ms (ZZ _),XG L.sp (n+2*s.q+2) Fr _,Q3 cx [intV x],Q3 cl [ptrV b 0],Q3 cy [intV y]]) h3
        exact⟨_,{z with own:=y},ha,hfin,h4.perm (List.Perm.swap _ _ _)⟩
    · have hfin:JSw m c L V pr x y s (Xi T i (some {t with lv:=Xi t.lv k (some z)})) (fun p=>dn p∨p=(i,k,o)):= by
        rw[show Xi t.lv k (some z)=t.lv from WE hx, show Xi T i (some {t with lv:=t.lv})=T from WE ht]
        refine⟨(hJ1.skip (p:= .inr (i,k,o)) (by rw[hLold]; exact hv)).congr fun p _=> ?_,hJ2⟩
        cases p with
        | inl j=> simp
        | inr r=> simp
      cases o with
      | false=>
        subst hq
        refine(F7 (h2.split [0,1,2,3,4,5,6] [true,true,true,true,true,true,true,false] U) (by omega) hv).mono fun e w h=>h.mono fun v w h=> ?_
        have h3:=(h.join U).reorder [1,2,3,4,5,6,0,7] U
        have h4:=Sat.fold (As:=[Q3 b [ptrV L.sp 0,.map (some L.mp),.map (some L.mt),intV L.cur,.map (some L.ms)],Q5 QO L.ms (ZZ _),XG L.sp (n+2*s.q) Fr _,Q3 cx [intV x],Q3 cl [ptrV b 0],Q3 cy [intV y]]) h3
        exact⟨s,z,ha,hfin,h4.perm (List.Perm.swap _ _ _)⟩
      | true=>
        subst hq
        refine(F6 (h2.split [0,1,2,3,4,5,6] [true,true,true,true,true,true,true,false] U) (by omega) hv).mono fun e w h=>h.mono fun v w h=> ?_
        have h3:=(h.join U).reorder [1,2,3,4,5,6,0,7] U
        have h4:=Sat.fold (As:=[Q3 b [ptrV L.sp 0,.map (some L.mp),.map (some L.mt),intV L.cur,.map (some L.ms)],Q5 QO L.ms (ZZ _),XG L.sp (n+2*s.q) Fr _,Q3 cx [intV x],Q3 cl [ptrV b 0],Q3 cy [intV y]]) h3
        exact⟨s,z,ha,hfin,h4.perm (List.Perm.swap _ _ _)⟩
theorem LE {w:World} {F:Th} {b:Nat} {g:KD→Option Value} (hS:Sat w [Q5 Xo b g,F]):
    Calls Tryz.prog 80 #[.map (some b)] w (Ret fun v w'=> ∃b',v= .map (some b')∧Sat w' [Q5 Xo b' g,Q5 Xo b g,F]):= by
 refine Qm Tryz.func80 U Tryz.ntmps80 U ?_
 refine Qd (Qa (Qe U U (Qf (Qc (Qd (Qd (Qa (Qb U U (MY Tryz.underlying81 U U U (Qf (Qc (QT U (Qt (Qc (Qd (Qa (Qb U U (MX Aj U U (MV 0 hS Tryz.func127 mc1 mc2 mc3 mc4 U U U ?_)))))))))))))))))))
 intro b9 w9 hS9
 exact DA Aj U U (Qe U U (Qf (Qc (Qu (QR (.inr U) U U (⟨_,rfl,_,rfl,hS9⟩))))))
end Go.Proofs.YtkcjfoaejijdoaaGreatDoor
namespace Go.Proofs.YtkcjfoaejijdoaaGreatDoor
open Go.RowKit M
variable [Inhabited SlW]
theorem Eo {m c:Nat} {L:LvD} {V V1:VS} {pr:KD→Int} {T:Int→Option TrD} {f:Int→Bool} {x y:Int} {dn:Int×KD×Bool→Prop} (h:SwR m c L {L with pres:=pr,tr:=T,sh:=f} V V1 x y (fun p=> match p with | .inl _=>True | .inr z=>dn z)) (hcov: ∀i t k x,T i=some t→t.lv k=some x→ ∀o,dn (i,k,o)) (hx0:x≠0):SwR m c L {L with pres:=pr,tr:=T,sh:=f} V V1 x y (fun _=>True):=h.congr fun p hp=> by
  cases p with
  | inl k=> exact⟨fun _=>trivial, fun _=>trivial⟩
  | inr q=>
    obtain⟨i,k,o⟩:=q
    refine⟨fun _=>trivial, fun _=>Classical.byContradiction fun hd=> ?_⟩
    have h1:=h.old (.inr (i,k,o)) fun r=>hd r.1
    rw[hp]at h1
    cases ht:T i with
    | none=> simp [QJ,ht]at h1;omega
    | some t=>
      cases hx:t.lv k with
      | none=> simp [QJ,ht,hx]at h1;omega
      | some z=> exact hd (hcov i t k z ht hx o)
theorem CK {k:KD} {dn:KD→Prop} {p:Pl}:((∃j,p= .inl j∧dn j)∨p= .inl k)↔ ∃j,p= .inl j∧(dn j∨j=k):= by
  constructor
  · rintro(⟨j,a,b⟩ | e)
    · exact⟨j,a,.inl b⟩
    · exact⟨k,e,.inr U⟩
  · rintro⟨j,a,b | b⟩
    · exact .inl ⟨j,a,b⟩
    · exact .inr (by rw[a,b])
theorem PT {w:World} {b n Fr m c:Nat} {L:LvD} {V:VS} {F:Th} (hS:Sat w [XY b L,XG L.sp n Fr V,F]) (hI:LvI m L V) (hc:SzLe L c) (hn:n+6*c≤60000000000) {x y:Int} (hne:y≠x) (hx0:x≠0) (hya:Xq V y) (hpg:XH V y=XH V x):
    Calls Tryz.prog 87 #[ptrV b 0,intV x,intV y] w (Ret fun v w'=> ∃L' V',SwR m c L L' V V' x y (fun _=>True)∧Sat w' [XY b L',XG L'.sp (n+6*c) Fr V',F]):= by
 replace hS:=Xy hS
 refine Qm Tryz.func87 U Tryz.ntmps87 U ?_
 refine Qd (Qa (Zd hS U U U ?_))
 intro cl w1 hS1
 refine Zd hS1 U U U ?_
 intro cx w2 hS2
 clear hS1
 refine Zd hS2 U U U ?_
 intro cy w3 hS3
 clear hS2
 refine Qf (Qc (Qd (Qd (Qa (Qn U HI (by first | assumption | exact hS3.cell 0 U U | exact hS3.cell 1 U U | exact hS3.cell 2 U U | exact hS3.cell 3 U U) U ?_)))))
 refine Qj U U (Qg U JU U (Qn U Up (hS3.cell 3 U U) U (Qw cal_80 U (LE (hS3.sp [4] U)) U ?_)))
 rintro _ w4 ⟨mc,rfl,hS4⟩
 replace hS4:=hS4.jn U U
 clear hS3
 refine Wm 0 hS4 Tryz.underlying81 U U U ?_
 intro RR leftZ wRRR hSRRR; dsimp only[List.set]at hSRRR
 clear hS4
 refine Qf (Qc (Qh [3,4,5,13] U (Qv ?_)))
 refine Xb (fun K0 E0 W0=> ∃(dn:KD→Prop) (cur:Option KD) (left:Nat) (pr:KD→Int) (f:Int→Bool) (V1:VS) (q:Nat),K0=left∧E0=[(3,ptrV cl 0),(4,ptrV cx 0),(5,ptrV cy 0),(13,ptrV RR 0)]∧Sat W0 [Wq Xo mc RR (Zg L.pres) dn cur left,Q5 Xo L.mp (Zg pr),Q5 QO L.ms (ZZ f),XG L.sp (n+2*q) Fr V1,Q3 cy [intV y],Q3 cx [intV x],Q3 cl [ptrV b 0],Q3 b [ptrV L.sp 0,.map (some L.mp),.map (some L.mt),intV L.cur,.map (some L.ms)],Q5 QO L.mt (Xv TrD.ad L.tr),Zj HK L.tr,F]∧(SwR m c L {L with pres:=pr,sh:=f} V V1 x y (fun p=> ∃k,p= .inl k∧dn k))∧((q:Int)+Zc V1 x=Zc V x)) (L0:=[(3,_),(4,_),(5,_),(13,_)]) (leftZ) (VN U U U U) ⟨_,_,_,L.pres,L.sh,V,0,rfl,rfl,hSRRR.pick [0,1,8,9,2,3,4,5,6,7,10] U,(SwR.refl hI hc).congr fun p _=>⟨fun h=>h.elim, fun ⟨_,_,h⟩=>h.elim⟩, by simp⟩ ?_
 rintro _ _ w5 ⟨dn,cur,left,pr,f,V1,q,rfl,rfl,hS5,hsw,hcnt⟩
 refine Qd (Qa (WP 0 hS5 keysKey.inj U U U (fun hdoneA=> ?_) (fun k vA leftA wNA hleftA hgkA hndA hSNA=> ?_)))
 ·refine Qq U U U (Qf (Qc (Qd (QT U (QM (Qo (Qo (Qx (Qc (Qa (Qn U HI (by first | assumption | exact hS5.cell 4 U U | exact hS5.cell 5 U U | exact hS5.cell 6 U U | exact hS5.cell 7 U U) U ?_)))))))))))
  refine Zx U U ?_
  have hq3:=Tg hI hc hx0; have hq4:=BI (x:=x) hsw.inv
  have hQ:=Sat.fold (As:=[Q3 b [ptrV L.sp 0,.map (some L.mp),.map (some L.mt),intV L.cur,.map (some L.ms)],Q5 QO L.ms (ZZ f),XG L.sp (n+2*q) Fr V1,Q3 cx [intV x],Q3 cl [ptrV b 0],Q3 cy [intV y]]) (hS5.pick [7,2,3,5,6,4,0,1,8,9,10] U)
  have hsw1:SwR m c L {L with pres:=pr,tr:=L.tr,sh:=f} V V1 x y (fun p=> match p with | .inl _=>True | .inr z=>False):=hsw.congr fun p hp=> by
   cases p with
   | inl k=> exact⟨fun _=>trivial, fun _=>⟨k,rfl,hdoneA k _ (show Zg L.pres k=some (intV (L.pres k)) by unfold Zg; exact if_neg (fun e=>hx0 (hp.symm.trans e)))⟩⟩
   | inr z=> exact⟨fun ⟨_,e,_⟩=>(by cases e), fun h=>h.elim⟩
  have hC6:=hQ.sp [3,4,0] U
  refine Qw SQ U (Pe (EU (n:=n) (Fr:=Fr) (cx:=cx) (cl:=cl) (cy:=cy) (b:=b) (pr:=pr) hI hc hn hne hx0 hya hpg) (s0:=⟨f,V1,q⟩) hC6 ⟨hsw1,hcnt⟩) U ?_
  rintro _ w6 ⟨s2,T2,dn2,hJ2,hcov,hag,hS6⟩
  replace hS6:=hS6.jn U U; clear hC6
  clear hQ
  have hz3:=(hS6.pick [2,0,1,3,4,5] U).flat; dsimp only[R8,R7]at hz3
  rw[←hag]at hz3
  have hbd:=hJ2.bound hI hc hx0
  refine Qf (ZD (.inl U) U ?_)
  have hz4:=Xe (m:=n+6*c) (by omega) (hz3.pick [2,0,1,3,4,5,6,7,8,9,10] U)
  exact⟨_,rfl,{L with pres:=pr,tr:=T2,sh:=s2.f},s2.V,Eo hJ2.1 hcov hx0,QZ (L:={L with pres:=pr,tr:=T2,sh:=s2.f}) (hz4.pick [1,9,6,7,2,0,10] U)⟩
 dsimp only[List.set]at hSNA
 obtain⟨hpk,rfl⟩:=BL hgkA
 refine Qq U U U (Qf (Qc (Qd (Xf U (Qt (Qc (Qv (Qd (Qa (Wn 0 hSNA U hgkA U U (Qq U U U (Qq U U U (QX hSNA Z2 U U ?_)))))))))))))
 intro kb wk7 hk7
 clear hSNA
 refine QK hk7 U U Xc U (by rfl) (i:=0) U (by decide) ?_
 intro wk8 hk8; dsimp only[List.set]at hk8
 clear hk7
 replace hk8:=X5 (k:=k) hk8
 refine Qe U U (Qf (Qc (Qh [13,5,4,3,6,7] U (Qd (Qa (Qb U U (Qn U QL (by first | assumption | exact hk8.cell 0 U U | exact hk8.cell 5 U U | exact hk8.cell 6 U U | exact hk8.cell 7 U U | exact hk8.cell 8 U U) U ?_)))))))
 refine Xd U U U (Qf (Qc (Qs U (fun h9=> ?_) (fun h9=> ?_))))
 ·have hkx:L.pres k=x:=h9
  have hq3:=Tg hI hc hx0; have hq4:=BI (x:=x) hsw.inv
  refine Qd (Qa (Qn U HI (by first | assumption | exact hk8.cell 0 U U | exact hk8.cell 5 U U | exact hk8.cell 6 U U | exact hk8.cell 7 U U | exact hk8.cell 8 U U) U ?_))
  refine Qn U QL (hk8.cell 5 U U) U ?_
  have hC10:=hk8.sp [8,3,4] U
  refine Qw K5 U (BJ hC10 (by omega) y) U ?_
  rintro _ w10 ⟨rfl,hS10⟩
  replace hS10:=hS10.jn U U; clear hC10
  clear hk8
  refine Qf (Qc (Qh [13,5,4,3,6] U (Qa (Qn U HI (hS10.cell 8 U U) U (Xt U X7 Xc (hS10.blk 3 U) (Xa U) U U (Qn U QL (hS10.cell 6 U U) U (Qw K4 U (PX (hS10.sp [0,5,1,2] U) (by omega) k y) U ?_)))))))
  rintro _ w11 ⟨rfl,hS11⟩
  replace hS11:=hS11.jn U U
  clear hS10
  refine Qf (Qk ?_)
  have hprk:pr k=L.pres k:=hsw.old (.inl k) (fun r=> by obtain⟨⟨j,e,hj⟩,_⟩:=r; cases e; exact hndA hj)
  have hax:Xq V1 x:= by have h9:Xq V1 (pr k):=hsw.inv.alive (.inl k);rwa [hprk,hkx]at h9
  have hay:=hsw.aliveY hI hne hya
  have hp2:XH V1 y=XH V1 x:= by rw[(hsw.pgs y hay).2,(hsw.pgs x hax).2,hpg]
  have hR:=hsw.setP (k:=k) (hprk.trans hkx) hkx hx0 hay hp2 (Jq (refW V1 y) (J1 f y) (pr k))
  have hcnt2:=Mp hsw.inv (hax.resolve_left hx0) hne
  exact Q0 (L1:=[(3,_),(4,_),(5,_),(13,_)]) (VN U U U U) (k1:=leftA) (by omega) ⟨_,_,_,Zv pr k y,_,_,q+1,rfl,rfl,hS11.pick [5,1,2,3,6,7,8,0,9,10,11] U,hR.congr fun p _=>CK, by show((q+1:Nat):Int)+Zc (Zb (refW V1 y) (pr k)) x=_; rw[hprk,hkx,hcnt2];omega⟩
 have hkn:L.pres k≠x:=h9
 exact Qt (Qk (Q0 (L1:=[(3,_),(4,_),(5,_),(13,_)]) (VN U U U U) (k1:=leftA) (by omega) ⟨_,_,_,pr,f,V1,q,rfl,rfl,hk8.pick [1,2,3,4,5,6,7,8,9,10,11] U,(hsw.skip (p:= .inl k) hkn).congr fun p _=>CK,hcnt⟩))
end Go.Proofs.YtkcjfoaejijdoaaGreatDoor
