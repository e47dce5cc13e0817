/- leaves: the phases of a commit, plain -/
import Derived.Test.YtifaibmhinlcfaaGreatDoorLv20
import Derived.Shelf.Spec.TrailingZeros
set_option linter.unusedSectionVars false
set_option linter.unusedVariables false
namespace Go.Proofs.YtifaibmhinlcfaaGreatDoor
open Go.RowKit M Proofs.Tryz
variable [Inhabited SlW]
variable {A A0:LvA} {L:LvD} {V:VS} {b c m n:Nat} {k:KD} {p:Int} {t:TrA} {w:World} {x:LfA}
theorem U3 {i:Int} {a:TrA} (h:(QC L V).tr i=some a): ∃t,L.tr i=some t/\ZR V t=a:=by
  unfold QC at h;dsimp only at h;cases q:L.tr i with
  | none=> rw[q]at h;cases h
  | some t=> rw[q]at h;exact⟨t,rfl,by simpa using h⟩
theorem SeI.reads {A0:LvA} {id p:Int} {t:TrA} (a:id≠p) (b:p≠0): ∀(l:List KD) {A:LvA},SeI A0 A id p t [] []->SeI A0 (l.foldl (rdS p t) A) id p t [] []
  | [],_,h=>h
  | k::l,_,h=>SeI.reads a b l (h.read a b k)
theorem SeI.drops {A0:LvA} {id p:Int} {t:TrA} (a:id≠p): ∀(l:List Bs) {A:LvA} {obs:List Bs},SeI A0 A id p t obs []->SeI A0 (l.foldl (JU p) A) id p t (obs++l) []
  | [],_,_,h=>by rw[List.append_nil];exact h
  | ob::l,_,_,h=>by
    have :=SeI.drops a l (h.drop (ob:=ob) a);rw[List.append_assoc]at this;exact this
theorem SeI.gives {A0:LvA} {id p:Int} {t:TrA} {obs:List Bs} (a:id≠p): ∀(l:List KD) {A:LvA} {gv:List KD},SeI A0 A id p t obs gv->SeI A0 (l.foldl (DR A0 p t) A) id p t obs (gv++l)
  | [],_,_,h=>by rw[List.append_nil];exact h
  | k::l,_,_,h=>by
    have :=SeI.gives a l (h.give a k);rw[List.append_assoc]at this;exact this
structure CmI (ex:Int→Int) (m:Nat) (L L1:LvD) (V V1:VS) (id:Int) (t:TrD) (A:LvA):Prop where
  inv:LvX ex m L1 V1
  sp:L1.sp=L.sp
  tr:L1.tr id=some t
  ab:QC L1 V1=A
  al: ∀c,AliveLe V c→AliveLe V1 c
  ok:OthK L L1 t.parent (fun q=>t.lv q≠none)
  pg:Pgs V V1
noncomputable def gvR (A:LvA) (p:Int) (k:KD) (c:Bs) (wr:BitVec 64):LvA:= if p=0 then{A with pres:=VN A.pres k c}else Wj A p k (gvX (Z6 A p k) c wr)
theorem SU (a:t.lv k=some x) (b:x.wr≠0#64):DR A0 p t A k=gvR A p k (D6 A0 p k x) x.wr:=by
  unfold DR gvR;rw[a];dsimp only;rw[if_neg b]
theorem qd1 (a:t.lv k=some x) (b:x.wr=0#64):DR A0 p t A k=A:=by
  unfold DR;rw[a];dsimp only;rw[if_pos b]
theorem qcb (a:t.lv k=some x) (b:x.rd=0#64):rdS p t A k=A:=by
  unfold rdS;rw[a];dsimp only;rw[if_pos b]
section
variable {ex ex' ex0:Int→Int} {m e i:Nat} {L L1 L2:LvD} {V0 V V1 V2:VS} {id:Int} {t tp t2:TrD} {A A0 A' Ad:LvA} {k:KD} {x y:LfD} {P:KD→Prop} {s:Int} {order:List KD} {made:KD→Option Int} {obs:List Bs}
theorem CmI.start (a:LvX ex m L V) (b:L.tr id=some t):CmI ex m L L V V id t (QC L V):=⟨a,rfl,b,rfl,λ_ q=>q,.refl,.refl⟩
theorem CmI.step (h:CmI ex m L L1 V V1 id t A) (a:StepX ex m L1 V1 ex' m 0 e L2 V2) (f:OthK L1 L2 t.parent P) (g: ∀q,P q->t.lv q≠none) (b:id≠t.parent) (d:QC L2 V2=A'):CmI ex' m L L2 V V2 id t A':=
  ⟨a.inv,a.sp.trans h.sp,(f.1 id b).trans h.tr,d,λc q=>a.al c (h.al c q),h.ok.trans f (λ_ q=>q) g,h.pg.trans a.pg⟩
theorem CmI.ref (h:CmI ex m L L1 V V1 id t A) (e:XP V1 s) (f:Int->Bool):CmI (λj=>ex j+dl s j) m L {L1 with sh:=f} V (refW V1 s) id t A:=by
  obtain⟨a,b⟩:=h.inv.refW e;obtain⟨c,d⟩:=a.same (L':={L1 with sh:=f}) rfl rfl
  exact⟨c,h.sp,h.tr,(d.trans b).trans h.ab,λc q=>(h.al c q).refW,⟨h.ok.1,λj q g=>h.ok.2 j q g⟩,h.pg.trans .ref⟩
theorem EQ (a:L.tr id=some t) (q:KD) (b:t.lv q≠none):FL L id q:=by
  cases r:t.lv q with
  | none=> exact absurd r b
  | some x=> exact .inr ⟨t,x,a,r⟩
theorem CmI.sz2 {c:Nat} (h:CmI ex m L L1 V V1 id t A) (a:L.tr id=some t) (b:SzLe L c):SzLe L1 (2*c):=h.ok.sz2 (EQ a) b
theorem CmI.par {tA:TrA} {gv:List KD} (h:CmI ex m L L1 V V1 id t A) (b:SeI A0 A id t.parent tA obs gv):t.parent=0\/ ∃tp,L1.tr t.parent=some tp:=by
  by_cases c:t.parent=0
  · exact .inl c
  · obtain⟨tp,a⟩:=b.par c;rw[<-h.ab]at a;obtain⟨u,d,_⟩:=U3 a;exact .inr ⟨u,d⟩
theorem CmI.read (h:CmI ex m L L1 V V1 id t A) (b:NN ex) (d:t.lv k=some x) (g:x.rd≠0#64) (c:id≠t.parent) (a:L1.tr t.parent=some tp) (f:TouR L1 V1 t.parent tp k L2 V2 t2 y):
    CmI ex m L (ZA L2 t.parent t2 k {y with rd:=y.rd ||| (x.rd&&& ~~~y.wr)}) V V2 id t (rdS t.parent (ZR V0 t) A k):=by
  obtain⟨i,j⟩:=orR_fin f a h.inv b x.rd;refine h.step i (f.othK a U U) (λq e=>by subst e;rw[d];simp) c ?_;rw[j,h.ab];unfold rdS;rw[ZW d];dsimp only;rw[if_neg (show ¬(WF V0 x).rd=0#64 from g)];rfl
structure GvI (ex:Int→Int) (m:Nat) (L L1:LvD) (V0 V V1:VS) (id:Int) (t:TrD) (made:KD→Option Int) (A0 Ad:LvA) (order:List KD) (i:Nat):Prop where
  cm:CmI ex m L L1 V V1 id t ((order.take i).foldl (DR A0 t.parent (ZR V0 t)) Ad)
  mx: ∀j,j≠0→ ∃n:Nat,Cnt (WM (fun k=>k∈order.take i) 0 (Ur made)) j n∧ex j=n
theorem GvI.start (h:CmI ex m L L1 V V1 id t Ad) (b: ∀j,j≠0-> ∃n:Nat,Cnt (Ur made) j n/\ex j=n):GvI ex m L L1 V0 V V1 id t made A0 Ad order 0:=
  ⟨h,λj c=>by
    obtain⟨n,a,e⟩:=b j c;have d:WM (λk=>k∈order.take 0) 0 (Ur made)=Ur made:=by funext k;simp [WM]
    exact⟨n,by rw[d];exact a,e⟩⟩
theorem GvI.nn (h:GvI ex m L L1 V0 V V1 id t made A0 Ad order i):NN ex:= λj a=>by
  obtain⟨n,_,e⟩:=h.mx j a;rw[e];omega
theorem GvI.next (h:GvI ex m L L1 V0 V V1 id t made A0 Ad order i) (c:order[i]? =some k) (hd:order.Nodup) (o:CmI ex' m L L2 V V2 id t (DR A0 t.parent (ZR V0 t) ((order.take i).foldl (DR A0 t.parent (ZR V0 t)) Ad) k)) (r: ∀j,j≠0->ex' j=ex j -dl (Ur made k) j):
    GvI ex' m L L2 V0 V V2 id t made A0 Ad order (i+1):=by
  refine⟨by rw[Us c];exact o,λj d=> ?_⟩;have f:=HK hd c;have g:WM (λk=>k∈order.take i) 0 (Ur made) k=Ur made k:=by unfold WM;rw[if_neg f]
  obtain⟨n,a,e⟩:=h.mx j d;rw[KB (P:= λk=>k∈order.take i) (k:=k) (λp=>(KV c).trans Or.comm),r j d];by_cases q:Ur made k=j
  · obtain⟨n',rfl,b⟩:=P1 (v:=0) (g.trans q) (by omega) a;exact⟨n',b,by rw[q,WE,e];omega⟩
  · refine⟨n,UT (λp=> ?_) a,by rw[JE (λa=>q a.symm),e];omega⟩;by_cases l:p=k
    · subst l;rw[XO,g];exact⟨λa=>absurd a.symm d,λa=>absurd a q⟩
    · rw[Zk l]
theorem GvI.ge (h:GvI ex m L L1 V0 V V1 id t made A0 Ad order i) (b:order[i]? =some k) (hd:order.Nodup) (c:made k=some s) (d:s≠0):1<=ex s:=by
  obtain⟨n,a,e⟩:=h.mx s d;have f:WM (λk=>k∈order.take i) 0 (Ur made) k=s:=by unfold WM Ur;rw[if_neg (HK hd b),c];rfl
  have :=Mf a (p:=k) f;rw[e];omega
theorem EG (a:LvI m L V0):D6 (QC L V0) t.parent k (WF V0 x)=Ca (Zm V0 (XA L t.parent k)) (Zm V0 x.own) x.wr:=by
  unfold D6;rw[<-a.sees];rfl
theorem GvI.con_made (h:GvI ex m L L1 V0 V V1 id t made (QC L V0) Ad order i) (a:MdI m L V0 V t ex0 made order) (b:LvI m L V0) (d:order[i]? =some k) (hd:order.Nodup) (e:t.lv k=some x) (c:made k=some s):Zm V1 s=D6 (QC L V0) t.parent k (WF V0 x):=by
  rw[EG b,<-a.con k s x c e];exact(h.cm.pg s (h.cm.inv.held λf=>h.ge d hd c f)).2
theorem GvI.own_alive (h:GvI ex m L L1 V0 V V1 id t made A0 Ad order i) (a:t.lv k=some x):XP V1 x.own:=by
  have :=h.cm.inv.aliveX h.nn (.inr (id,k,true));rw[XB h.cm.tr a]at this;exact this
theorem GvI.con_own (h:GvI ex m L L1 V0 V V1 id t made (QC L V0) Ad order i) (c:MdI m L V0 V t ex0 made order) (a:LvI m L V0) (f:L.tr id=some t) (o:order[i]? =some k) (d:t.lv k=some x) (p:x.wr≠0#64) (r:made k=none):Zm V1 x.own=D6 (QC L V0) t.parent k (WF V0 x):=by
  have b:XP V0 x.own:=by
    have g:=a.alive (.inr (id,k,true));rw[XB f d]at g;exact g
  rw[(h.cm.pg _ (h.own_alive d)).2,c.pg _ b,EG a];have e: ¬Rx L t k x:= λq=>(c.dom k).2 ⟨List.mem_of_getElem? o,x,d,q⟩ r;have l:=a.len (a.aliveS t.parent k);by_cases n:x.wr=BitVec.allOnes 64
  · rw[n,mgB_all (a.len b) l]
  · have s:XA L t.parent k=x.base:=Classical.byContradiction λq=>e ⟨p,n,q⟩;rw[SG (a.len b) l];intro j u v;rw[s];exact a.agree id _ k _ (Z1 f) (ZW d) j u v
theorem GvI.ag (h:GvI ex m L L1 V0 V V1 id t made (QC L V0) Ad order i) (a:LvI m L V0) (b:SeI (QC L V0) Ad id t.parent (ZR V0 t) obs []) (d:id≠t.parent) (j:order[i]? =some k) (hd:order.Nodup) (e:k.1∈obs->x.wr=BitVec.allOnes 64) {L':LvD} {V':VS} (f:QC L' V'=QC L1 V1) {c:Bs} (l:c=D6 (QC L V0) t.parent k (WF V0 x)) (n:t.parent≠0):AgA (gvX (Z6 (QC L' V') t.parent k) c x.wr):=by
  have g:=b.gives d (order.take i);rw[<-h.cm.ab]at g;have o:(WY (QC L V0) t.parent k).length=64:=by rw[<-a.sees];exact a.len (a.aliveS t.parent k)
  rw[f,l];exact g.ag (x:=WF V0 x) n h.cm.inv.agree (by rw[List.nil_append];exact HK hd j) o e
theorem GvI.made_next (h:GvI ex m L L1 V0 V V1 id t made (QC L V0) Ad order i) (a:MdI m L V0 V t ex0 made order) (b:LvI m L V0) (c:id≠t.parent) (g:order[i]? =some k) (hd:order.Nodup) (d:t.lv k=some x) (n:x.wr≠0#64) (l:made k=some s)
    (o:StepX ex m L1 V1 (λj=>ex j -dl s j) m 0 e L2 V2) (f:QC L2 V2=gvR (QC L1 V1) t.parent k (Zm V1 s) x.wr) (p:OthK L1 L2 t.parent (λq=>q=k)):GvI (λj=>ex j -dl s j) m L L2 V0 V V2 id t made (QC L V0) Ad order (i+1):=by
  refine h.next g hd (h.cm.step o p (λq e=>by subst e;rw[d];simp) c ?_) λj _=>by unfold Ur;rw[l];rfl
  rw[f,h.cm.ab,SU (ZW d) n,h.con_made a b g hd d l];rfl
theorem GvI.own_next (h:GvI ex m L L1 V0 V V1 id t made (QC L V0) Ad order i) (b:MdI m L V0 V t ex0 made order) (c:LvI m L V0) (d:id≠t.parent) (r:L.tr id=some t) (l:order[i]? =some k) (hd:order.Nodup) (a:t.lv k=some x) (n:x.wr≠0#64) (o:made k=none) {f:Int->Bool}
    (s:StepX (λj=>ex j+dl x.own j) m {L1 with sh:=f} (refW V1 x.own) (λj=>ex j+dl x.own j -dl x.own j) m 0 e L2 V2) (g:QC L2 V2=gvR (QC {L1 with sh:=f} (refW V1 x.own)) t.parent k (Zm (refW V1 x.own) x.own) x.wr) (u:OthK {L1 with sh:=f} L2 t.parent (λq=>q=k)):GvI (λj=>ex j+dl x.own j -dl x.own j) m L L2 V0 V V2 id t made (QC L V0) Ad order (i+1):=by
  have p:=h.cm.ref (h.own_alive a) f
  refine h.next l hd (p.step s u (λq e=>by subst e;rw[a];simp) d ?_) λj v=>by
    have w:Ur made k=0:=by unfold Ur;rw[o];rfl
    rw[w,JE v];omega
  rw[g,p.ab,YF,SU (ZW a) n,h.con_own b c r l a n o];rfl
theorem GvI.skip (h:GvI ex m L L1 V0 V V1 id t made A0 Ad order i) (a:MdI m L V0 V t ex0 made order) (e:order[i]? =some k) (hd:order.Nodup) (b:t.lv k=some x) (c:x.wr=0#64):GvI ex m L L1 V0 V V1 id t made A0 Ad order (i+1):=by
  have f:made k=none:=Classical.byContradiction λq=>by
    obtain⟨_,y,d,g,_⟩:=(a.dom k).1 q;rw[b]at d;cases d;exact g c
  refine h.next e hd ?_ λj l=>by
    have n:Ur made k=0:=by unfold Ur;rw[f];rfl
    rw[n,JE l];omega
  rw[qd1 (ZW b) c];exact h.cm
theorem GvI.fin (h:GvI ex m L L1 V0 V V1 id t made A0 Ad order order.length) (hd: ∀k,made k≠none->k∈order):LvI m L1 V1:=by
  refine h.cm.inv.ext λj b=> ?_;obtain⟨n,a,e⟩:=h.mx j b;rw[List.take_length]at a
  have c:WM (λk=>k∈order) 0 (Ur made)= λ_=>0:=by
    funext k;unfold WM;split
    · rfl
    · rename_i q;unfold Ur;cases r:made k with
      | none=>rfl
      | some s=> exact absurd (hd k (by rw[r];simp)) q
  rw[c]at a;rw[e,Au a (Mg b)];rfl
theorem CmI.noch (h:CmI ex m L L1 V V1 id t A) (d: ∀i u,L.tr i=some u->u.parent≠id): ∀i u,L1.tr i=some u->u.parent≠id:= λj u c e=>by
  by_cases q:j=t.parent
  · subst q;obtain⟨f,r,_,g⟩:=h.inv.rank;have Zl:id≠0:= λq=>by subst q;have :=h.tr;rw[f]at this;cases this
    have Is:t.parent≠0:= λq=>by rw[q,f]at c;cases c
    have a:=(g _ _ h.tr).resolve_left Is;have b:=(g _ _ c).resolve_left (by rw[e];exact Zl);rw[e]at b;omega
  · exact d j u ((h.ok.1 j q).symm.trans c) e
end
theorem SW {ex:Int->Int} {Fr:Nat} {F:Th} (i:Sat w [WB b L,ZP L.sp n Fr V,F]) (l:n<=60000000000) (g:LvX ex m L V) (o:NN ex) (u:m<ZO) (x:p=0\/ ∃tp,L.tr p=some tp) {s:Int} (r:s≠0->1<=ex s) (k:KD) (wr:BitVec 64) (y:p≠0->AgA (gvX (Z6 (QC L V) p k) (Zm V s) wr)):
    Calls prog 112 #[ptrV b 0,intV p,X7 k,intV s,ZC wr] w (Ret λv w'=> ∃L' V',StepX ex m L V (λj=>ex j -dl s j) m 0 1 L' V'/\QC L' V'=gvR (QC L V) p k (Zm V s) wr/\OthK L L' p (λq=>q=k)/\Sat w' [WB b L',ZP L'.sp (n+4) Fr V',F]):=by
  rcases x with rfl | ⟨tp,f⟩
  · refine(qd4 i l g o r k wr).mono λe w h=>h.mono λv w h=> ?_;obtain⟨L',V',a,b,c,d⟩:=h;exact⟨L',V',a,by rw[b];unfold gvR;rw[if_pos U],c,d⟩
  · have t:=g.rank.none0 f;refine(qd3 i l g o u f r k wr (y t)).mono λe w h=>h.mono λv w h=> ?_;obtain⟨L',V',a,b,c,d⟩:=h;exact⟨L',V',a,by rw[b];unfold gvR;rw[if_neg t];rfl,c,d⟩
theorem qer {ex:Int->Int} {Fr:Nat} {F:Th} (i:Sat w [WB b L,ZP L.sp n Fr V,F]) (j:SzLe L c) (k:n+2*c<=60000000000) (g:LvX ex m L V) (l:NN ex) (o:p=0\/ ∃tp,L.tr p=some tp) (ob:Bs):
    Calls prog 110 #[ptrV b 0,intV p,strV ob] w (Ret λv w'=> ∃L' V',StepX ex m L V ex m 0 0 L' V'/\QC L' V'=JU p (QC L V) ob/\OthK L L' p (λ_=>False)/\Sat w' [WB b L',ZP L'.sp (n+2*c) Fr V',F]):=by
  rcases o with rfl | ⟨tp,f⟩
  · refine(Fq i j k g l ob).mono λe w h=>h.mono λv w h=> ?_;obtain⟨L',V',a,b,c,d⟩:=h;exact⟨L',V',a,by rw[b];unfold JU;rw[if_pos U],c,d⟩
  · have q:=g.rank.none0 f;refine(Fp i j k g l f ob).mono λe w h=>h.mono λv w h=> ?_;obtain⟨L',V',a,b,c,_,d⟩:=h;exact⟨L',V',a,by rw[b];unfold JU;rw[if_neg q],c,d⟩
theorem L7 {Fr:Nat} {F:Th} {ar:Option Addr} {cr:Nat} {order:List KD} (g:Sat w [WB b L,ZP L.sp n Fr V,rowT kC (.slice ar order.length cr) order,F]) (i:n+2*c<=60000000000) (j:LvI m L V) (l:m<ZO) {id:Int} {t:TrD} (o:L.tr id=some t) (a: ∀k,k∈order↔t.lv k≠none) (d:order.Nodup) (f:order.length<=c):
    Calls prog 107 #[ptrV b 0,ptrV t.ad 0,.slice ar order.length cr] w (Ret λv w'=>(∃V' mm made ex,v= .tuple #[.map (some mm),intV 0]/\MdI m L V V' t ex made order/\Sat w' [WB b L,ZP L.sp (n+2*c) Fr V',rowT kC (.slice ar order.length cr) order,Q4 X7 mm (Br made),F])\/(∃V',v= .tuple #[.map none,intV 6]/\LvI m L V'/\QC L V'=QC L V/\(∀c,AliveLe V c->Fr<=c+YG t order)/\(∀c,AliveLe V c->AliveLe V' (c+YG t order))/\Sat w' [WB b L,ZP L.sp (n+2*c) Fr V',rowT kC (.slice ar order.length cr) order,F])):=by
  refine(Im g i j l o a d f).mono λe w h=>h.mono λv w h=> ?_;obtain⟨V',h⟩:=h;rcases h with⟨mm,made,ex,h⟩ | h
  · exact .inl ⟨V',mm,made,ex,h⟩
  · exact .inr ⟨V',h⟩
