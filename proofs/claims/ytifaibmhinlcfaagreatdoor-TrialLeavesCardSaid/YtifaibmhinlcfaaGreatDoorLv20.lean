/- leaves: a commit, by contents -/
import Derived.Test.YtifaibmhinlcfaaGreatDoorLv18
import Derived.Test.YtifaibmhinlcfaaGreatDoorLvn
import Derived.Test.YtifaibmhinlcfaaGreatDoorLv19
set_option linter.unusedSectionVars false
set_option linter.unusedVariables false
set_option maxRecDepth 100000
set_option maxHeartbeats 80000000000
namespace Go.Proofs.YtifaibmhinlcfaaGreatDoor
open Go.RowKit M Proofs.Tryz
variable [Inhabited SlW]
variable {A A0:LvA} {As:List Th} {It:Th} {L:LvD} {V:VS} {b gf j m mp ms mt q:Nat} {caps:List Value} {g:Bs→Option Value} {gv:List KD} {i id p p0 s:Int} {k:KD} {l:List Int} {now ob:Bs} {obs:List Bs} {t:TrA} {v:Value} {w:World} {wr:BitVec 64} {x:LfD} {y:LfA}
def orR (y:LfA) (r:BitVec 64):LfA:={y with rd:=y.rd ||| (r&&& ~~~y.wr)}
noncomputable def rdS (p:Int) (t:TrA) (A:LvA) (k:KD):LvA:= match t.lv k with | none=>A | some x=> if x.rd=0#64 then A else Wj A p k (orR (Z6 A p k) x.rd)
noncomputable def JU (p:Int) (A:LvA) (ob:Bs):LvA:= if p=0 then dropP A ob else UQ A p ob
def gvX (y:LfA) (c:Bs) (wr:BitVec 64):LfA:={y with own:=c,wr:=y.wr ||| wr}
def D6 (A0:LvA) (p:Int) (k:KD) (x:LfA):Bs:=Ca (WY A0 p k) x.own x.wr
noncomputable def DR (A0:LvA) (p:Int) (t:TrA) (A:LvA) (k:KD):LvA:= match t.lv k with | none=>A | some x=> if x.wr=0#64 then A else if p=0 then{A with pres:=VN A.pres k (D6 A0 p k x)}else Wj A p k (gvX (Z6 A p k) (D6 A0 p k x) x.wr)
noncomputable def DA (A:LvA) (id:Int) (t:TrA) (l:List KD) (obs:List Bs):LvA:=
  Kw (l.foldl (DR A t.parent t) (obs.foldl (JU t.parent) (if t.parent=0 then A else l.foldl (rdS t.parent t) A))) id
def DrA (A:LvA):Prop:= ∀i t k x,A.tr i=some t->t.dr k.1=true->t.lv k=some x->x.wr=BitVec.allOnes 64
theorem Us {α β:Type} {f:α->β->α} {a:α} {l:List β} {i:Nat} {k:β} (h:l[i]? =some k):(l.take (i+1)).foldl f a=f ((l.take i).foldl f a) k:=by
  rw[List.take_add_one,h,List.foldl_append];rfl
theorem SG {own:Bs} (b:own.length=64) (c:now.length=64) (h: ∀j,j<64->wr.getLsbD j=false->now[j]? =own[j]?):Ca now own wr=own:=by
  apply List.ext_getElem?;intro j;by_cases a:j<64
  · unfold Ca;rw[List.getElem?_map,List.getElem?_range a];simp only[Option.map_some];split
    · rw[getD_some (by omega)]
    · rename_i q;rw[<-h j a (by simpa using q),getD_some (by omega)]
  · rw[List.getElem?_eq_none (by simp [Ca];omega),List.getElem?_eq_none (by omega)]
theorem mgB_all {own:Bs} (a:own.length=64) (b:now.length=64):Ca now own (BitVec.allOnes 64)=own:=
  SG a b λj c h=>by rw[BitVec.getLsbD_allOnes]at h;simp [c]at h
theorem mgB_bit {own:Bs} (a:j<64) (b:now.length=64) (h:wr.getLsbD j=false):(Ca now own wr)[j]? =now[j]? :=by
  unfold Ca;rw[List.getElem?_map,List.getElem?_range a];simp only[Option.map_some];rw[if_neg (by rw[h];decide),getD_some (by omega)]
theorem Kf {A A':LvA} {k:KD} (a:A'.pres k=A.pres k) (b: ∀i,(A'.tr i).map (λt=>(t.parent,t.lv k,t.dr k.1))=(A.tr i).map (λt=>(t.parent,t.lv k,t.dr k.1))): ∀n i,YE A' n i k=YE A n i k
  | 0,_=>rfl
  | n+1,i=>by
    unfold YE;have h:=b i;split
    · exact a
    · cases q:A.tr i with
      | none=>
        cases q':A'.tr i with
        | none=>rfl
        | some t'=> rw[q,q']at h;simp at h
      | some t=>
        cases q':A'.tr i with
        | none=> rw[q,q']at h;simp at h
        | some t'=>
          rw[q,q']at h;simp only[Option.map_some,Option.some.injEq,Prod.mk.injEq]at h;obtain⟨c,d,e⟩:=h;dsimp only;rw[c,d,e];cases t.lv k with
          | some x=>rfl
          | none=>
            dsimp only;split
            · rfl
            · exact Kf a b n _
theorem DF (b:p≠0) (a:A.tr p=some t):(Z6 A p k).own=WY A p k:=by
  unfold Z6;rw[a];dsimp only;cases c:t.lv k with
  | none=>rfl
  | some x=>unfold WY;rw[YE,if_neg b,a];dsimp only;rw[c]
theorem H7 (h:i≠p):(Wj A p k y).tr i=A.tr i:=by
  unfold Wj;cases A.tr p with
  | none=>rfl
  | some t=> dsimp only;rw[Qz h]
theorem BC:(Wj A p k y).pres=A.pres:=by
  unfold Wj;cases A.tr p<;>rfl
theorem MI {j:KD} (c:p≠0) (a:A.tr p=some t):WY (Wj A p k y) p j= if j=k then y.own else WY A p j:=by
  split
  · rename_i e;subst e;unfold WY;rw[YE,if_neg c,Wi a];dsimp only;rw[Qv];dsimp only;rw[Qv]
  · rename_i e;refine Kf (by rw[BC]) (λi=> ?_) _ _;by_cases b:i=p
    · subst b;rw[Wi a,a];dsimp only;rw[Qv];simp only[Option.map_some];rw[Qz e]
    · rw[H7 b]
theorem Tz (a:A.tr p=some t):UQ A p ob={A with tr:=QN A.tr p (some {t with lv:=W8 (λj=>j.1=ob) t.lv,dr:=Hw t.dr ob})}:=by unfold UQ;rw[a]
theorem Lq {j:KD} (h:j.1≠ob):WY (UQ A p ob) p j=WY A p j:=by
  cases a:A.tr p with
  | none=>unfold UQ;rw[a]
  | some t=>
    rw[Tz a];unfold WY;refine Kf (A:=A) (A':={A with tr:=QN A.tr p (some {t with lv:=W8 (λj=>j.1=ob) t.lv,dr:=Hw t.dr ob})}) U (λi=> ?_) _ _
    by_cases b:i=p
    · subst b;dsimp only;rw[Qv,a];simp only[Option.map_some];have c:W8 (λj=>j.1=ob) t.lv j=t.lv j:=by unfold W8;rw[if_neg h]
      have d:Hw t.dr ob j.1=t.dr j.1:=by unfold Hw;rw[if_neg h]
      rw[c,d]
    · dsimp only;rw[Qz b]
theorem Fo (h:i≠p):(UQ A p ob).tr i=A.tr i:=by
  unfold UQ;cases A.tr p with
  | none=>rfl
  | some t=> dsimp only;rw[Qz h]
structure SeI (A0 A:LvA) (id p:Int) (t:TrA) (obs:List Bs) (gv:List KD):Prop where
  tr:A.tr id=some t
  par:p≠0→ ∃tp,A.tr p=some tp
  sees:p≠0→ ∀k,k∉gv→k.1∉obs→WY A p k=WY A0 p k
  oth: ∀i,i≠p→A.tr i=A0.tr i
theorem SeI.start (a:A0.tr id=some t) (b:p≠0-> ∃tp,A0.tr p=some tp):SeI A0 A0 id p t [] []:=⟨a,b,λ_ _ _ _=>rfl,λ_ _=>rfl⟩
theorem SeI.read (h:SeI A0 A id p t [] []) (c:id≠p) (b:p≠0) (k:KD):SeI A0 (rdS p t A k) id p t [] []:=by
  unfold rdS;cases g:t.lv k with
  | none=> exact h
  | some x=>
    dsimp only;split
    · exact h
    · obtain⟨tp,a⟩:=h.par b;refine⟨by rw[H7 c];exact h.tr,λ_=>⟨_,by rw[Wi a];exact Qv⟩,λ_ j d f=> ?_,λi hi=>by rw[H7 hi];exact h.oth i hi⟩;rw[MI b a];split
      · rename_i e;subst e;rw[show(orR (Z6 A p j) x.rd).own=(Z6 A p j).own from rfl,DF b a];exact h.sees b j d f
      · exact h.sees b j d f
theorem SeI.drop (h:SeI A0 A id p t obs []) (b:id≠p):SeI A0 (JU p A ob) id p t (obs++[ob]) []:=by
  unfold JU;by_cases a:p=0
  · rw[if_pos a];exact⟨h.tr,λq=>absurd a q,λq=>absurd a q,h.oth⟩
  · rw[if_neg a];obtain⟨tp,c⟩:=h.par a;refine⟨by rw[Fo b];exact h.tr,λ_=>⟨_,by rw[Tz c];exact Qv⟩,λ_ j f d=> ?_,λi hi=>by rw[Fo hi];exact h.oth i hi⟩;rw[Lq (λe=>d (by simp [e]))];exact h.sees a j f λq=>d (by simp [q])
theorem SeI.give (h:SeI A0 A id p t obs gv) (d:id≠p) (k:KD):SeI A0 (DR A0 p t A k) id p t obs (gv++[k]):=by
  have up:SeI A0 A id p t obs (gv++[k]):=⟨h.tr,h.par,λa j c f=>h.sees a j (λq=>c (by simp [q])) f,h.oth⟩;unfold DR;cases g:t.lv k with
  | none=> exact up
  | some x=>
    dsimp only;split
    · exact up
    · split
      · rename_i a;exact⟨h.tr,λq=>absurd a q,λq=>absurd a q,h.oth⟩
      · rename_i a;obtain⟨tp,b⟩:=h.par a;refine⟨by rw[H7 d];exact h.tr,λ_=>⟨_,by rw[Wi b];exact Qv⟩,λ_ j c f=> ?_,λi hi=>by rw[H7 hi];exact h.oth i hi⟩;rw[MI a b,if_neg (λe=>c (by simp [e]))];exact h.sees a j (λq=>c (by simp [q])) f
theorem SeI.ag {x:LfA} (h:SeI A0 A id p t obs gv) (b:p≠0) (f:AgL A) (g:k∉gv) (i:(WY A0 p k).length=64) (hd:k.1∈obs->x.wr=BitVec.allOnes 64):AgA (gvX (Z6 A p k) (D6 A0 p k x) x.wr):= λj c l=>by
  have a:(Z6 A p k).wr.getLsbD j=false/\x.wr.getLsbD j=false:=by
    have :((Z6 A p k).wr ||| x.wr).getLsbD j=false:=l
    rw[BitVec.getLsbD_or,Bool.or_eq_false_iff]at this;exact this
  obtain⟨tp,d⟩:=h.par b
  have m:k.1∉obs:= λq=>by
    have e:=a.2;rw[hd q,BitVec.getLsbD_allOnes]at e;simp [c]at e
  show(Z6 A p k).base[j]? =(D6 A0 p k x)[j]?;rw[f.tou j c a.1,DF b d,h.sees b k g m];exact(mgB_bit c i a.2).symm
def ItS (g:Bs->Option Value) (gf:Nat) (caps:List Value) (It:Th):Prop:= ∀(l:Nat) (J:List Bs->Th) (X:Th) (w:World),Sat w [J [],It,X]->Hm prog l Xo (okC g) J->Calls prog gf (.func (.yield l) #[] #[]::caps).toArray w (Ret λ_ w'=> ∃ks,AllC g ks/\Sat w' [J ks,It,X])
def JS (l D b:Nat) (rec:Loop) (ks:List Bs):Th:=Cp λv:Value=>starL [JC l rec,WC D,Q6 b [v],rowT stC v ks]
theorem appS {F:Th} (N:Sat w [It,F]) (p:Q8 prog gf=true) (C:ItS g gf caps It) (q: ∀ks,Came g ks->ks.length<=100000000000):
    Calls prog 206 [.slice none 0 0,.func (.func gf) #[] caps.toArray].toArray w (Ret λv w'=> ∃ks,AllC g ks/\Sat w' [rowT stC v ks,It,F]):=by
 refine HC func206 U ntmps206 U ?_;refine Qe<|Qa<|XL N U U U ?_;intro b1 Y O;refine Qd U U<|Qf<|Qc<|Qe<|Qe<|Qa<|Qb U U<|Qf<|Qc<|Qx<|H4 (caps:=caps) U p ?_;intro rec r s D E G t u;have P:=((O.enter_loop rec).row_nil stC);have H:=P.sp [1,2,3,0] U;have I:=Sat.ex_intro (f:= λv:Value=>starL [JC _ _,WC _,Q6 _ [v],rowT stC v []]) _ (Sat.fold (As:=[JC _ _,WC _,Q6 _ [_],rowT stC _ []]) H);refine(C _ (JS _ _ _ _) _ _ (I.join U) ?_).mono ?_
 ·intro ks k R w2 J K;obtain⟨v,l⟩:=K.ex;have b:=l.flat;dsimp only[Dg,Df]at b;have L:=q _ J;simp only[List.length_append,List.length_cons,List.length_nil]at L;refine Mn (b.loop 0 rfl) r s D E G t u rfl (by intro o x c;simp at x;subst x;simp) (by intro o x c;simp at x;rcases x with rfl | rfl | rfl | rfl | rfl<;> simp) ?_
  intro QA Q;refine Qd U U<|Qf<|Q _ _ (b.loop 0 U) ?_;intro QB S;have T:v.oneCell'=true:=b.own_one 3 U;have d:=b.loop_put 0 U (rec':={rec with state:= .busy});dsimp only[List.set]at d
  refine Qo U R3 (d.cell 2 U U) U<|Qb U U<|X8 stC [k] d U underlying83 ifz_9 U U U U (by rfl) rfl ?_;intro b3 V h;refine Zx stC 4 h U U U (h.rd 0 U (by simp)) underlying83 underlying83 (by intro k W;cases W) qdy U (by simp;omega) U (by simp;omega) ?_;intro v4 Z j;dsimp only[List.set]at j;have y:v4.oneCell'=true:=j.own_one 4 U;refine QK j U U sz_83 y (i:=3) U (by simp) ?_;intro w5 m;dsimp only[List.set]at m;refine Qf<|S _ _ (m.loop 1 U) ?_;have z:=m.loop_put 1 U (rec':=rec);dsimp only[List.set]at z;exact(Sat.ex_intro (f:= λv:Value=>starL [JC _ _,WC _,Q6 _ [v],rowT stC v (ks++[k])]) v4 (Sat.fold (As:=[JC _ _,WC _,Q6 _ [_],rowT stC _ _]) (z.pick [1,2,3,4,5] U)))
 ·rintro e V ⟨v0,rfl,ks,A,l⟩;obtain⟨v,b⟩:=l.ex;have d:=b.flat;dsimp only[Dg,Df]at d;refine⟨⟨v0,rfl⟩,rec,d.loop 0 U,by rw[r];simp,s, ?_⟩;intro a B M;have h:=d.loop_put 0 U (rec':={rec with state:= .exhausted});dsimp only[List.set]at h
  obtain⟨X,j⟩:=h.defer_put (o:= .deferred none) 1 rfl;dsimp only[List.eraseIdx]at j;refine M5 (n:=13) (by rw[B];exact t) (by rw[B];exact u) M U R3 (h.cell 2 U U) X U U U ?_;exact⟨_,U,ks,A,j.pick [2,3,4] U⟩
def keysTS (c b:Nat) (g:Bs->Option Value):Th:=starL [Q6 c [.map (some b)],Q4 Xo b g]
theorem itS (c b:Nat) (g:Bs->Option Value):ItS g 154 [ptrV c 0] (keysTS c b g):= λl J X w d f=>by
  have a:=(d.perm (List.Perm.swap _ _ _)).flat;dsimp only[Dg,Df]at a;refine(kd_it (a.reorder [2,0,1,3] U) f).mono λe w' h=>h.mono λv w' ⟨ks,i,j⟩=>⟨ks,i, ?_⟩;exact(Sat.fold (As:=[Q6 c [.map (some b)],Q4 Xo b g]) (j.reorder [1,2,0,3] U)).perm (List.Perm.swap _ _ _)
theorem sortS0 {l:List Bs} (a:Sat w (rowT stC v l::As)) (b:l.length<4611686018427387904):Calls prog 82 #[v] w (Ret λu w'=>u= .tuple #[]/\Sat w' (rowT stC v (Wk l)::As)):=
  TM Tryz.slices_Sort_string Tryz.slices_Sort_string_none a b
theorem colS {F:Th} (f:Sat w [It,F]) (a:Q8 prog gf=true) (d:ItS g gf caps It) (b: ∀ks,Came g ks->ks.length<=100000000000):
    Calls prog 153 #[.func (.func gf) #[] caps.toArray] w (Ret λv w'=> ∃ks,AllC g ks/\Sat w' [rowT stC v ks,It,F]):=by
 refine Qn func153 U ntmps153 U ?_;refine Qe<|Qa<|Qd U U<|Qf<|Qc<|Qe<|Qa<|Qb U U<|Qw cal_206 U (appS (f.sp [0] U) a d b) U ?_;rintro _ i ⟨ks,e,c⟩;replace c:=c.jn U U;have h:=c.own_one 0 U;exact Qd U U (Qf (Qc (Qu (QJ (.inr U) U U (⟨_,U,ks,e,c⟩)))))
theorem M9 {F:Th} (h:Sat w [It,F]) (b:Q8 prog gf=true) (e:ItS g gf caps It) (a: ∀ks,Came g ks->ks.length<=100000000000):
    Calls prog 108 #[.func (.func gf) #[] caps.toArray] w (Ret λv w'=> ∃ks,AllC g ks/\Sat w' [rowT stC v (Wk ks),It,F]):=by
 refine Qn func108 U ntmps108 U ?_;refine Qe<|Qa<|Qd U U<|Qf<|Qc<|Qe<|Qa<|Qb U U<|Qw cal_153 U (colS (h.sp [0] U) b e a) U ?_;rintro _ k ⟨ks,c,d⟩;replace d:=d.jn U U;have i:=d.own_one 0 U;have j:=a _ (Came.of_all c);refine Qd U U<|Qf<|Qc<|Qe<|Qa<|Qb U U<|Qw qfi U (sortS0 (d.sp [0] U) (by omega)) U ?_;rintro _ w2 ⟨rfl,f⟩;replace f:=f.jn U U;exact Qf (Qc (Qe (Qa (Qb U U (Qd U U (Qf (Qc (Qu (QJ (.inr U) U U (⟨_,U,ks,c,f⟩))))))))))
section
variable {w:World} {As:List Th}
theorem EL {T:Int->Option TrD} {t:TrD} (a:Sat w As) (j:Nat) (b:As[j]? =some (Xw Gi T)) (c:T i=some t) (d:t.lv k=some x) (q:Nat) (e:(lfV x)[q]? =some v):w.cell? ⟨x.ad,q,none⟩=some v:=by
  have f:=W3 (a.pull j b) c;have g:=Ue (f.perm ((List.Perm.cons _ (List.Perm.swap _ _ _)).trans (List.Perm.swap _ _ _))) d;exact g.cell 0 U e
theorem KW {t:TrD} (a:Sat w As) (j:Nat) (c:As[j]? =some (WB b L)) (d:L.tr i=some t) (q:Nat) (e:(trV t)[q]? =some v):w.cell? ⟨t.ad,q,none⟩=some v:=by
  have f:=Zo (a.pull j c);have g:=W3 (f.pull 3 U) d;exact g.cell 0 U e
theorem SH {t:TrD} (a:Sat w As) (j:Nat) (c:As[j]? =some (WB b L)) (d:L.tr i=some t) (e:t.lv k=some x) (q:Nat) (f:(lfV x)[q]? =some v):w.cell? ⟨x.ad,q,none⟩=some v:=
  EL (Zo (a.pull j c)) 3 U d e q f
end
noncomputable def H8 (sp mp mt ms:Nat):LvD:=⟨sp,mp,mt,ms,λ_=>0,λ_=>none,0,λ_=>false⟩
def MY:LvA:=⟨λ_=>zer,λ_=>none⟩
theorem qcy {sp:Nat}:LvI 0 (H8 sp mp mt ms) (λ_=>none)/\QC (H8 sp mp mt ms) (λ_=>none)=MY/\AliveLe (λ_=>none) 0/\SzLe (H8 sp mp mt ms) 0/\DrA MY:=by
  have a: ∀p,Xx (H8 sp mp mt ms) p=0:= λp=>by cases p<;>rfl
  have b:QC (H8 sp mp mt ms) (λ_=>none)=MY:=rfl;refine⟨⟨⟨λs c=>⟨0,UT (f:= λ_=>0) (λp=>by rw[a]) (Mg c),rfl⟩,λs x h=>by cases h⟩,⟨rfl,λ_=>0,λ_=>Nat.le_refl _,λi t h=>by cases h⟩, ?_⟩,b,⟨[],by simp,λj h=>absurd U h⟩,⟨[],by simp,λk h=>absurd U h,λi t k x h=>by cases h⟩,λi t k x h=>by cases h⟩;intro i t k x h;cases h
theorem Il {p:Nat} (h:Sat w (Q6 b [ptrV p 0,.map (some mp),.map (some mt),intV 0,.map (some ms)]::Q4 X7 mp (λ_=>none)::Q4 QY mt (λ_=>none)::Xw Gi (λ_:Int=>none)::Q4 QY ms (λ_=>none)::As)):
    Sat w (Q6 b [ptrV (H8 p mp mt ms).sp 0,.map (some (H8 p mp mt ms).mp),.map (some (H8 p mp mt ms).mt),intV (H8 p mp mt ms).cur,.map (some (H8 p mp mt ms).ms)]::Q4 X7 (H8 p mp mt ms).mp (ZU (H8 p mp mt ms).pres)::Q4 QY (H8 p mp mt ms).mt (XM TrD.ad (H8 p mp mt ms).tr)::Xw Gi (H8 p mp mt ms).tr::Q4 QY (H8 p mp mt ms).ms (YA (H8 p mp mt ms).sh)::As):=by
  have a:ZU (H8 p mp mt ms).pres= λ_=>none:=OY;have c:YA (H8 p mp mt ms).sh= λ_=>none:=boG_nil;rw[a,c];exact h
theorem qc5 {p:Nat} {F:Th} (a:Sat w [F]):
    Calls prog 59 #[ptrV p 0] w (Ret λv w'=> ∃b mp mt ms,v=ptrV b 0/\Sat w' [WB b (H8 p mp mt ms),F]):=by
 refine Qn func59 U ntmps59 U ?_;refine Qe<|Qa<|Qd U U<|Qf<|Qc<|Qe<|Qa<|Qb U U<|XS X7 a U ?_;intro mp h c;refine XS QY c U ?_;intro mt w2 d;refine XS QY d U ?_;intro ms i e;refine Bz (vs':=[ptrV p 0,.map (some mp),.map (some mt),intV 0,.map (some ms)]) U MQ asz_144 zr_144 U U U<|XL e U U U ?_;intro b j f;refine Qd U U<|Qf<|Qc<|Qu<|QJ (.inr U) U U ?_;have g:=Bh (κ:=Int) Gi (f.pick [0,3,2,1,4] U);exact⟨_,U,b,mp,mt,ms,U,Xq (L:=H8 p mp mt ms) (Il (g.reorder [1,2,3,0,4,5] U))⟩
def allR (y:LfA):LfA:={y with rd:=y.rd ||| (BitVec.allOnes 64&&& ~~~y.wr)}
open Classical in
noncomputable def Ct (id:Int) (ob:Bs) (A:LvA) (p:Int):LvA:= if id≠0/\0<=p/\p<256 then Wj A id (ob,p) (allR (Z6 A id (ob,p)))else A
def cpC (A:LvA) (id:Int) (ob:Bs) (p:Int):Bs:= if 0<=p/\p<256 then WY A id (ob,p)else zer
noncomputable def GV (id:Int) (A:LvA) (q:KD×Bs):LvA:= if id=0 then{A with pres:=VN A.pres q.1 q.2}else Wj A id q.1 (Cw (Z6 A id q.1) q.2)
theorem ON (a:id≠0->A.tr id=some t) (j:KD):WY (Ct id ob A p) id j=WY A id j:=by
  unfold Ct;split
  · rename_i h;rw[MI h.1 (a h.1)];split
    · rename_i e;subst e;rw[show(allR (Z6 A id (ob,p))).own=(Z6 A id (ob,p)).own from rfl,DF h.1 (a h.1)]
    · rfl
  · rfl
theorem cpRd_tr (a: ∃t,A.tr id=some t): ∃t,(Ct id ob A p).tr id=some t:=by
  unfold Ct;split
  · obtain⟨t,a⟩:=a;exact⟨_,by rw[Wi a];exact Qv⟩
  · exact a
def NoI (ex:Int->Int) (l:List Int):Prop:= ∀j,j≠0->ex j=(l.count j:Int)
theorem NoI.nn {ex:Int->Int} (h:NoI ex l):NN ex:= λj a=>by rw[h j a];omega
theorem NoI.add {ex:Int->Int} (h:NoI ex l):NoI (λj=>ex j+dl s j) (l++[s]):= λj a=>by
  show ex j+dl s j=_;rw[h j a,List.count_append];by_cases e:j=s
  · subst e;rw[WE];simp
  · have b: ¬s=j:= λq=>e q.symm;rw[JE e];simp [List.count_cons,b]
theorem NoI.ge {ex:Int->Int} (h:NoI ex (s::l)) (a:s≠0):1<=ex s:=by
  rw[h s a];simp;omega
theorem NoI.tail {ex:Int->Int} (h:NoI ex (s::l)):NoI (λj=>ex j -dl s j) l:= λj a=>by
  show ex j -dl s j=_;rw[h j a];by_cases e:j=s
  · subst e;rw[WE];simp
  · have b: ¬s=j:= λq=>e q.symm;rw[JE e];simp [List.count_cons,b]
theorem qca (a:V 0=none):HX V s=refW V s:=by
  unfold refW;split
  · rename_i e;subst e;unfold HX;rw[a]
  · rfl
theorem LvX.held {ex:Int->Int} (h:LvX ex m L V) (d:s≠0->1<=ex s):XP V s:=by
  by_cases c:s=0
  · exact .inl c
  · obtain⟨n,a,b⟩:=h.ref.1 s c;have :=d c;exact .inr (h.ref.alive_of (by omega))
theorem Vp {ex:Int->Int} (h:LvX ex m L V) (a:NoI ex l) (b:XP V s):
    StepX ex m L V (λj=>ex j+dl s j) m 0 0 L (HX V s)/\NoI (λj=>ex j+dl s j) (l++[s])/\QC L (HX V s)=QC L V:=by
  rw[qca h.zero];obtain⟨d,e⟩:=h.refW b;exact⟨⟨d,rfl,λc q=>q.refW,λc q=>q,Pgs.ref⟩,a.add,e⟩
theorem Gt {ex:Int->Int} (h:LvX ex m L V) (a:NoI ex (s::l)):
    StepX ex m L V (λj=>ex j -dl s j) m 0 0 L (ZH V s)/\NoI (λj=>ex j -dl s j) l/\QC L (ZH V s)=QC L V:=by
  obtain⟨b,d⟩:=h.unr a.nn λe=>a.ge e;exact⟨⟨b,rfl,λc q=>q.unr,λc q=>q,Pgs.unr h.zero⟩,a.tail,d⟩
def FO (L:LvD) (ob:Bs) (p:Int):Int:= if 0<=p/\p<256 then L.pres (ob,p)else 0
def D9 (L:LvD) (ob:Bs) (p0:Int) (j:Nat):List Int:=(List.range j).map λq:Nat=>FO L ob (p0+(q:Int))
theorem TG:D9 L ob p0 (j+1)=D9 L ob p0 j++[FO L ob (p0+(j:Int))]:=by simp [D9,List.range_succ]
theorem HB:(D9 L ob p0 j).length=j:=by simp [D9]
theorem BS {ex:Int->Int} (h:LvX ex m L V) (a:NN ex) (ob:Bs) (p:Int):XP V (FO L ob p):=by
  unfold FO;split
  · exact h.aliveX a (.inl (ob,p))
  · exact .inl U
noncomputable def cpPf (p:KD->Int) (to:Bs) (base:Int) (l:List Int):Nat->(KD->Int)
  | 0=>p
  | q+1=>ZS (cpPf p to base l q) (to,base+(q:Int)) (l.getD q 0)
noncomputable def IM (A:LvA) (to:Bs) (base:Int) (f:Nat->Bs):Nat->LvA
  | 0=>A
  | q+1=>GV 0 (IM A to base f q) ((to,base+(q:Int)),f q)
theorem N2 (h:l[q]? =some s):l.drop q=s::l.drop (q+1):=by
  obtain⟨a,b⟩:=Za h;rw[List.drop_eq_getElem_cons a,b]
theorem Pn (h:l[q]? =some s):l.getD q 0=s:=by simp [List.getD,h]
theorem qey {n Fr:Nat} {F:Th} (hS:Sat w [WB b L,ZP L.sp n Fr V,F]) (hn:n+2000<=60000000000) (hI:LvI m L V) (hm:m<ZO) (ob to:Bs) (first cnt aa:Int) (hf: -2147483648<=first/\first<=2147483648) (ha: -2147483648<=aa/\aa<=2147483648) (hc: -2147483648<=cnt/\cnt<=300):
    Calls prog 115 #[ptrV b 0,intV 0,strV ob,intV first,intV cnt,strV to,intV aa] w (Ret λv w'=> ∃L' V' q,StepI m L V m 0 256 L' V'/\L'.pres=cpPf L.pres to (aa+max 0 (-aa)) (D9 L ob (first+max 0 (-aa)) q) q/\QC L' V'=IM (QC L V) to (aa+max 0 (-aa)) (λi=>Zm V ((D9 L ob (first+max 0 (-aa)) q).getD i 0)) q/\(max 0 (-aa)+(q:Int)=min cnt (256 -aa)\/(q=0/\min cnt (256 -aa)<=max 0 (-aa)))/\Sat w' [WB b L',ZP L'.sp (n+2000) Fr V',F]):=by
 refine Qn func115 U ntmps115 U ?_;refine Qe<|Qe<|Qa<|Qb U U<|Qb U U<|Qw Ge U (HU (hS.sp [0] U) 0) U ?_;rintro _ w1 ⟨rfl,j1⟩;replace j1:=j1.jn U U;refine QX U U<|Qf<|Qc<|Qh [6,5,4,3,2,1,0,27] U<|QR U (λh2=> ?_) (λh2=> ?_)
 ·exact absurd h2 (by simp [J5])
 refine Qt<|Qc<|Qe<|Qa<|Qb U U (qau U (by omega) (by omega) U ?_);refine Jn U U U<|Qb U U<|Qb U U<|H2 U U (by omega) (by omega) U ?_;refine H3 U U U<|Qd U U<|Qd U U<|Qf<|Qc<|Qh [6,5,3,2,1,0,14,15] U<|Qe<|Qa<|Qd U U<|Qf<|Qc<|Qe<|Qe<|Qa<|Qb U U<|Qd U U<|Qf<|Qc<|Qx ?_;have a4:=j1.row_nil inC;refine QU (λK0 E0 W0=> ∃(j:Nat) (V1:VS) (ex:Int->Int) (nv:Value),K0=((min cnt (256 -aa)) -(max 0 (-aa))).toNat -j/\E0=[(0,ptrV b 0),(1,intV 0),(2,strV ob),(3,intV first),(5,strV to),(6,intV aa),(14,intV (max 0 (-aa))),(15,intV (min cnt (256 -aa))),(16,nv),(17,intV ((max 0 (-aa))+(j:Int)))]/\Sat W0 [WB b L,ZP L.sp (n+j) Fr V1,rowT inC nv (D9 L ob (first+(max 0 (-aa))) j),F]/\(j<=256)/\(j=0\/(max 0 (-aa))+(j:Int)<=(min cnt (256 -aa)))/\(LvX ex m L V1)/\(NoI ex (D9 L ob (first+(max 0 (-aa))) j))/\(QC L V1=QC L V)/\(∀c,AliveLe V c->AliveLe V1 c)/\(Pgs V V1)) (L0:=[(0,_),(1,_),(2,_),(3,_),(5,_),(6,_),(14,_),(15,_),(16,_),(17,_)]) (((min cnt (256 -aa)) -(max 0 (-aa))).toNat) (Cc U U U U U U U U U U) ⟨0,V,λ_=>0,_,by omega,by simp,a4.pick [1,2,0,3] U,by omega,.inl U,hI,λ_ _=>rfl,rfl,λ_ q=>q,.refl⟩ ?_
 rintro _ _ w3 ⟨j,V1,ex,nv,rfl,rfl,I,ak,hj,f,g,u,x,y⟩;refine Qe<|Qe<|Qa<|Qb U U<|Qb U U<|Xa U U U<|Qf<|Qc<|Qs U (λh4=> ?_) (λh4=> ?_)
 ·refine Qt<|Qc<|Qh [17,16,15,14,6,5,3,2,1,0] U<|Qe<|Qx<|Qe<|Qa<|Qd U U<|Qf<|Qc<|Qe<|Qe<|Qa<|Qb U U<|Qb U U<|QE U U (by omega) (by omega) U ?_;refine Qd U U<|Qf<|Qc<|Qh [17,16,15,14,6,5,3,2,1,0,18,19] U<|Qe<|Qa<|Qb U U<|WU U U U<|Qb U U<|QZ 46 U (λP=> ?_) (λP=> ?_)
  ·refine Qk U U (det P)<|Qb U U<|Qk U U (det P)<|Xa U U U<|QF U (det P) U U<|Qf<|Qc<|Qh [17,16,15,14,6,5,3,2,1,0,18,19,49] U<|Qs U (λh6=> ?_) (λh6=> ?_)
   ·refine Qe<|Qa<|Qb U U<|Qb U U<|Zj U HY Vz Wo U U<|Xc I Wo U U ?_;intro kb wk7 W;refine QW W U U Xb U (by rfl) (i:=0) U (by decide) ?_;intro wk8 o;dsimp only[List.set]at o;clear W;replace o:=Zr (k:=(ob,first+((max 0 (-aa))+(j:Int)))) o
    refine Qf<|Qc<|Qh [17,16,15,14,6,5,3,2,1,0,18,20] U<|Qe<|Qe<|Qa<|Qb U U<|Xz U U U<|Qf<|Qc<|Qs U (λh9=> ?_) (λh9=> ?_)
    ·exact absurd U h9
    refine Qt<|Qc<|Qa<|Qb U U<|Qb U U ?_;refine XX U Xu Xb (by first | exact o.blk 0 U) (by first | decide | exact Xk U | (simp;done) | omega) U U ?_
    have J:=o.sp [1] U;refine Qw HD U (Vk J (hI.rank.ends hm) 0 (ob,first+((max 0 (-aa))+(j:Int)))) U ?_
    rintro _ am ⟨rfl,z⟩;replace z:=z.jn U U;clear J;clear o;rw[show XA L 0 (ob,first+((max 0 (-aa))+(j:Int)))=L.pres (ob,first+((max 0 (-aa))+(j:Int))) from UC U]
    refine Qd U U<|Qf<|Qc<|Qh [17,16,15,14,6,5,3,2,1,0,18] U<|Qe<|Qa<|Qb U U<|Qj U U<|Qg U XC U<|Qo U Xr (YJ z 0 U) U<|Qb U U ?_;have l:L.pres (ob,first+((max 0 (-aa))+(j:Int)))=FO L ob ((first+(max 0 (-aa)))+(j:Int)):=by unfold FO;rw[if_pos ⟨by omega,by omega⟩,Int.add_assoc]
    rw[l];refine Qw Vx U (M8 (z.sp [2] U) (by omega) (FO L ob ((first+(max 0 (-aa)))+(j:Int)))) U ?_
    rintro _ ao ⟨e0,rfl,Q⟩;replace Q:=Q.jn U U;refine Qf<|Qc<|Qh [17,16,15,14,6,5,3,2,1,0,18] U<|Qa<|Qb U U<|Qb U U<|X8 inC [FO L ob ((first+(max 0 (-aa)))+(j:Int))] Q U underlying24 Uf U U U U (by first | rfl | simp [RowC.cells,Jz,X6]) U ?_
    intro ap aq X;refine Zx inC 4 X U U U (X.rd 0 U (by simp)) underlying24 underlying24 (by intro k Y;cases Y) H0 U (by simp only[HB,List.length_cons,List.length_nil];omega) U (by simp only[HB,List.length_cons,List.length_nil];omega) ?_;intro a5 ar A;dsimp only[List.set]at A;have a6:a5.oneCell'=true:=A.own_one 4 U;refine Qd U U<|Qf<|Qm<|Qc<|Qh [17,15,14,6,5,3,2,1,0,16] U<|Qa<|Qb U U<|QE U U (by omega) (by omega) U ?_;refine Qd U U<|Qf ?_;obtain⟨a,d,p⟩:=Vp f g (BS f g.nn ob ((first+(max 0 (-aa)))+(j:Int)))
    rw[<-TG]at d A;exact Q5 (L1:=[(0,_),(1,_),(2,_),(3,_),(5,_),(6,_),(14,_),(15,_),(16,_),(17,intV ((max 0 (-aa))+(j:Int)+1))]) (Cc U U U U U U U U U U) (k1:=((min cnt (256 -aa)) -(max 0 (-aa))).toNat -(j+1)) (by omega) ⟨j+1,_,_,_,rfl,(by rw[show(max 0 (-aa))+((j+1:Nat):Int)=(max 0 (-aa))+(j:Int)+1 by omega]),A.pick [2,1,4,5] U,by omega,by omega,a.inv,d,p.trans u,λc q=>a.al c (x c q),y.trans a.pg⟩
   refine Qt<|Qc<|Qe<|Qa<|Qb U U<|Qj U U<|Qg U XC U<|Qo U Xr (YJ I 0 U) U<|Qb U U ?_;have l:FO L ob ((first+(max 0 (-aa)))+(j:Int))=0:=by unfold FO;rw[if_neg (by omega)]
   refine Qw Vx U (M8 (I.sp [1] U) (by omega) (0)) U ?_;rintro _ au ⟨e0,rfl,B⟩;replace B:=B.jn U U;rw[show HX V1 0=HX V1 (FO L ob ((first+(max 0 (-aa)))+(j:Int)))by rw[l]]at B
   refine Qf<|Qc<|Qh [17,16,15,14,6,5,3,2,1,0,18] U<|Qa<|Qb U U<|Qb U U<|X8 inC [0] B U underlying24 Uf U U U U (by first | rfl | simp [RowC.cells,Jz,X6]) U ?_
   intro av aw Z;refine Zx inC 3 Z U U U (Z.rd 0 U (by simp)) underlying24 underlying24 (by intro k Y;cases Y) H0 U (by simp only[HB,List.length_cons,List.length_nil];omega) U (by simp only[HB,List.length_cons,List.length_nil];omega) ?_;intro a7 ax C;dsimp only[List.set]at C;have a8:a7.oneCell'=true:=C.own_one 3 U;refine Qd U U<|Qf<|Qm<|Qc<|Qh [17,15,14,6,5,3,2,1,0,16] U<|Qa<|Qb U U<|QE U U (by omega) (by omega) U ?_;refine Qd U U<|Qf ?_;obtain⟨a,d,p⟩:=Vp f g (BS f g.nn ob ((first+(max 0 (-aa)))+(j:Int)))
   rw[show D9 L ob (first+(max 0 (-aa))) j++[0]=D9 L ob (first+(max 0 (-aa))) (j+1)by rw[TG,l]]at C
   rw[<-TG]at d;exact Q5 (L1:=[(0,_),(1,_),(2,_),(3,_),(5,_),(6,_),(14,_),(15,_),(16,_),(17,intV ((max 0 (-aa))+(j:Int)+1))]) (Cc U U U U U U U U U U) (k1:=((min cnt (256 -aa)) -(max 0 (-aa))).toNat -(j+1)) (by omega) ⟨j+1,_,_,_,rfl,(by rw[show(max 0 (-aa))+((j+1:Nat):Int)=(max 0 (-aa))+(j:Int)+1 by omega]),C.pick [2,1,3,4] U,by omega,by omega,a.inv,d,p.trans u,λc q=>a.al c (x c q),y.trans a.pg⟩
  refine Qi U U (QH P) U<|Qi U U (QH P) U<|Q9 U (QH P) U U<|Qf<|Qc<|Qh [17,16,15,14,6,5,3,2,1,0,18,19,49] U<|QM U<|Qt<|Qc<|Qe<|Qa<|Qb U U<|Qj U U<|Qg U XC U<|Qo U Xr (YJ I 0 U) U<|Qb U U ?_;have l:FO L ob ((first+(max 0 (-aa)))+(j:Int))=0:=by unfold FO;rw[if_neg (by omega)]
  refine Qw Vx U (M8 (I.sp [1] U) (by omega) (0)) U ?_;rintro _ ay ⟨e0,rfl,D⟩;replace D:=D.jn U U;rw[show HX V1 0=HX V1 (FO L ob ((first+(max 0 (-aa)))+(j:Int)))by rw[l]]at D
  refine Qf<|Qc<|Qh [17,16,15,14,6,5,3,2,1,0,18] U<|Qa<|Qb U U<|Qb U U<|X8 inC [0] D U underlying24 Uf U U U U (by first | rfl | simp [RowC.cells,Jz,X6]) U ?_
  intro az b0 a0;refine Zx inC 3 a0 U U U (a0.rd 0 U (by simp)) underlying24 underlying24 (by intro k Y;cases Y) H0 U (by simp only[HB,List.length_cons,List.length_nil];omega) U (by simp only[HB,List.length_cons,List.length_nil];omega) ?_;intro a9 b1 E;dsimp only[List.set]at E;have ab:a9.oneCell'=true:=E.own_one 3 U;refine Qd U U<|Qf<|Qm<|Qc<|Qh [17,15,14,6,5,3,2,1,0,16] U<|Qa<|Qb U U<|QE U U (by omega) (by omega) U ?_;refine Qd U U<|Qf ?_;obtain⟨a,d,p⟩:=Vp f g (BS f g.nn ob ((first+(max 0 (-aa)))+(j:Int)))
  rw[show D9 L ob (first+(max 0 (-aa))) j++[0]=D9 L ob (first+(max 0 (-aa))) (j+1)by rw[TG,l]]at E
  rw[<-TG]at d;exact Q5 (L1:=[(0,_),(1,_),(2,_),(3,_),(5,_),(6,_),(14,_),(15,_),(16,_),(17,intV ((max 0 (-aa))+(j:Int)+1))]) (Cc U U U U U U U U U U) (k1:=((min cnt (256 -aa)) -(max 0 (-aa))).toNat -(j+1)) (by omega) ⟨j+1,_,_,_,rfl,(by rw[show(max 0 (-aa))+((j+1:Nat):Int)=(max 0 (-aa))+(j:Int)+1 by omega]),E.pick [2,1,3,4] U,by omega,by omega,a.inv,d,p.trans u,λc q=>a.al c (x c q),y.trans a.pg⟩
 refine QQ<|Qp<|Qp<|Qy<|Qc<|Qh [16,14,6,5,1,0] U<|Qe ?_;obtain⟨an,cn,ac,_⟩:=I.own_shape 2 rfl;obtain rfl:=ac;refine Qa<|Qb U U ?_
 first | refine Xl underlying24 U U ?_ | refine Wa 2 I underlying24 U U U ?_
 refine Qb U U<|Qf<|Qc<|Qx ?_;refine QU (λK0 E0 W0=> ∃(q:Nat) (L1:LvD) (V2:VS) (ex2:Int->Int),K0=j -q/\E0=[(0,ptrV b 0),(1,intV 0),(5,strV to),(6,intV aa),(14,intV (max 0 (-aa))),(85,.slice an (D9 L ob (first+(max 0 (-aa))) j).length cn),(86,intV ((D9 L ob (first+(max 0 (-aa))) j).length:Int)),(87,intV (q:Int))]/\Sat W0 [WB b L1,ZP L1.sp (n+j+5*q) Fr V2,rowT inC (.slice an (D9 L ob (first+(max 0 (-aa))) j).length cn) (D9 L ob (first+(max 0 (-aa))) j),F]/\(q<=j)/\(LvX ex2 m L1 V2)/\(NoI ex2 ((D9 L ob (first+(max 0 (-aa))) j).drop q))/\(L1.sp=L.sp)/\(L1.pres=cpPf L.pres to (aa+(max 0 (-aa))) (D9 L ob (first+(max 0 (-aa))) j) q)/\(QC L1 V2=IM (QC L V) to (aa+(max 0 (-aa))) (λq=>Zm V ((D9 L ob (first+(max 0 (-aa))) j).getD q 0)) q)/\(∀c,AliveLe V c->AliveLe V2 c)/\(∀c,SzLe L c->SzLe L1 (c+q))/\(Pgs V V2)) (L0:=[(0,_),(1,_),(5,_),(6,_),(14,_),(85,_),(86,_),(87,_)]) (j) (zb8 U U U U U U U U) ⟨0,L,V1,ex,rfl,rfl,I.pick [0,1,2,3] U,by omega,f,g,rfl,rfl,u,x,λ_ h=>h,y⟩ ?_
 rintro _ _ b2 ⟨q,L1,V2,ex2,rfl,rfl,G,hq,R,e,a1,a2,K,M,N,O⟩;refine Qe<|Qa<|Xa U U U<|Qf<|Qc<|Qe<|Qs U (λad=> ?_) (λad=> ?_)
 ·obtain⟨s,hs⟩: ∃s,(D9 L ob (first+(max 0 (-aa))) j)[q]? =some s:=⟨_,XQ (by omega)⟩;have ae:(D9 L ob (first+(max 0 (-aa))) j).length=j:=HB;rw[N2 hs]at e;have a3:=R.held (s:=s) λh0=>e.ge h0
  refine Qt<|Qc<|Qe<|Qx<|Qe<|Qa<|Qb U U<|Xj inC 2 q G U U U (by first | rfl | omega) hs WZ U ?_
  intro bx22 capx22 S;refine Zh 2 q 0 G U S U U hs QL U U<|Qd U U<|Qd U U<|Qf<|Qc<|Qh [87,86,85,14,6,5,1,0,22,23] U<|Qe<|Qa<|Qb U U<|Qb U U<|Qb U U<|Qb U U<|Qb U U<|QE U U (by omega) (by omega) U ?_;refine Qb U U<|QE U U (by omega) (by omega) U ?_;refine Zj U HY Vz Wo U U<|Qb U U<|Qw AE U (S6 (G.sp [0,1] U) (by omega) R e.nn a3 (to,(aa+(max 0 (-aa)))+(q:Int))) U ?_;rintro _ b3 ⟨L2,V3,r,af,ag,H⟩;replace H:=H.jn U U;refine Qf<|Qc<|Qh [87,86,85,14,6,5,1,0,23] U<|Qa<|Qb U U<|Qj U U<|Qg U XC U<|Qo U Xr (YJ H 0 U) U<|Qb U U<|Qw Ba U (Gx (H.sp [1] U) (by omega) s) U ?_;rintro _ b4 ⟨e0,rfl,T⟩;replace T:=T.jn U U;refine Qf<|Qm<|Qc<|Qh [87,86,85,14,6,5,1,0] U<|Qa<|QE U U (by omega) (by omega) U ?_;refine Qb U U<|Qf ?_;obtain⟨t,ah,ai⟩:=Gt r.inv e;exact Q5 (L1:=[(0,_),(1,_),(5,_),(6,_),(14,_),(85,_),(86,_),(87,intV ((q+1:Nat):Int))]) (zb8 U U U U U U U U) (k1:=j -(q+1)) (by omega) ⟨q+1,_,_,_,rfl,rfl,T.pick [1,0,2,3] U,by omega,t.inv,ah,t.sp.trans (r.sp.trans a1),by rw[ag,a2,cpPf,Pn hs],by rw[ai,af,K,IM];simp only[GV,if_true,Pn hs];rw[(O s a3).2],λc q2=>t.al _ (r.al _ (M c q2)),λc q2=>by have :=t.sz _ (r.sz _ (N c q2));exact this.mono (by omega),(O.trans r.pg).trans t.pg⟩
 refine QQ<|Qp<|Qp<|Qy<|Zb (.inl U) U ?_;have ae:(D9 L ob (first+(max 0 (-aa))) j).length=j:=HB
 have aj:q=j:=by omega
 subst aj;have b5:q<=256:=by omega
 exact⟨_,rfl,L1,V2,q,⟨R.ext λi hi=>by rw[e i hi,List.drop_eq_nil_of_le (by rw[HB];omega)];rfl,a1,λc h=>(M c h).mono (by omega),λc h=>(N c h).mono (by omega)⟩,a2,K,by omega,(X3 (m:=n+2000) (by omega) (G.pick [1,0,3] U)).reorder [1,0,2] U⟩
section
variable {ex:Int→Int} {L L1 L':LvD} {V V1 V':VS} {id:Int} {t t1 t':TrD} {k:KD} {x y x1:LfD} {m:Nat}
theorem OW (c:LvX ex m L V) (a:L.tr id=some t) (e:t.lv k=some x) (i:y.base=x.base) (j:y.own=x.own) (l:AgA (WF V y)):
    LvX ex m (ZA L id t k y) V/\QC (ZA L id t k y) V=Wj (QC L V) id k (WF V y):=by
  generalize b:ZA L id t k y=L';have g:L'.pres=L.pres:=by subst b;rfl
  have d:L'.tr=QN L.tr id (some {t with lv:=QN t.lv k (some y)}):=by subst b;rfl
  have n: ∀q,Xx L' q=Xx L q:= λq=>by
    rw[HM (x:=y) g d a U,i,j];rw[HS (f:=Xx L) (v:=x.base) (by rw[XB a e];rfl),HS (by rw[XB a e];rfl)]
  have h:QC L' V=Wj (QC L V) id k (WF V y):=Hh g d a U λ_ _ _=>rfl;exact⟨⟨c.ref.fn n,by rw[d];exact c.rank.same (Jr a U),by rw[h];exact c.agree.put l⟩,h⟩
theorem CI (a:TouR L V id t k L1 V1 t1 x1) (b:L.tr id=some t) (f:LvX ex m L V) (g:NN ex) {rd:BitVec 64} (i: ∀j,j<64->wr.getLsbD j=false->x1.wr.getLsbD j=false):
    StepX ex m L V ex m 0 1 (ZA L1 id t1 k {x1 with rd:=rd,wr:=wr}) V1/\QC (ZA L1 id t1 k {x1 with rd:=rd,wr:=wr}) V1=Wj (QC L V) id k {Z6 (QC L V) id k with rd:=rd,wr:=wr}:=by
  obtain⟨d,l,n,o,s⟩:=a.invX b f g;obtain⟨p,r⟩:=OW (y:={x1 with rd:=rd,wr:=wr}) d (a.tr b) a.lv rfl rfl (λj e h=>(d.agree id _ k _ (Z1 (a.tr b)) (ZW a.lv)) j e (i j e h))
  refine⟨⟨p,a.sp,λc q=>(o c q).mono (by omega),λc q=>(a.sz b q).putOld (a.tr b) a.lv U U,a.pgs⟩, ?_⟩;rw[r,n,UF];congr 1;rw[<-l];rfl
theorem qge (a:TouR L V id t k L1 V1 t1 x1) (b:L.tr id=some t) (c:LvX ex m L V) (d:NN ex):
    StepX ex m L V ex m 0 1 (ZA L1 id t1 k {x1 with rd:=x1.rd ||| (BitVec.allOnes 64&&& ~~~x1.wr)}) V1/\QC (ZA L1 id t1 k {x1 with rd:=x1.rd ||| (BitVec.allOnes 64&&& ~~~x1.wr)}) V1=Wj (QC L V) id k (allR (Z6 (QC L V) id k)):=by
  obtain⟨l,f,n,o,p⟩:=a.invX b c d;obtain⟨g,i⟩:=CI a b c d (rd:=x1.rd ||| (BitVec.allOnes 64&&& ~~~x1.wr)) (wr:=x1.wr) λ_ _ h=>h
  have e:x1.wr=(Z6 (QC L V) id k).wr:=by rw[<-f];rfl
  have j:x1.rd=(Z6 (QC L V) id k).rd:=by rw[<-f];rfl
  refine⟨g, ?_⟩;rw[i,e,j];rfl
theorem orR_fin (a:TouR L V id t k L1 V1 t1 x1) (b:L.tr id=some t) (c:LvX ex m L V) (d:NN ex) (r:BitVec 64):
    StepX ex m L V ex m 0 1 (ZA L1 id t1 k {x1 with rd:=x1.rd ||| (r&&& ~~~x1.wr)}) V1/\QC (ZA L1 id t1 k {x1 with rd:=x1.rd ||| (r&&& ~~~x1.wr)}) V1=Wj (QC L V) id k (orR (Z6 (QC L V) id k) r):=by
  obtain⟨l,f,n,o,p⟩:=a.invX b c d;obtain⟨g,i⟩:=CI a b c d (rd:=x1.rd ||| (r&&& ~~~x1.wr)) (wr:=x1.wr) λ_ _ h=>h
  have e:x1.wr=(Z6 (QC L V) id k).wr:=by rw[<-f];rfl
  have j:x1.rd=(Z6 (QC L V) id k).rd:=by rw[<-f];rfl
  refine⟨g, ?_⟩;rw[i,e,j];rfl
end
