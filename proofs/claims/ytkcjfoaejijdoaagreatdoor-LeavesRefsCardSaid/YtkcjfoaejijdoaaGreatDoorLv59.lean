/- leaves: Merge, plain -/
import Derived.Test.YtkcjfoaejijdoaaGreatDoorLv55
import Derived.Test.YtkcjfoaejijdoaaGreatDoorLv33
import Derived.Test.YtkcjfoaejijdoaaGreatDoorSh7
import Derived.Test.YtkcjfoaejijdoaaGreatDoorFw
import Derived.Test.YtkcjfoaejijdoaaGreatDoorLv51
import Derived.Shelf.Spec.TrailingZeros
set_option linter.unusedSectionVars false
set_option linter.unusedVariables false
set_option maxRecDepth 100000
set_option maxHeartbeats 80000000000
namespace Go.Proofs.YtkcjfoaejijdoaaGreatDoor
open Go.RowKit M
variable [Inhabited SlW]
theorem Gn: ∀{hs:List Int},hs.Pairwise (· < ·)→ ∀{q:Int} {i:Nat} {s:Int},hs[i]? =some s→(i<hs.countP (fun x=>decide (x<q))↔s<q)
  | [],_,q,i,s,hi=> by simp at hi
  | a::l,h,q,i,s,hi=> by
    obtain⟨ha,hl⟩:=List.pairwise_cons.1 h
    by_cases e:a<q
    · rw[List.countP_cons_of_pos (by simpa using e)]
      cases i with
      | zero=> simp at hi; subst hi; exact⟨fun _=>e, fun _=> by omega⟩
      | succ i=>
        have :=Gn hl (q:=q) (i:=i) (s:=s) (by simpa using hi)
        omega
    · rw[List.countP_cons_of_neg (by simpa using e)]
      have h0:l.countP (fun x=>decide (x<q))=0:=List.countP_eq_zero.2 fun x hx=> by
        have :=ha x hx
        simp;omega
      rw[h0]
      have hs: ¬s<q:= by
        cases i with
        | zero=> simp at hi;omega
        | succ i=>
          have :=ha s (List.mem_of_getElem? (by simpa using hi))
          omega
      exact⟨fun h=>absurd h (by omega), fun h=>absurd h hs⟩
theorem Ve {hs:List Int} (h:hs.Pairwise (· < ·)) {i j:Nat} {s t:Int} (hi:hs[i]? =some s) (hj:hs[j]? =some t):(i<j↔s<t):= by
  obtain⟨h1,e1⟩:=XR hi
  obtain⟨h2,e2⟩:=XR hj
  have hp:=List.pairwise_iff_getElem.1 h
  constructor
  · intro q; have :=hp i j h1 h2 q;omega
  · intro q
    rcases Nat.lt_trichotomy i j with r | r | r
    · exact r
    · subst r;omega
    · have :=hp j i h2 h1 r;omega
theorem Gm {hs:List Int} (h:hs.Pairwise (· < ·)):hs.Nodup:=h.imp fun h=> by omega
theorem U2 {hs:List Int} (h:hs.Pairwise (· < ·)) {i:Nat} {x s:Int} (hi:hs[i]? =some x):s∈hs.eraseIdx i↔s∈hs∧s≠x:= by
  constructor
  · intro hm
    refine⟨List.mem_of_mem_eraseIdx hm, fun e=> ?_⟩
    subst e
    obtain⟨j,hj⟩:=List.mem_iff_getElem?.1 hm
    rw[List.getElem?_eraseIdx]at hj
    split at hj
    · have :=(Ve h hj hi).1 (by assumption);omega
    · have :=(Ve h hi hj).1 (by omega);omega
  · rintro⟨hm,hne⟩
    obtain⟨j,hj⟩:=List.mem_iff_getElem?.1 hm
    rw[List.mem_iff_getElem?]
    by_cases e:j<i
    · exact⟨j, by rw[List.getElem?_eraseIdx,if_pos e]; exact hj⟩
    · have e2:j≠i:= fun q=> by subst q; rw[hi]at hj; cases hj; exact hne U
      exact⟨j -1, by rw[List.getElem?_eraseIdx,if_neg (by omega), show j -1+1=j by omega]; exact hj⟩
theorem HeldL.erase {m c:Nat} {L L':LvD} {V V':VS} {hs:List Int} {i:Nat} {x y:Int} (h:HeldL L hs) (hI:LvI m L V) (hsw:SwR m c L L' V V' x y (fun _=>True)) (hne:y≠x) (hi:hs[i]? =some x) (hy:y=0∨y∈hs):HeldL L' (hs.eraseIdx i):= by
  obtain⟨h1,h2⟩:=hsw.all hne hI
  refine⟨fun s=> ?_,h.2.sublist (List.eraseIdx_sublist _ _)⟩
  rw[U2 h.2 hi,h.1,←Wb hI s,←Wb hsw.inv s]
  rcases h2 s with e | e
  · rw[e]
  · subst e
    rcases hy with rfl | hy
    · rw[hI.zero,hsw.inv.zero]; simp
    · have h3:V s≠none:=(Wb hI s).2 ((h.1 s).1 hy)
      have h4:=(hsw.aliveY hI hne (.inr h3)).resolve_left ((h.1 s).1 hy).1
      exact⟨fun _=>h4, fun _=>⟨h3,hne⟩⟩
theorem HeldL.same {L L':LvD} {hs:List Int} (h:HeldL L hs) (hp:L'.pres=L.pres) (hT:L'.tr=L.tr):HeldL L' hs:= by
  have e: ∀p,QJ L' p=QJ L p:= fun p=> by cases p<;> simp [QJ,hp,hT]
  exact⟨fun s=> by rw[h.1 s]; simp only[e],h.2⟩
def Dist (V:VS) (hs:List Int):Prop:= ∀s t,s∈hs→t∈hs→XH V s≠zer∧(t<s→XH V t≠XH V s)
structure MrI (m c:Nat) (L L1:LvD) (V V1:VS) (hs0 hs:List Int) (j:Nat):Prop where
  inv:LvI m L1 V1
  sp:L1.sp=L.sp
  ab:Q1 L1 V1=Q1 L V
  sz:SzLe L1 c
  held:HeldL L1 hs
  sub: ∀s∈hs,s∈hs0
  len:hs.length≤hs0.length
  good:(j=0∧L1.cur=L.cur)∨(1≤j∧1≤L1.cur∧L1.cur≤1152921504606846976)
  cnt:1≤j→j+(hs.length -hs.countP (fun x=>decide (x<L1.cur+1)))≤hs0.length
  dist:L.cur=0→ ∀s t,s∈hs→t∈hs→s≤L1.cur→XH V1 s≠zer∧(t<s→XH V1 t≠XH V1 s)
structure MrP (m c:Nat) (L L':LvD) (V V':VS) (N:Int):Prop where
  inv:LvI m L' V'
  sp:L'.sp=L.sp
  ab:Q1 L' V'=Q1 L V
  sz:SzLe L' c
  fin: ∃hs0 hs,HeldL L hs0∧HeldL L' hs∧(N≤hs0.length∨(L'.cur=0∧(L.cur=0→Dist V' hs)))
section
variable {m c j i:Nat} {L L1 L2 L3:LvD} {V V1 V3:VS} {hs0 hs:List Int} {x y q:Int} {N:Int}
theorem LvI.cur (hI:LvI m L V) {x:Int}:LvI m {L with cur:=x} V∧Q1 {L with cur:=x} V=Q1 L V:=LvX.same hI U U
theorem MrI.start (hI:LvI m L V) (hc:SzLe L c) (hh:HeldL L hs0):MrI m c L L V V hs0 hs0 0:= by
  refine⟨hI,rfl,rfl,hc,hh, fun _ h=>h,Nat.le_refl _,.inl ⟨rfl,rfl⟩, fun h=>absurd h (by omega), fun h0 s t hs ht hle=> ?_⟩
  rw[h0]at hle
  have :=(Wb hI s).2 ((hh.1 s).1 hs)
  obtain⟨z,hz⟩:=Option.ne_none_iff_exists'.1 this
  have :=(hI.ref.2 s z hz).2.1
  omega
theorem MrI.nx (h:MrI m c L L1 V V1 hs0 hs j) (hj:1≤j∨L.cur=0):IntKind.i64.wrap (L1.cur+1)=L1.cur+1:= by
  have h2:0≤L1.cur∧L1.cur≤1152921504606846976:= by
    rcases h.good with⟨a,b⟩ | ⟨_,a,b⟩
    · have :=hj.resolve_left (by omega)
      omega
    · omega
  exact M.wrap64 (by omega) (by omega)
theorem MrI.keep (h:MrI m c L L1 V V1 hs0 hs j) (hq:q=IntKind.i64.wrap (L1.cur+1)) (hi:i=hs.countP (fun x=>decide (x<q))) (hx:hs[i]? =some x) (h1:1≤x∧x≤1152921504606846976) (hnz:XH V1 x≠zer) (hf: ∀k s,k<i→hs[k]? =some s→XH V1 s≠XH V1 x):MrI m c L {L1 with cur:=x} V V1 hs0 hs (j+1):= by
  obtain⟨g1,g2⟩:=h.inv.cur (x:=x)
  have hil:=(XR hx).1
  refine⟨g1,h.sp,g2.trans h.ab,h.sz,h.held.same U U,h.sub,h.len,.inr ⟨by omega,h1⟩, fun _=> ?_, fun h0 s t hs ht hle=> ?_⟩
  · have e1:i<hs.countP (fun z=>decide (z<x+1)):=(Gn h.held.2 hx).2 (by omega)
    by_cases e:1≤j
    · have h2:=h.cnt e
      rw[h.nx (.inl e)]at hq
      rw[←hq,←hi]at h2
      show j+1+(hs.length -hs.countP (fun z=>decide (z<x+1)))≤_
      omega
    · have :=h.len
      show j+1+(hs.length -hs.countP (fun z=>decide (z<x+1)))≤_
      omega
  · rw[h.nx (.inr h0)]at hq
    have hle:s≤x:=hle
    by_cases e:s=x
    · subst e
      refine⟨hnz, fun hlt=> ?_⟩
      obtain⟨k,hk⟩:=List.mem_iff_getElem?.1 ht
      exact hf k t ((Ve h.held.2 hk hx).2 hlt) hk
    · obtain⟨k,hk⟩:=List.mem_iff_getElem?.1 hs
      have h3:k<i:=(Ve h.held.2 hk hx).2 (by omega)
      rw[hi]at h3
      have h4:=(Gn h.held.2 hk).1 h3
      exact h.dist h0 s t hs ht (by omega)
theorem MrI.give (h:MrI m c L L1 V V1 hs0 hs j) (hq:q=IntKind.i64.wrap (L1.cur+1)) (hi:i=hs.countP (fun x=>decide (x<q))) (hx:hs[i]? =some x) (h1:1≤x∧x≤1152921504606846976) (hsw:SwR m c {L1 with cur:=x} L3 V1 V3 x y (fun _=>True)) (hne:y≠x) (hy:y=0∨y∈hs):MrI m c L L3 V V3 hs0 (hs.eraseIdx i) (j+1):= by
  obtain⟨g1,g2⟩:=h.inv.cur (x:=x)
  have hil:=(XR hx).1
  have hc:L3.cur=x:=hsw.cur
  have hH:=(h.held.same (L':={L1 with cur:=x}) U U).erase g1 hsw hne hx hy
  have hle:(hs.eraseIdx i).length=hs.length -1:=List.length_eraseIdx_of_lt hil
  refine⟨hsw.inv,hsw.sp.trans h.sp,hsw.ab.trans (g2.trans h.ab),hsw.sz,hH, fun s hs=>h.sub s (List.mem_of_mem_eraseIdx hs), by have :=h.len;omega,.inr ⟨by omega, by rw[hc]; exact h1⟩, fun _=> ?_, fun h0 s t hs1 ht hle=> ?_⟩
  · rw[hc]
    have e1:i≤(hs.eraseIdx i).countP (fun z=>decide (z<x+1)):= by
      apply Nat.le_of_not_lt
      intro e
      have hl2:(hs.eraseIdx i).countP (fun z=>decide (z<x+1))<(hs.eraseIdx i).length:= by omega
      obtain⟨r,h5⟩: ∃r,(hs.eraseIdx i)[(hs.eraseIdx i).countP (fun z=>decide (z<x+1))]? =some r:=⟨_,Zi hl2⟩
      have h6:=Gn (q:=x+1) hH.2 h5
      have h7:hs[(hs.eraseIdx i).countP (fun z=>decide (z<x+1))]? =some r:= by
        rw[List.getElem?_eraseIdx,if_pos e]at h5; exact h5
      have h8:=(Ve h.held.2 h7 hx).1 e
      exact absurd (h6.2 (by omega)) (Nat.lt_irrefl _)
    by_cases e:1≤j
    · have h2:=h.cnt e
      rw[h.nx (.inl e)]at hq
      rw[←hq,←hi]at h2
      omega
    · have :=h.len
      omega
  · rw[hc]at hle
    rw[h.nx (.inr h0)]at hq
    obtain⟨m1,n1⟩:=(U2 h.held.2 hx).1 hs1
    obtain⟨m2,n2⟩:=(U2 h.held.2 hx).1 ht
    obtain⟨k,hk⟩:=List.mem_iff_getElem?.1 m1
    have h3:k<i:=(Ve h.held.2 hk hx).2 (by omega)
    rw[hi]at h3
    have h4:=(Gn h.held.2 hk).1 h3
    have h5:=h.dist h0 s t m1 m2 (by omega)
    have al: ∀r∈hs.eraseIdx i,XH V3 r=XH V1 r:= fun r hr=>(hsw.pgs r (.inr ((Wb hsw.inv r).2 ((hH.1 r).1 hr)))).2
    rw[al s hs1,al t ht]
    exact h5
theorem MrI.brk (h:MrI m c L L1 V V1 hs0 hs j) (hh:HeldL L hs0) (hq:q=IntKind.i64.wrap (L1.cur+1)) (hi:hs.countP (fun x=>decide (x<q))=hs.length):MrP m c L {L1 with cur:=0} V V1 N:= by
  obtain⟨g1,g2⟩:=h.inv.cur (x:=0)
  refine⟨g1,h.sp,g2.trans h.ab,h.sz,hs0,hs,hh,h.held.same U U,.inr ⟨rfl, fun h0 s t hs1 ht=> ?_⟩⟩
  rw[h.nx (.inr h0)]at hq
  obtain⟨k,hk⟩:=List.mem_iff_getElem?.1 hs1
  have hkl:=(XR hk).1
  have h4:=(Gn h.held.2 hk).1 (by rw[hi]; exact hkl)
  exact h.dist h0 s t hs1 ht (by omega)
theorem MrI.done (h:MrI m c L L1 V V1 hs0 hs j) (hh:HeldL L hs0) (hj:N≤(j:Int)):MrP m c L L1 V V1 N:= by
  refine⟨h.inv,h.sp,h.ab,h.sz,hs0,hs,hh,h.held,.inl ?_⟩
  by_cases e:1≤j
  · have :=h.cnt e;omega
  · omega
end
theorem stT_id {w:World} {p n F:Nat} {V:VS} {As:List Th} (h:Sat w (XG p n F V::As)) {j:Int} (hj:V j≠none):1≤j∧j≤1099511627777+n:= by
  obtain⟨S,a,b,c,h⟩:=Wz h
  subst b
  obtain⟨x,hx⟩:=Option.ne_none_iff_exists'.1 hj
  cases hq:S.all j with
  | none=> rw[YY hq]at hx; cases hx
  | some y=>
    have :=a.ent hq
    have :=a.nx2
    omega
theorem lvT_cur {w:World} {As:List Th} {b:Nat} {L:LvD} (hS:Sat w As) (i:Nat) (hi:As[i]? =some (XY b L)):w.cell? ⟨b,3,none⟩=some (intV L.cur):=(Xy (hS.pull i hi)).cell 0 U U
end Go.Proofs.YtkcjfoaejijdoaaGreatDoor
namespace Go.Proofs.YtkcjfoaejijdoaaGreatDoor.M
open Go.RowKit
theorem C0 {P:Program} (len cap:Nat) (k1 k2 k3:IntKind) (A B M:Nat) (h1:A≤B) (h2:B≤M) (h3:M≤cap) (w:World):(Instr.sliceBounds true len cap (some (.int k1 (A:Int))) (some (.int k2 (B:Int))) (some (.int k3 (M:Int)))).run P w= .ok (A,B,M) w:= by
  have g1:(A:Int)≤(B:Int):= by omega
  have g2:(B:Int)≤(M:Int):= by omega
  have g3:(M:Int)≤(cap:Int):= by omega
  simp [Instr.sliceBounds,Instr.sliceBound,asIntOf,h1,h2,h3,g1,g2,g3]
section
variable {P:Program} {n:Nat} {ops:Array Oper} {Q:Exit→Act→World→Prop} {rest:List Oper} {L:Env} {w:World} {d:Nat} {ty:TypeId} {pos:String} {aft:Array Edge}
theorem LX {x y1 y2 y3:Operand} {t e m cap sz:Nat} {k1 k2 k3:IntKind} {a:Option Addr} (A B M:Nat) (hu:P.underlying t=some (.slice e)) (hs:Wg P e=some sz) (hx:look L x=some (.slice a m cap)) (g1:look L y1=some (.int k1 (A:Int))) (g2:look L y2=some (.int k2 (B:Int))) (g3:look L y3=some (.int k3 (M:Int))) (h1:A≤B) (h2:B≤M) (h3:M≤cap) (hd:Nat.blt d n=true)
    (hk:wl P n ops Q rest ((d,.slice (if M=A then a else a.map fun p=>p.add (A*sz)) (B -A) (M -A))::L) w):wl P n ops Q (⟨some d,.slice t x (some y1) (some y2) (some y3),ty,pos,aft,none⟩::rest) L w:=
  Xu hd (fun ρ hρ=> by
    have hb:=C0 (P:=P) m cap k1 k2 k3 A B M h1 h2 h3 w
    simp only[execOp,hρ _ _ hx]
    simp [Instr.sliceAt,Instr.slice,run_underlying hu,hρ _ _ g1,hρ _ _ g2,hρ _ _ g3,hb,run_sizeOf hs]) hk
theorem Cf {As:List Th} (k:Nat) (hS:Sat w As) {t t2 e bytes b m cap i j:Nat} {s x:Operand} {z xv:Value} {d2:TypeDesc} {l:List Int} (hi:As[k]? =some (rowT inC (.slice (some ⟨b,0,none⟩) m cap) l)) (hm:l.length=m) (hs:look L s=some (.slice (some ⟨b,0,none⟩) i cap)) (hx:look L x=some xv) (hr:RdL inC xv (l.drop j) w) (hu:P.underlying t=some (.slice e)) (hu2:P.underlying t2=some d2) (hd2: ∀k,d2≠ .int k)
    (hif:(P.info? e).map (fun i=>(i.zero,i.size,i.bytes))=some (some z,1,bytes)) (hij:i≤j) (hj:j≤m) (hd:Nat.blt d n=true)
    (hk: ∀w',Sat w' (As.set k (rowT inC (.slice (some ⟨b,0,none⟩) m cap) (l.take i++l.drop j++l.drop (i+(m -j)))))→wl P n ops Q rest ((d,.slice (some ⟨b,0,none⟩) (i+(m -j)) cap)::L) w'):wl P n ops Q (⟨some d,.call ⟨.builtin .append, #[s,x], #[t,t2]⟩,ty,pos,aft,none⟩::rest) L w:= by
  subst hm
  obtain⟨f,hown⟩:=hS.own k hi
  obtain⟨hl,⟨h0,_⟩ | ⟨b',cap',sp,h0,hc,hb,hlen,rfl⟩⟩:=hown
  · cases h0
  · cases h0
    obtain⟨inf,hi1,hi2,hi3,hi4⟩:=info_parts hif
    have e1:inC.cells l++sp=inC.cells (l.take i)++(inC.cells (l.drop i)++sp):= by rw[←List.append_assoc,inC.cells_app,List.take_append_drop]
    have e2:inC.cells (l.take i)++inC.cells (l.drop j)++(inC.cells (l.drop i)++sp).drop ((l.length -j)*1)=inC.cells (l.take i++l.drop j++l.drop (i+(l.length -j)))++sp:= by
      have e3:(inC.cells (l.drop i)++sp).drop ((l.length -j)*1)=inC.cells (l.drop (i+(l.length -j)))++sp:= by
        rw[Hy,Hy,List.drop_append_of_le_length (by simp;omega),←List.map_drop,List.drop_drop,Nat.mul_one]
      rw[e3,inC.cells_app,←List.append_assoc,inC.cells_app]
    have hll:(l.take i++l.drop j++l.drop (i+(l.length -j))).length=l.length:= by simp;omega
    refine XS U hd (R:= fun v w'=>v= .slice (some ⟨b,0,none⟩) (i+(l.length -j)) cap∧Blk w' b (inC.cells (l.take i++l.drop j++l.drop (i+(l.length -j)))++sp)∧Only [b] w w') (fun a ha=> ?_) ?_
    · obtain⟨w',hr',hb',ho',_⟩:=G7 (P:=P) (w:=w) (b:=b) (n:=i) (cap:=cap) (size:=1) (m:=l.length -j) (xs:=inC.cells (l.take i)) (sp:=inC.cells (l.drop i)++sp) (news:=inC.cells (l.drop j)) (ty:=ty) hu hu2 hd2 hi1 hi3
        (by have :=hr.lenOf (P:=P);rwa [List.length_drop]at this) (by have :=hr.first (P:=P) w U;rwa [List.length_drop]at this) (by rw[inC.cells_len,List.length_take]; show min i l.length*1=i*1;omega) (by rw[inC.cells_len,List.length_drop];rfl) (W8 (inC.cells_one _)) (by rw[←e1]; exact hb) (by rw[←e1]; exact hlen) (by omega)
      rw[e2]at hb'
      exact⟨_,w',.inl (by simp [execOp,ha.eval hs,ha.eval hx,resolve,invoke,builtin,hr']),rfl,hb',ho'⟩
    · rintro v w' ⟨rfl,h2,h3⟩
      refine hk w' (hS.own_set k hi fun foot hown2=> ?_)
      obtain⟨_,⟨h0,_⟩ | ⟨b2,cap2,sp2,h0,_,_,_,rfl⟩⟩:=hown2
      · cases h0
      · cases h0
        exact⟨[b],⟨inC.cells_len _,.inr ⟨b,cap,sp, by rw[hll], by rw[hll]; exact hc,h2, by rw[List.length_append,inC.cells_len,hll,←inC.cells_len,←List.length_append]; exact hlen,rfl⟩⟩,h3, fun k hk=> .inl hk⟩
end
theorem L9 {l:List Int} {i:Nat} (hi:i<l.length):X9 (inC.cells (l.take i++l.drop (i+1)++l.drop (i+(l.length -(i+1))))) (0+(i+(l.length -(i+1)))*1) (List.replicate (l.length -(i+(l.length -(i+1)))) [intV 0]).flatten=inC.cells (l.take i++l.drop (i+1)++[0]):= by
  have hll:(l.take i++l.drop (i+1)++l.drop (i+(l.length -(i+1)))).length=l.length:= by simp;omega
  have h:=Nr (l:=l.take i++l.drop (i+1)++l.drop (i+(l.length -(i+1)))) (i:=i+(l.length -(i+1))) (by rw[hll];omega)
  rw[hll]at h
  rw[h]
  congr 1
  have e1:(l.take i++l.drop (i+1)).length=i+(l.length -(i+1)):= by simp;omega
  rw[List.take_append_of_le_length (by rw[e1];omega),List.take_of_length_le (by rw[e1];omega), show l.length -(i+(l.length -(i+1)))=1 by omega]
  rfl
end Go.Proofs.YtkcjfoaejijdoaaGreatDoor.M
namespace Go.Proofs.YtkcjfoaejijdoaaGreatDoor
open Go.RowKit M
theorem SA {w:World} {F:Th} {sv:Value} {l:List Int} (hS:Sat w [rowT inC sv l,F]) {i:Nat} (hi:i<l.length) (hln:l.length≤100000000000):
    Calls Tryz.prog 88 #[sv,intV (i:Int),intV ((i:Int)+1)] w (Ret fun v w'=>Sat w' [rowT inC v (l.eraseIdx i),F]):= by
 obtain⟨b,cap,rfl,hcap⟩:=hS.own_at 0 rfl (by omega)
 refine Qm Tryz.func88 U Tryz.ntmps88 U ?_
 refine Qd (Qa (Qe U U (Qf (Qc (Qd (Qa (Qb U U (Qb U U (Qb U U (Qb U U ?_))))))))))
 first | refine Xr Tryz.underlying47 U U ?_ | refine ZG 0 hS Tryz.underlying47 U U U ?_
 refine LX i (i+1) l.length Tryz.underlying47 JG U U U U (by omega) (by omega) (by omega) U ?_
 refine Qf (Qc (Qd (Qd (Qa (Qb U U (Qb U U (Xd U U U (Qf (Qc (Qh [2,1,0,6,16] U (Qs U (fun h1=> ?_) (fun h1=> ?_))))))))))))
 ·omega
 refine Qt (Qc (Qd (Qa (Qb U U ?_))))
 first | refine Xr Tryz.underlying47 U U ?_ | refine ZG 0 hS Tryz.underlying47 U U U ?_
 refine Qe U U (Qf (Qc (Qd ?_)))
 have hS2:=hS.drew
 refine QF [0,1,2,3,4,5,6,7] [6] We (by kernel_rfl) ?_
 refine QG U U U (QG U U U (X8 U U U (fun _=>(Tw 0 i Tryz.underlying47 JG U (LJ _) (VU i _ U U) (by omega) (by omega))) ?_))
 refine QG U U U (QG U U U (X8 U U U (fun _=>(Tw (i+1) l.length Tryz.underlying47 JG U (VU (i+1) _ U U) (LJ _) (by omega) (by omega))) ?_))
 refine Xn U U U U U U ?_
 have hrd3:RdL inC (Y8 1 (.slice (some ⟨b,0,none⟩) l.length cap) (i+1) l.length) (l.drop (i+1)) w:= by have h0:Ent (rowT inC (.slice (some ⟨b,0,none⟩) l.length cap) l) (RdL inC (Y8 1 (.slice (some ⟨b,0,none⟩) l.length cap) (i+1) l.length) ((l.take l.length).drop (i+1))):=Dk (C:=inC) (a:=some ⟨b,0,none⟩) (l:=l) (A:=i+1) (B:=l.length) (by omega) (by omega) (by omega) hcap; have h:=h0.sat hS2 0 U;rwa [List.take_length]at h
 refine Cf (i:=i) (j:=i+1) 0 hS2 U U (by show some (Y8 1 (.slice (some ⟨b,0,none⟩) l.length cap) 0 i)=_; rw[Vl (by omega)];rfl) U hrd3 Tryz.underlying47 Tryz.underlying47 (by intro k hk; cases hk) UB (by omega) (by omega) U ?_
 intro w3 hS3; dsimp only[List.set]at hS3
 clear hS2
 refine XQ .nil (Za U U U (VC.nil (Qc (Qh [6,7,0] U (Qd (Qa (Qb U U (Qb U U ?_))))))))
 first | refine Xr Tryz.underlying47 U U ?_ | refine ZG 0 hS3 Tryz.underlying47 U U U ?_
 refine Qb U U (KA (i+(l.length -(i+1))) l.length Tryz.underlying47 JG U (VU (i+(l.length -(i+1))) _ U U) (VU l.length _ U U) (by omega) (by omega) U ?_)
 rw[show Y8 1 (.slice (some ⟨b,0,none⟩) (i+(l.length -(i+1))) cap) (i+(l.length -(i+1))) l.length= .slice (some ⟨b,0+(i+(l.length -(i+1)))*1,none⟩) (l.length -(i+(l.length -(i+1)))) (cap -(i+(l.length -(i+1)))) from Vl (by omega)]
 refine RE 0 hS3 U U U Tryz.underlying47 YN U (by rw[inC.cells_len, show(l.take i++l.drop (i+1)++l.drop (i+(l.length -(i+1)))).length=l.length by simp;omega]; show 0+(i+(l.length -(i+1)))*1+(l.length -(i+(l.length -(i+1))))*1≤l.length*1;omega) (L9 hi) U ?_
 intro w4 hS4a; dsimp only[List.set]at hS4a
 have hS4:=Sat.row_cast (C:=inC) (l:=l.take i++l.drop (i+1)++[0]) (hS4a.pull 0 U) (by simp;omega) U U; dsimp only[List.eraseIdx]at hS4
 clear hS3
 refine Qf (Qc (Qd (Qa (Qb U U (Qe U U (Qf (Qc (Qu (QR (.inr U) U U ?_)))))))))
 have hz:=(hS4.pick [0,1] U).row_shrink (i+(l.length -(i+1))) (by simp;omega)
 rw[List.take_append_of_le_length (by simp;omega),List.take_of_length_le (by simp;omega),←List.eraseIdx_eq_take_drop_succ]at hz
 exact⟨_,rfl,hz⟩
variable [Inhabited SlW]
theorem mgC_sp {w:World} {b cl cp n Fr:Nat} {pg:Bs} {L:LvD} {V:VS} {F:Th} (hS:Sat w [Q3 cl [ptrV b 0],Q3 cp [strV pg],XY b L,XG L.sp n Fr V,F]) (z:Int):
    Calls Tryz.prog 86 #[intV z,ptrV cl 0,ptrV cp 0] w (Ret fun v w'=>v= .bool (decide (XH V z=pg))∧Sat w' [Q3 cl [ptrV b 0],Q3 cp [strV pg],XY b L,XG L.sp n Fr V,F]):= by
 refine Qm Tryz.func86 U Tryz.ntmps86 U ?_
 refine Qd (Qa (Qe U U (Qf (Qc (Qd ?_)))))
 have hS1:=hS.drew
 refine QF [0,1,2,3,4,6,5,7,8] [5] We (by kernel_rfl) ?_
 refine Q4 U U U (Qr U HI (hS1.cell 0 U U)) (Xh U U U (QV U U U XN (Q4 U U U (Qr U Xk (JB hS1 2 U)) (QG U U U (Q4 U U U (Qr U WC (hS1.cell 1 U U)) (Xn U U U U U U ?_))))))
 refine Qw Ya U (YP (hS1.sp [3] U) z) U ?_
 rintro _ w2 ⟨rfl,hS2⟩
 replace hS2:=hS2.jn U U
 clear hS1
 refine XQ (.cons (.inl ⟨rfl,(Qr U WC (hS2.cell 2 U U))⟩) (X1 (by kernel_rfl))) ?_
 refine X8 U U U (fun _=>(S6 U U)) ?_
 exact Za U U U (VC.nil (Qc (Qh [4] U (Qu (QR (.inr U) U U (⟨_,rfl,rfl,hS2.pick [1,2,3,0,4] U⟩))))))
def PrF (P:Program) (g c1 c2:Nat) (Jt:Th) (pr:Int→Bool):Prop:=QE P g=true∧ ∀(n:Int) (w:World) (X:Th),Sat w [Jt,X]→Calls P g #[intV n,ptrV c1 0,ptrV c2 0] w (Ret fun v w'=>v= .bool (pr n)∧Sat w' [Jt,X])
def JtM (b cl cp n Fr:Nat) (pg:Bs) (L:LvD) (V:VS):Th:=starL [Q3 cl [ptrV b 0],Q3 cp [strV pg],XY b L,XG L.sp n Fr V]
theorem prF_mg {b cl cp n Fr:Nat} {pg:Bs} {L:LvD} {V:VS}:PrF Tryz.prog 86 cl cp (JtM b cl cp n Fr pg L V) (fun z=>decide (XH V z=pg)):= by
  refine⟨cal_86, fun z w X hS=> ?_⟩
  have h1:=hS.flat; dsimp only[R8,R7]at h1
  refine(mgC_sp h1 z).mono fun e w h=>h.mono fun v w h=> ?_
  exact⟨h.1,Sat.fold (As:=[Q3 cl [ptrV b 0],Q3 cp [strV pg],XY b L,XG L.sp n Fr V]) h.2⟩
theorem ixP_sp {w:World} {g c1 c2:Nat} {Jt F:Th} {pr:Int→Bool} (hE:PrF Tryz.prog g c1 c2 Jt pr) (hS:Sat w [Jt,F]) {lv:Value} {l:List Int} (hL:Ent F (RdL inC lv l)):
    Calls Tryz.prog 85 #[lv,.func (.func g) #[] #[ptrV c1 0,ptrV c2 0]] w (Ret fun v w'=>(v=intV (-1)∧(∀y∈l,pr y=false)∧Sat w' [Jt,F])∨(∃(k:Nat) (y:Int),v=intV (k:Int)∧l[k]? =some y∧pr y=true∧(∀j z,j<k→l[j]? =some z→pr z=false)∧Sat w' [Jt,F])):= by
 obtain⟨ao,cap,rfl,hmax⟩:=(hL.sat hS 1 rfl).shape
 refine Qm Tryz.func85 U Tryz.ntmps85 U ?_
 refine Qd (Qa (Qe U U (Qf (Qc (Qd (Qd (Qa (Qb U U (Xr Tryz.underlying47 U U (Qb U U (Qf (Qc (Qv ?_)))))))))))))
 refine Xb (fun K0 E0 W0=> ∃(i:Nat),K0=l.length -i∧E0=[(0,.slice ao l.length cap),(1,.func (.func g) #[] #[ptrV c1 0,ptrV c2 0]),(7,intV (l.length:Int)),(8,intV (i:Int))]∧Sat W0 [Jt,F]∧(i≤l.length)∧(∀j y,j<i→l[j]? =some y→pr y=false)) (L0:=[(0,_),(1,_),(7,_),(8,_)]) (l.length -0) (VN U U U U) ⟨0,rfl,rfl,hS, by omega, by omega⟩ ?_
 rintro _ _ w1 ⟨i,rfl,rfl,hS1,hi,hno⟩
 refine Qd (Qa (Xg U U U (Qf (Qc (Qd (Qs U (fun h2=> ?_) (fun h2=> ?_)))))))
 ·obtain⟨x,hx⟩: ∃x,l[i]? =some x:=⟨_,Zi (by omega)⟩
  obtain⟨b,off,rfl,_⟩:=(hL.sat hS1 1 rfl).get hx
  refine Qt (Qc (Qd (Qv (Qd (Qa (Qb U U (Qe U U (Qf (Qc (Qd (Qa (Qb U U (Qb U U (Qb U U (Zq i U U (by first | rfl | omega) ((XR hx).1) JQ U ?_)))))))))))))))
  refine Qn U QL (((hL.sat hS1 1 U).at_ hx) 0 _ U) U (Y7 U hE.1 U (hE.2 _ _ _ (hS1.sp [0] U)) U ?_)
  rintro e w3 ⟨_,rfl,rfl,hS3⟩; refine⟨_,rfl, ?_⟩
  replace hS3:=hS3.jn U U
  clear hS1
  refine Qf (Qc (Qh [8,7,1,0,5,16] U (QN U (fun h4=> ?_) (fun h4=> ?_))))
  ·have heq:pr x=true:=h4
   exact Qd (Qa (Qb U U (Qe U U (Qf (Qc (Qu (Qz (Qp (Qp (Qz (Qp (QR (.inr U) U U (⟨_,rfl,.inr ⟨i,x,rfl,hx,heq,hno,hS3.pick [0,1] U⟩⟩)))))))))))))
  have hne:pr x=false:=h4
  refine Qt (Qk (Qc (Qa (QI U U (by omega) (by omega) U ?_))))
  refine Qb U U (Qf ?_)
  exact Q0 (L1:=[(0,_),(1,_),(7,_),(8,intV ((i+1:Nat):Int))]) (VN U U U U) (k1:=l.length -(i+1)) (by omega) ⟨i+1,rfl,rfl,hS3.pick [0,1] U, by omega, fun j y hj hq=> by by_cases e:j=i;(subst e; rw[hx]at hq; cases hq; exact hne); exact hno j y (by omega) hq⟩
 refine QM (Qo (Qo (Qx (Qc (Qd (Qa (Qe U U (Qf (Qc (Qu (QR (.inr U) U U ?_)))))))))))
 exact⟨_,rfl,.inl ⟨rfl, fun y hm=> by obtain⟨j,hj⟩:=List.mem_iff_getElem?.1 hm; exact hno j y (by have :=(XR hj).1;omega) hj,hS1.pick [0,1] rfl⟩⟩
theorem EG {w:World} {As:List Th} (hS:Sat w As) (k:Nat) (os:Array Obj):Sat (Go.Sort.grow (w.drewN k) os) As:= by
  refine hS.only ⟨rfl,rfl,rfl, by simp [Go.Sort.grow], fun j hj _=> ?_⟩
  have :j<(w.drewN k).heap.size:=hj
  show(w.heap++os)[j]? =w.heap[j]?
  rw[Array.getElem?_append_left hj]
theorem FM {w:World} {As:List Th} (hS:Sat w As) (q:Nat):Sat (w.drewN q) As:= by
  have h:=EG hS q #[]
  have e:Go.Sort.grow (w.drewN q) #[]=w.drewN q:= by unfold Go.Sort.grow; simp;rfl
  rw[e]at h; exact h
theorem bs_sp {w:World} {As:List Th} (hS:Sat w As) (i:Nat) {v:Value} {zs:List Int} (hi:As[i]? =some (rowT inC v zs)) (x:Int) (hl:zs.length≤100000000000) (hs:zs.Pairwise (· < ·)):Calls Tryz.prog 84 #[v,intV x] w (Ret fun u w'=>u= .tuple #[intV (zs.countP (· <x):Nat),.bool (zs.contains x)]∧Sat w' As):= by
  by_cases hz:zs=[]
  · subst hz
    obtain⟨ao,cap,rfl,_⟩:=hS.own_shape i hi
    refine(Tryz.slices_BinarySearch_int_empty ao cap x w).mono fun e w' ⟨h1,h2⟩=>⟨_,h1,rfl, by rw[h2]; exact hS⟩
  · have hzl:=List.length_pos_iff.2 hz
    obtain⟨b,cap,rfl,_⟩:=hS.own_at i hi hzl
    have ht:zs.take zs.length=zs:=List.take_length
    refine(Tryz.slices_BinarySearch_int b 0 zs.length cap zs x w (Nat.le_refl _) (by omega) (fun j hj=> ?_) (by rw[ht]; exact hs.imp fun h=>Int.le_of_lt h)).mono fun e w' ⟨h1,q,h2⟩=>⟨_,h1, by rw[ht], by rw[h2]; exact FM hS q⟩
    have hc:=hS.ocell i hi U (RowC.cells_get (C:=inC) (o:=0) (Zi hj) U)
    have e:zs.getD j 0=zs[j]:= by rw[List.getD_eq_getElem?_getD,Zi hj];rfl
    rw[e]
    simpa [inC]using hc
theorem An {w:World} {b n Fr m c:Nat} {L:LvD} {V:VS} {F:Th} (hS:Sat w [XY b L,XG L.sp n Fr V,F]) (hI:LvI m L V) (hc:SzLe L c) (hcc:c≤100000) (nn:Int) (hnn:nn≤4611686018427387904) (hn:n+nn.toNat*(6*c)≤60000000000):
    Calls Tryz.prog 30 #[ptrV b 0,intV nn] w (Ret fun v w'=> ∃L' V' l,MrP m c L L' V V' nn∧l.length≤3*c∧Sat w' [rowT inC v l,XY b L',XG L'.sp (n+nn.toNat*(6*c)) Fr V',F]):= by
 refine Qm Tryz.func30 U Tryz.ntmps30 U ?_
 refine Qd (Qa (Zd hS U U U ?_))
 intro cl w1 hS1
 refine Qe U U (Qf (Qc (Qd (Qa (Qn U HI (by first | assumption | exact hS1.cell 0 U U) U ?_)))))
 refine Qw cal_83 U (held_sp (hS1.sp [1] U) hc hcc) U ?_
 rintro _ w2 ⟨hs0,hh0,hS2⟩
 replace hS2:=hS2.jn U U
 clear hS1
 refine Qe U U (Qf (Qc (Qd (Qa (ZN QO hS2 U ?_)))))
 intro gm w3 hS3; rw[←TS]at hS3
 clear hS2
 refine Qe U U (Qf (Qc (Qd (Qd (Qa (Qb U U (Qb U U (Qf (Qc (Qh [2,4,5,6,15,16] U (Qv ?_)))))))))))
 have hz8:=Xe (m:=n+0*(6*c)) (by omega) (hS3.pick [4,0,1,2,3,5] U)
 refine Xb (fun K0 E0 W0=> ∃(j:Nat) (L1:LvD) (V1:VS) (hs:List Int) (gf:Int→Bool) (hv:Value),K0=(nn -(j:Int)).toNat∧E0=[(2,ptrV cl 0),(5,hv),(6,.map (some gm)),(15,intV nn),(16,intV (j:Int))]∧Sat W0 [Q3 cl [ptrV b 0],XY b L1,XG L1.sp (n+j*(6*c)) Fr V1,rowT inC hv hs,Q5 QO gm (ZZ gf),F]∧(MrI m c L L1 V V1 hs0 hs j)∧(j≤nn.toNat)∧(∀s,gf s=true→s∈hs0)) (L0:=[(2,_),(5,_),(6,_),(15,_),(16,_)]) ((nn -0).toNat) (YU U U U U U) ⟨0,L,V,hs0, fun _=>false,_,rfl,rfl,hz8.pick [4,3,0,2,1,5] U,MrI.start hI hc hh0, by omega, fun s h=> by cases h⟩ ?_
 rintro _ _ w4 ⟨j,L1,V1,hs,gf,hv,rfl,rfl,hS4,hMg,hjn,hgs⟩
 refine Qd (Qa (Xg U U U (Qf (Qc (Qd (Qs U (fun h5=> ?_) (fun h5=> ?_)))))))
 ·refine Qt (Qc (Qd (Qv (Qd ?_))))
  have hj1:(j+1)*(6*c)=j*(6*c)+6*c:= by rw[Nat.add_mul,Nat.one_mul]
  have hj2:(j+1)*(6*c)≤nn.toNat*(6*c):=Nat.mul_le_mul_right _ (by omega)
  obtain⟨ah,ch,hvh,_⟩:=hS4.own_shape 3 rfl; obtain rfl:=hvh
  obtain⟨q,hq⟩: ∃q,q=IntKind.i64.wrap (L1.cur+1):=⟨_,rfl⟩
  have hln:=hMg.len; have hl0:=Rb hc (Gm hh0.2) fun s hs=>(hh0.1 s).1 hs
  refine Qa (Qb U U (Qn U HI (by first | assumption | exact hS4.cell 0 U U) U ?_))
  refine Qj U U (Qg U Tu U (Qn U QL (lvT_cur hS4 1 U) U (GJ (c:=q) U U hq.symm U (Qw cal_84 U (bs_sp hS4 3 U q (by omega) hMg.held.2) U ?_))))
  rintro _ w6 ⟨rfl,hS6⟩
  clear hS4
  refine Qb U U (Qq U U U (Qq U U U (Qe U U (Qe U U (Qf (Qc (Qh [16,15,6,5,2,7] U (Qd (Qd (Qa (Qb U U (Qb U U ?_))))))))))))
  first | refine Xr Tryz.underlying47 U U ?_ | refine ZG 3 hS6 Tryz.underlying47 U U U ?_
  refine Xd U U U (Qf (Qc (Qs U (fun h7=> ?_) (fun h7=> ?_))))
  ·have hall:(hs.countP fun x=>decide (x<q))=hs.length:= by omega
   refine Qd (Qa (Qn U HI (by first | assumption | exact hS6.cell 0 U U) U ?_))
   refine Qj U U (Qg U Tu U ?_)
   have hS8:=Xy (hS6.pick [1,0,2,3,4,5] U)
   refine Q6 hS8 U U JG U (i:=0) U (Xa U) ?_
   intro w9 hS9; dsimp only[List.set]at hS9
   clear hS8
   have hS10:=QZ (L:={L1 with cur:=0}) (hS9.pick [0,1,2,3,4,5,6,7,8,9] U)
   refine Qf (Qc (Qh [16,15,6,5,2,7] U (QM (Qo (Y4 U (Qo (Qo (Qx (Qc (Qd (Qa (Qb U U (Qw PE U (AM (hS10.sp [] U) U) U ?_)))))))))))))
   rintro _ w11 ⟨ck,rfl,hS11⟩
   replace hS11:=hS11.jn U U
   clear hS10
   have hl0:=Rb hc (Gm hh0.2) fun s hs=>(hh0.1 s).1 hs
   have hK:=Sat.fold (As:=[Q3 ck [.map (some gm)],Q5 QO gm (ZZ gf)]) (hS11.pick [0,5,1,2,3,4,6] U)
   have hC12:=hK.sp [0] U
   refine Qw Dv U (Hu hC12 TR (itKB ck gm (ZZ gf)) (fun ks hq=>Nat.le_trans (Zr hq.nodup fun s hs=>hgs s (Gj.1 (hq.has s hs))) (by omega))) U ?_
   rintro _ w12 ⟨ks,hks,hS12⟩
   replace hS12:=hS12.jn U U; clear hC12
   clear hK
   refine Qe U U (Qf (Qc (Qu (QR (.inr U) U U ?_))))
   have hjm:j*(6*c)≤nn.toNat*(6*c):=Nat.mul_le_mul_right _ hjn
   have hkl:(XZ ks).length≤3*c:= by rw[Wk]; exact Nat.le_trans (Zr hks.nodup fun s hs=>hgs s (Gj.1 ((hks.mem s).1 hs))) hl0
   have hz9:=Xe (m:=n+nn.toNat*(6*c)) (by omega) (hS12.pick [4,0,2,6] U)
   exact⟨_,rfl,{L1 with cur:=0},V1,XZ ks,hMg.brk hh0 hq (by omega),hkl,hz9.pick [1,2,0,3] U⟩
  refine Qt (Qc (Qd ?_))
  have hatl:(hs.countP fun x=>decide (x<q))<hs.length:= by have :=List.countP_le_length (l:=hs) (p:= fun x=>decide (x<q));omega
  obtain⟨x,hx⟩: ∃x,hs[(hs.countP fun x=>decide (x<q))]? =some x:=⟨_,Zi hatl⟩
  have hxm:=List.mem_of_getElem? hx
  have hxh:=(hMg.held.1 x).1 hxm
  have hxa:=(Wb hMg.inv x).2 hxh
  have hxb:=stT_id (hS6.pick [2,0,1,3,4,5] U) hxa
  have hx1:1≤x∧x≤1152921504606846976:= by omega
  refine Qa (Qb U U (Qb U U (QW inC 3 (hs.countP fun x=>decide (x<q)) hS6 U U U (by first | rfl | omega) hx JQ U ?_)))
  intro bx13 capx13 hvx13
  refine XE 3 (hs.countP fun x=>decide (x<q)) 0 hS6 U hvx13 U U hx QL U U ?_
  refine Qe U U (Qf (Qc (Qh [16,15,6,5,2,7,9] U (Qd (Qa (Qn U HI (by first | assumption | exact hS6.cell 0 U U) U ?_))))))
  refine Qb U U (Qj U U (Qg U Tu U ?_))
  have hS14:=Xy (hS6.pick [1,0,2,3,4,5] U)
  refine Q6 hS14 U U JG U (i:=0) U (Xa U) ?_
  intro w15 hS15; dsimp only[List.set]at hS15
  clear hS14
  have hS16:=QZ (L:={L1 with cur:=x}) (hS15.pick [0,1,2,3,4,5,6,7,8,9] U)
  refine Qf (Qc (Qh [16,15,6,5,2,7,9] U (Qd (Qa (Qn U HI (by first | assumption | exact hS16.cell 1 U U) U ?_)))))
  refine Qj U U (Qg U XN U (Qn U Xk (JB hS16 0 U) U (Qb U U (Qw Ya U (YP (hS16.sp [2] U) x) U ?_))))
  rintro _ w17 ⟨rfl,hS17⟩
  replace hS17:=hS17.jn U U
  clear hS16
  refine QX hS17 zr_9 U U ?_
  intro cp w18 hS18
  clear hS17
  (refine Q6 hS18 U U sz_9 (by rfl) (i:=0) U (by decide) ?_)
  intro w19 hS20; dsimp only[List.set]at hS20
  clear hS18
  refine Qe U U (Qf (Qc (Qh [16,15,6,5,2,7,9,10,11] U (Qd (Qd ?_)))))
  have hS21:=hS20.drew
  refine QF [0,1,2,3] [1] We (by kernel_rfl) ?_
  refine Q4 U U U (Qr U WC (hS21.cell 0 U U)) (Xn U U U U U U ?_)
  refine GH hS21 64 U U U Tryz.underlying143 AQ U (by omega) (by omega) U ?_
  intro bz w22 hS22; rw[NJ]at hS22
  clear hS21
  refine XQ (.cons (.inl ⟨rfl,(Qr U WC (hS22.cell 1 U U))⟩) .nil) (Q4 U U U (Tx 0 hS22 zer U U U Tryz.underlying143 Tryz.underlying5 Tryz.underlying9 U U) (X8 U U U (fun _=>(S4 U U)) ?_))
  refine VC.nil (Qc (Qh [16,15,6,5,2,7,9,10,11,52] U (Qs U (fun h23=> ?_) (fun h23=> ?_))))
  ·have hnz:XH V1 x≠zer:=h23
   refine Qd (Qa (Qb U U (Qb U U (Zx U U ?_))))
   have hJ:=Sat.fold (As:=[Q3 cl [ptrV b 0],Q3 cp [strV (XH V1 x)],XY b {L1 with cur:=x},XG L1.sp (n+j*(6*c)) Fr V1]) (hS22.pick [4,1,3,2,0,5,6,7] U)
   have hC24:=hJ.sp [0] U
   refine XU OH U (ixP_sp (prF_mg (b:=b) (cl:=cl) (cp:=cp) (n:=n+j*(6*c)) (Fr:=Fr) (pg:=XH V1 x) (L:={L1 with cur:=x}) (V:=V1)) hC24 (l:=hs) (Ent.starL (HE (C:=inC) (l:=hs) (by omega)) 1 U)) U ?_
   rintro e w24 ⟨_,rfl,(⟨rfl,hno,hS24⟩ | ⟨k,y,rfl,hy,hpy,hno,hS24⟩)⟩
   ·exact absurd (hno x hxm) (by simp)
   refine⟨_,rfl, ?_⟩
   replace hS24:=hS24.jn U U; clear hC24
   clear hJ
   refine QW inC 2 k hS24 U U U (by rfl) hy JQ U ?_
   intro bx25 capx25 hvx25
   refine XE 2 k 0 hS24 U hvx25 U U hy QL U U (Qe U U (Qf (Qc (Qh [16,15,6,5,2,7,9,11] U (Qd (Qd ?_))))))
   have hJ2:=(hS24.pick [0,1,2,3,4] U).flat; dsimp only[R8,R7]at hJ2
   have hpy2:XH V1 y=XH V1 x:= by simpa using hpy
   refine Qa (Qb U U (Qb U U (Xd U U U (Qf (Qc (Qs U (fun h26=> ?_) (fun h26=> ?_)))))))
   ·have hyx:y=x:=h26
    subst hyx
    have hkk:k=(hs.countP fun x=>decide (x<q)):= by rcases Nat.lt_trichotomy k (hs.countP fun x=>decide (x<q))with r | r | r;(have :=(Ve hMg.held.2 hy hx).1 r;omega); exact r;(have :=(Ve hMg.held.2 hx hy).1 r;omega)
    have hkeep:=hMg.keep (x:=y) hq U hx hx1 hnz (fun i s hi hs2=> by have h7:=hno i s (by omega) hs2;simpa using h7)
    refine QM (Qo (Qo (Qx (Qc (Qh [16,15,6,5,2] U (Qa (QI U U (by omega) (by omega) U ?_)))))))
    refine Qb U U (Qf ?_)
    have hz9:=Xe (m:=n+(j+1)*(6*c)) (by omega) (hJ2.pick [3,0,2,5,6,7] U)
    exact Q0 (L1:=[(2,_),(5,_),(6,_),(15,_),(16,intV ((j+1:Nat):Int))]) (YU U U U U U) (k1:=(nn -((j+1:Nat):Int)).toNat) (by omega) ⟨j+1,{L1 with cur:=y},V1,hs,gf,_,rfl,rfl,hz9.pick [1,2,0,3,4,5] U,hkeep, by omega,hgs⟩
   have hyx:y≠x:=h26
   refine Qt (Qc (Qh [16,15,6,5,2,7,9,11] U (Qa (Qb U U (Qb U U (Xw (k:=y) (v:= .bool true) 6 hJ2 keysInt Tryz.underlying83 U U U U ?_))))))
   intro w27 hS27; dsimp only[List.set]at hS27; rw[VI]at hS27
   clear hJ2
   refine Qf (Qc (Qd (Qa (Qn U HI (by first | assumption | exact hS27.cell 0 U U | exact hS27.cell 1 U U) U ?_))))
   refine Qb U U (Qb U U ?_)
   obtain⟨g1,g2⟩:=hMg.inv.cur (x:=x)
   have hym:=List.mem_of_getElem? hy
   have hya:=(Wb hMg.inv y).2 ((hMg.held.1 y).1 hym)
   refine Qw OG U (PT (hS27.sp [2,3] U) g1 hMg.sz (by omega) (x:=x) (y:=y) hyx hxh.1 (.inr hya) hpy2) U ?_
   rintro _ w28 ⟨L3,V3,hsw,hS28⟩
   replace hS28:=hS28.jn U U
   clear hS27
   have hgive:=hMg.give hq U hx hx1 hsw hyx (.inr hym)
   have hsp3:L3.sp=L1.sp:=hsw.sp
   refine Qf (Qc (Qh [16,15,6,5,2,7] U (Qa (Qb U U (Qb U U (Qb U U (QI U U (by omega) (by omega) U ?_)))))))
   refine Qw OF U (SA (hS28.sp [5] U) hatl (by omega)) U ?_
   rintro _ w29 hS29
   replace hS29:=hS29.jn U U
   clear hS28
   refine Qe U U (Qf (Qk (Qc (Qh [16,15,6,2,5] U (Qa (QI U U (by omega) (by omega) U ?_))))))
   refine Qb U U (Qf ?_)
   have hz9:=Xe (m:=n+(j+1)*(6*c)) (by omega) (hS29.pick [2,3,1,0,6,7] U)
   exact Q0 (L1:=[(2,_),(5,_),(6,_),(15,_),(16,intV ((j+1:Nat):Int))]) (YU U U U U U) (k1:=(nn -((j+1:Nat):Int)).toNat) (by omega) ⟨j+1,L3,V3,_,Wv gf y,_,rfl,rfl,hz9.pick [1,2,0,3,4,5] U,hgive, by omega, fun s h=>(Cu.1 h).elim (fun e=> by rw[e]; exact hMg.sub y (List.mem_of_getElem? hy)) (hgs s)⟩
  have hpz:XH V1 x=zer:=Decidable.not_not.1 h23
  refine Qt (Qc (Qd (Qa (Qn U HI (by first | assumption | exact hS22.cell 1 U U | exact hS22.cell 4 U U) U ?_))))
  refine Qb U U (Qb U U ?_)
  obtain⟨g1,g2⟩:=hMg.inv.cur (x:=x)
  refine Qw OG U (PT (hS22.sp [3,2] U) g1 hMg.sz (by omega) (x:=x) (y:=0) (fun e=>hxh.1 e.symm) hxh.1 (.inl U) ((WG hMg.inv.zero).trans hpz.symm)) U ?_
  rintro _ w30 ⟨L3,V3,hsw,hS30⟩
  replace hS30:=hS30.jn U U
  clear hS22
  have hgive:=hMg.give hq U hx hx1 hsw (fun e=>hxh.1 e.symm) (.inl U)
  have hsp3:L3.sp=L1.sp:=hsw.sp
  refine Qf (Qc (Qh [16,15,6,5,2,7] U (Qa (Qb U U (Qb U U (Qb U U (QI U U (by omega) (by omega) U ?_)))))))
  refine Qw OF U (SA (hS30.sp [5] U) hatl (by omega)) U ?_
  rintro _ w31 hS31
  replace hS31:=hS31.jn U U
  clear hS30
  refine Qe U U (Qf (Qk (Qc (Qh [16,15,6,2,5] U (Qa (QI U U (by omega) (by omega) U ?_))))))
  refine Qb U U (Qf ?_)
  have hz9:=Xe (m:=n+(j+1)*(6*c)) (by omega) (hS31.pick [2,5,1,0,6,7] U)
  exact Q0 (L1:=[(2,_),(5,_),(6,_),(15,_),(16,intV ((j+1:Nat):Int))]) (YU U U U U U) (k1:=(nn -((j+1:Nat):Int)).toNat) (by omega) ⟨j+1,L3,V3,_,gf,_,rfl,rfl,hz9.pick [1,2,0,3,4,5] U,hgive, by omega,hgs⟩
 refine QM (Qo (Qo (Qx (Qc (Qd (Qa (Qb U U (Qw PE U (AM (hS4.sp [] U) U) U ?_))))))))
 rintro _ w32 ⟨ck,rfl,hS32⟩
 replace hS32:=hS32.jn U U
 clear hS4
 have hl0:=Rb hc (Gm hh0.2) fun s hs=>(hh0.1 s).1 hs
 have hK:=Sat.fold (As:=[Q3 ck [.map (some gm)],Q5 QO gm (ZZ gf)]) (hS32.pick [0,5,1,2,3,4,6] U)
 have hC33:=hK.sp [0] U
 refine Qw Dv U (Hu hC33 TR (itKB ck gm (ZZ gf)) (fun ks hq=>Nat.le_trans (Zr hq.nodup fun s hs=>hgs s (Gj.1 (hq.has s hs))) (by omega))) U ?_
 rintro _ w33 ⟨ks,hks,hS33⟩
 replace hS33:=hS33.jn U U; clear hC33
 clear hK
 refine Qe U U (Qf (Qc (Qu (QR (.inr U) U U ?_))))
 have hjm:j*(6*c)≤nn.toNat*(6*c):=Nat.mul_le_mul_right _ hjn
 have hkl:(XZ ks).length≤3*c:= by rw[Wk]; exact Nat.le_trans (Zr hks.nodup fun s hs=>hgs s (Gj.1 ((hks.mem s).1 hs))) hl0
 have hz9:=Xe (m:=n+nn.toNat*(6*c)) (by omega) (hS33.pick [4,0,3,6] U)
 exact⟨_,rfl,L1,V1,XZ ks,hMg.done hh0 (by omega),hkl,hz9.pick [1,2,0,3] U⟩
end Go.Proofs.YtkcjfoaejijdoaaGreatDoor
