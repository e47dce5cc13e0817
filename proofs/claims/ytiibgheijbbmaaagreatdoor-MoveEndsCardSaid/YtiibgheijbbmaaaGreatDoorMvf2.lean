/- move: the parts of a list, plain -/
import Derived.Test.YtiibgheijbbmaaaGreatDoorMvd8
import Derived.Test.YtiibgheijbbmaaaGreatDoorMvd2
import Derived.Test.YtiibgheijbbmaaaGreatDoorMvd4
set_option linter.unusedVariables false
namespace Go.Proofs.YtiibgheijbbmaaaGreatDoor
open Go.RowKit M
structure PSo (o:OfD) (l:Bs) (a:Nat):Prop where
  len:o.parts.length=a
  srt:Srt o.parts
  rg: ∀e∈o.parts,0≤e.1∧e.1<(a:Int)
  pc: ∀i d,QN o.parts i=some d→d=Rs l i
  mn:a≠0→o.many=Xa l
def PS (E:EnD) (n:Int) (l:Bs) (a:Nat):Prop:= ∃o,Zr E n=some o∧PSo o l a
section
variable {X Y:TwD} {P J E E' E1:EnD} {s:SeD} {g:SsD} {c t n:Int} {i j:Bool} {out:List Bs} {l:Bs} {m:MsD} {o:OfD} {rest:List (Bool×Bs)} {b:Bs} {a:Nat} {d:Bs}
theorem up_no (h:E.cell≠none): ¬upE E=false:= by
  obtain⟨C,hC⟩:=Option.ne_none_iff_exists'.1 h
  unfold upE; rw[hC]; simp
theorem OD (hk:E.kind≠1) (hm:E.move<n) (hn:NoP E n):PS E n l 0:= by
  have h0: ∀o:OfD,o.parts=[]→PSo o l 0:= fun o q=>⟨by rw[q];rfl, by rw[q]; exact List.Pairwise.nil, fun e he=>(by rw[q]at he; cases he), fun i d hd=>(by rw[q]at hd; cases hd), fun r=>absurd Qa r⟩
  unfold PS Zr
  rw[if_neg (by rintro(q | q)<;>omega)]
  cases h:E.off with
  | none=> exact⟨_,rfl,h0 _ rfl⟩
  | some o=>
    have h1:=(hn o h).1
    dsimp only
    rw[if_neg (by omega)]
    by_cases q:o.move<n
    · rw[if_pos q]; exact⟨_,rfl,h0 _ Qa⟩
    · rw[if_neg q]; exact⟨_,rfl,h0 _ ((hn o h).2 (by omega))⟩
theorem PSo.add (h:PSo o l a) (ha:(a:Int)<Xa l):(Xr o (Xa l)).many=Xa l∧PSo (Ww (Xr o (Xa l)) ⟨1,n,a,Xa l,Rs l a⟩) l (a+1)∧(Ww (Xr o (Xa l)) ⟨1,n,a,Xa l,Rs l a⟩).many=Xa l:= by
  have hs:(Xr o (Xa l)).many=Xa l∧(Xr o (Xa l)).parts=o.parts:= by
    unfold Xr
    split
    · exact⟨Qa,Qa⟩
    · rename_i q
      refine⟨h.mn fun z=>q (List.eq_nil_of_length_eq_zero (by rw[h.len]; exact z)),rfl⟩
  obtain⟨s1,s2⟩:=hs
  have hg:QN o.parts (a:Int)=none:=H4.2 fun q=> by
    obtain⟨e,he,e1⟩:=List.mem_map.1 q
    have :=(h.rg e he).2
    omega
  have hadd:Ww (Xr o (Xa l)) ⟨1,n,a,Xa l,Rs l a⟩={Xr o (Xa l)with parts:=X6 (a:Int) (Rs l a) o.parts}:= by
    unfold Ww
    dsimp only
    rw[s2,hg,if_neg (by simp)]
  refine⟨s1, ?_, by rw[hadd]; exact s1⟩
  rw[hadd]
  refine⟨?_,h.srt.put, fun e he=> ?_, fun i d hd=> ?_, fun _=>s1⟩
  · show(X6 (a:Int) (Rs l a) o.parts).length=_
    rw[Pd h.srt,hg,if_neg (by simp),h.len]
  · have he:e∈X6 (a:Int) (Rs l a) o.parts:=he
    have :=MS (P:= fun e=>0≤e.1∧e.1<((a+1:Nat):Int)) (fun e he=> by have :=h.rg e he;omega) (by show 0≤(a:Int)∧(a:Int)<_;omega) e he
    exact this
  · have hd:QN (X6 (a:Int) (Rs l a) o.parts) i=some d:=hd
    rw[ZR h.srt]at hd
    by_cases k:i=(a:Int)
    · rw[if_pos k]at hd; cases hd; rw[k]
    · rw[if_neg k]at hd; exact h.pc i d hd
theorem TV (hu:E.cell≠none) (hn:0≤n∧n≤4611686018427387904) (ha:0≤(a:Int)∧(a:Int)<Xa l) (hl:Xa l≤8000):X9 E (Zy ⟨1,n,a,Xa l,Rs l a⟩)=Xo E ⟨1,n,a,Xa l,Rs l a⟩:= by
  rw[WR (up_no hu) (by simp) hn (by show Xy (a:Int);unfold Xy;omega) (by show Xy (Xa l);unfold Xy;omega) (by have :=Lp l a; show(Rs l a).length≤100000000000;omega)]
  unfold X8
  rw[if_neg (by simp),if_pos Qa]
theorem Ae (hk:E.kind≠1) (hm:E.move<n) (ho:o.move=n):Zr {E with off:=some o} n=some o:= by
  unfold Zr
  rw[if_neg (by rintro(q | q); exact hk q; have q:n≤E.move:=q;omega)]
  dsimp only
  rw[if_neg (by omega),if_neg (by omega)]
theorem L5 (h:Zr E n=some o):E.kind≠1∧E.move<n∧o.move=n:= by
  have :=CL (m:=⟨0,n,0,0,[]⟩) h
  exact⟨this.1,this.2.1,this.2.2.1⟩
theorem EJ (hu:E.cell≠none) (hn:0≤n∧n≤4611686018427387904) (hl:Xa l≤8000) (h:PS E n l a) (ha:((a+1:Nat):Int)<Xa l): ∃E',X9 E (Zy ⟨1,n,a,Xa l,Rs l a⟩)=(E',[])∧OffE E E'∧PS E' n l (a+1):= by
  obtain⟨o,h1,h2⟩:=h
  obtain⟨k1,k2,k3⟩:=L5 h1
  obtain⟨p1,p2,p3⟩:=h2.add (n:=n) (by omega)
  rw[TV hu hn (by omega) hl]
  unfold Xo
  dsimp only
  rw[if_neg (by omega),h1]
  dsimp only
  rw[if_neg (fun q=>q p1),if_pos (by rw[p2.len,p3]; exact ha)]
  refine⟨_,rfl,⟨rfl⟩,_,Ae k1 k2 (by rw[DD,Vm]; exact k3),p2⟩
theorem EK (hq:QE E) (hn:0≤n∧n≤4611686018427387904) (hl:Xa l≤8000) (h:PS E n l a) (ha:((a+1:Nat):Int)=Xa l) (hp:(Wp l).2=true): ∃E' o',X9 E (Zy ⟨1,n,a,Xa l,Rs l a⟩)=(E',[Zy ⟨2,n,0,0,[]⟩])∧QE E'∧E'.kind=2∧E'.move=n∧E'.off=some o'∧o'.move=n:= by
  obtain⟨o,h1,h2⟩:=h
  obtain⟨k1,k2,k3⟩:=L5 h1
  obtain⟨p1,p2,p3⟩:=h2.add (n:=n) (by omega)
  rw[TV hq.up hn (by omega) hl]
  unfold Xo
  dsimp only
  rw[if_neg (by omega),h1]
  dsimp only
  have hb:ZC (Ww (Xr o (Xa l)) ⟨1,n,a,Xa l,Rs l a⟩)=l:=TJ p2.srt (fun e he=> by have :=p2.rg e he; rw[p3];omega) p3 (by rw[p2.len,p3];omega) p2.pc
  rw[if_neg (fun q=>q p1),if_neg (by rw[p2.len,p3];omega),hb,if_neg (by rw[hp];decide)]
  have hq0:QE {E with off:=some {Ww (Xr o (Xa l)) ⟨1,n,a,Xa l,Rs l a⟩with list:=l}}:=hq.same Qa Qa Qa Qa (.inl Qa)
  obtain⟨n1,D,C,n2,n3⟩:=hq0.note (k:=2) (m:=n) (by decide) (RI hn)
  unfold Yx
  rw[if_neg (by rw[n1];decide),n2]
  exact⟨_,_,rfl,n3.same Qa Qa Qa Qa (.inl Qa),rfl,rfl,rfl, by show(Ww (Xr o (Xa l)) _).move=n; rw[DD,Vm]; exact k3⟩
theorem BM (hn:0≤n∧n≤4611686018427387904) (hl:Xa l≤8000): ∀(k:Nat) {E:EnD} {a:Nat},E.cell≠none→PS E n l a→((a+k:Nat):Int)<Xa l→ ∃E',HrQ E ((List.range' a k).map fun i=>Zy ⟨1,n,(i:Nat),Xa l,Rs l (i:Nat)⟩) E'∧OffE E E'∧PS E' n l (a+k)
  | 0,E,a,_,h,_=>⟨E,rfl,OffE.refl E,h⟩
  | k+1,E,a,hu,h,hk=> by
    obtain⟨E1,e1,e2,e3⟩:=EJ hu hn hl h (by omega)
    obtain⟨E2,f1,f2,f3⟩:=BM hn hl k (E:=E1) (a:=a+1) (by rw[e2.e]; exact hu) e3 (by omega)
    exact⟨E2,⟨E1,e1,f1⟩,e2.trans f2, by rw[show a+(k+1)=a+1+k by omega]; exact f3⟩
theorem BN {N:Int}: ∀(k:Nat) (a:Nat),((a+k:Nat):Int)≤N→(ZM E l N k (a:Int)).2=(List.range' a k).map fun i=>Zy ⟨1,E.move,(i:Nat),N,Rs l (i:Nat)⟩
  | 0,a,_=>rfl
  | k+1,a,h=> by
    unfold ZM
    dsimp only
    rw[List.range'_succ,List.map_cons]
    refine congr (congrArg List.cons Qa) ?_
    cases k with
    | zero=>rfl
    | succ k=>
      have e:((a:Int)+1)%N=((a+1:Nat):Int):= by rw[Int.emod_eq_of_lt (by omega) (by omega)];omega
      rw[e]
      exact BN (k+1) (a+1) (by omega)
end
structure EV (X:TwD) (g:SsD) (c t:Int):Prop where
  inv:INV X t
  w:XW X
  kx:KX X g c
  tb:t<4611686018427387904
section
variable {X Y:TwD} {P J E E' E1:EnD} {s:SeD} {g:SsD} {c t n:Int} {i j:Bool} {out:List Bs} {l:Bs} {m:MsD} {o:OfD} {b:Bs}
theorem EV.tick (h:EV X g c t) (j:Bool):EV (tickT X j) g c t:= by
  obtain⟨i,k⟩:=h.kx
  exact⟨h.inv.said (Y:=X) (fun _ q=>q) Qa fun _ h2 h3=>T3 h2 h3,h.w.tickT j,⟨i,k.tick h.inv h.w j⟩,h.tb⟩
theorem EV.arr (h:EV X g c t):EV (XQ X 0) g c t:= by
  obtain⟨i,k⟩:=h.kx
  exact⟨MR h.inv,h.w.arrive 0,k.arrive h.inv h.w 0,h.tb⟩
theorem EV.arrN: ∀(k:Nat) {X:TwD},EV X g c t→EV (arrN k X) g c t
  | 0,_,h=>h
  | k+1,X,h=> by
    show EV (if X.fl=[]then X else Go.Proofs.YtiibgheijbbmaaaGreatDoor.arrN k (XQ X 0)) g c t
    split
    · exact h
    · exact EV.arrN k h.arr
theorem EV.flow (h:EV X g c t):EV (Wj X) g c t:=EV.arrN 400 ((h.tick false).tick true)
theorem EV.ki (h:EV X g c t) (hk:(Q6 X i).kind=1):KI (Q6 X i) (Q6 X (!i)) g c (UR X i) (UR X (!i)):= by
  obtain⟨j,k⟩:=h.kx
  rcases(by cases i<;> cases j<;> simp :i=j∨i= !j)with e | e
  · subst e; exact k
  · have :=KI.jk k (k.fx h.inv)
    rw[←e]at this; exact absurd hk this
theorem EV.mv (h:EV X g c t) (hq:QE (Q6 X i)):0≤(Q6 X i).move∧(Q6 X i).move≤4611686018427387904:= by
  have h1:=h.inv.mv h.w i
  have h2:=hq.rg.2.2.1
  have :=h.tb
  omega
structure Ph0 (X:TwD) (i:Bool) (n:Int):Prop where
  fl:X.fl=[]
  cut:X.cut=false
  k:(Q6 X i).kind=1
  mv:(Q6 X i).move=n
  ac:(Q6 X i).active=true
  jk:(Q6 X (!i)).kind≠1
  jk2:(Q6 X (!i)).kind≠2
  jm:(Q6 X (!i)).move<n
  np:NoP (Q6 X (!i)) n
theorem Vj (hk:E.kind≠1) (hk2:E.kind≠2):X7 E=(E,[]):= by
  unfold X7
  by_cases q:upE E=false
  · rw[if_pos q]
  · rw[if_neg q,if_neg hk2,if_pos hk]
theorem VD (E:EnD): ∀(l:AL PgD) (k:Nat),(pushG E k l).2.length≤k
  | [],k=> by unfold pushG; exact Nat.zero_le _
  | e::l,k=> by
    unfold pushG
    split
    · exact VD E l k
    · cases k with
      | zero=> exact Nat.le_refl _
      | succ k=> have :=VD E l k; dsimp only; rw[List.length_cons];omega
theorem TG (w:SeW s) {k:Nat}: ∀b∈(pushG E k s.pages).2,∃a v d,b=Zy ⟨0,E.move,a,v,d⟩∧Xy a∧Xy v∧d.length≤64:= fun b hb=> by
  obtain⟨e,he,rfl⟩:=KT k s.pages b hb
  obtain⟨k1,k2,_,k4⟩:=w.pg e he
  exact⟨_,_,_,Qa,k1,k2,k4⟩
theorem Ph0.flow (hp:Ph0 X i n) (h:EV X g c t) (hf:(Q6 X i).frozen=false):Ph0 (Wj X) i n∧(Q6 (Wj X) i).frozen=false∧(Q6 (Wj X) i).next=(Q6 X i).next:= by
  have hK:=h.ki hp.k
  obtain⟨_,s,hs,_⟩:OW (Q6 X i) (Q6 X (!i)) g c (UR X i) (UR X (!i)):=hK.ki.resolve_right fun q=> by have :=q.1; have :=hp.k;omega
  have hW:=(h.w.at_ i).ses s hs
  have hmv:=h.mv hK.q
  rw[hp.mv]at hmv
  have ht:X7 (Q6 X i)=({Q6 X i with ses:=some {s with pages:=(pushG (Q6 X i) 4 s.pages).1}},(pushG (Q6 X i) 4 s.pages).2):= by
    unfold X7
    rw[if_neg hK.q.upE,if_neg (by rw[hp.k];decide),if_neg (fun q=>q hp.k),hs]
    dsimp only
    rw[if_pos hp.ac,if_pos hf]
  have hl:=VD (Q6 X i) s.pages 4
  obtain⟨E',q1,q2,q3⟩:=Kt hmv (l:=(pushG (Q6 X i) 4 s.pages).2) (E:=Q6 X (!i)) hK.r.up hp.jk hp.np (fun b hb=> by rw[←hp.mv]; exact TG hW b hb)
  have e:=F4 (Vj hp.jk hp.jk2) ht hp.fl hp.cut (by omega) q1
  have e1:Q6 (Wj X) i={Q6 X i with ses:=some {s with pages:=(pushG (Q6 X i) 4 s.pages).1}}:= by
    rw[e,MH,if_neg (by cases i<;>decide),Jx]
  have e2:Q6 (Wj X) (!i)=E':= by rw[e,Jx]
  refine⟨⟨by rw[e,WE,WE]; exact hp.fl, by rw[e,He,He]; exact hp.cut, by rw[e1]; exact hp.k, by rw[e1]; exact hp.mv, by rw[e1]; exact hp.ac, by rw[e2,q2.e]; exact hp.jk, by rw[e2,q2.e]; exact hp.jk2, by rw[e2,q2.e]; exact hp.jm, by rw[e2]; exact q3⟩, by rw[e1]; exact hf, by rw[e1]⟩
end
section
variable {X Y:TwD} {P J E E' E1:EnD} {s:SeD} {g:SsD} {c t n:Int} {i j:Bool} {out:List Bs} {l:Bs} {m:MsD} {o:OpD} {b:Bs} {id:Int} {d:Bs}
theorem Kk:(Xx E id d).2={E with ses:=(Xx E id d).2.ses}:= by
  unfold Xx
  split
  · rfl
  split
  · rfl
  cases E.ses with
  | none=>rfl
  | some s=> dsimp only;split<;>rfl
theorem GB:(XN E id).2={E with ses:=(XN E id).2.ses}:= by
  unfold XN
  split
  · rfl
  cases E.ses with
  | none=>rfl
  | some s=> dsimp only;split<;>rfl
theorem Ga:(XM E d).2={E with ses:=(XM E d).2.ses}:= by
  unfold XM
  split
  · rfl
  split<;>rfl
theorem Ph0.ses (hp:Ph0 X i n) (hE:E={Q6 X i with ses:=E.ses}):Ph0 (Z2 X i E) i n∧(Q6 (Z2 X i E) i).frozen=(Q6 X i).frozen∧(Q6 (Z2 X i E) i).next=(Q6 X i).next:= by
  have e1:Q6 (Z2 X i E) i=E:=Jx
  have e2:Q6 (Z2 X i E) (!i)=Q6 X (!i):=Yg
  refine⟨⟨by rw[WE]; exact hp.fl, by rw[He]; exact hp.cut, by rw[e1,hE]; exact hp.k, by rw[e1,hE]; exact hp.mv, by rw[e1,hE]; exact hp.ac, by rw[e2]; exact hp.jk, by rw[e2]; exact hp.jk2, by rw[e2]; exact hp.jm, by rw[e2]; exact hp.np⟩, by rw[e1,hE], by rw[e1,hE]⟩
theorem Ph0.chg (hp:Ph0 X i n) (hi:decide (o.n%2=1)=i) (hk:17≤o.dO%32∧o.dO%32≤20):Ph0 (Wy X o).2 i n∧(Q6 (Wy X o).2 i).frozen=(Q6 X i).frozen∧(Q6 (Wy X o).2 i).next=(Q6 X i).next:= by
  rcases(by omega:o.dO%32=17∨o.dO%32=18∨o.dO%32=19∨o.dO%32=20)with q | q | q | q
  · rw[Ow q hi]; exact hp.ses Kk
  · rw[Ov q hi]; exact hp.ses Kk
  · rw[Ou q hi]; exact hp.ses GB
  · rw[Ot q hi]; exact hp.ses Ga
theorem EV.runs (h:EV X g c t) (hk:(Q6 X i).kind=1) (hf:(Q6 X i).frozen=false):Z5 (Q6 X i)=true:= by
  have hK:=h.ki hk
  obtain⟨_,s,hs,_⟩:OW (Q6 X i) (Q6 X (!i)) g c (UR X i) (UR X (!i)):=hK.ki.resolve_right fun q=> by have :=q.1;omega
  have hu:upE (Q6 X i)=true:= by
    cases q:upE (Q6 X i)with
    | true=>rfl
    | false=> exact absurd q hK.q.upE
  unfold Z5 Hu
  rw[hu,Q8 hk,hs,hf];rfl
theorem Ph0.freeze (hp:Ph0 X i n) (h:EV X g c t) (hf:(Q6 X i).frozen=false):(Zb (Q6 X i)).1=0∧Ph0 (Z2 X i (Zb (Q6 X i)).2) i n∧(Q6 (Z2 X i (Zb (Q6 X i)).2) i).frozen=true∧(Q6 (Z2 X i (Zb (Q6 X i)).2) i).next=0:= by
  have hr:=h.runs hp.k hf
  have e:Zb (Q6 X i)=(0,{Q6 X i with frozen:=true}):= by
    unfold Zb
    rw[if_neg (by rw[hr,hp.ac]; simp)]
  obtain⟨s,hs⟩: ∃s,(Q6 X i).ses=some s:=(JO (by rw[hr];decide)).2.2.2
  have hx:=((h.w.at_ i).nx hp.ac s hs).2.2 hf
  rw[e]
  dsimp only
  have e1:Q6 (Z2 X i {Q6 X i with frozen:=true}) i={Q6 X i with frozen:=true}:=Jx
  have e2:Q6 (Z2 X i {Q6 X i with frozen:=true}) (!i)=Q6 X (!i):=Yg
  exact⟨rfl,⟨by rw[WE]; exact hp.fl, by rw[He]; exact hp.cut, by rw[e1]; exact hp.k, by rw[e1]; exact hp.mv, by rw[e1]; exact hp.ac, by rw[e2]; exact hp.jk, by rw[e2]; exact hp.jk2, by rw[e2]; exact hp.jm, by rw[e2]; exact hp.np⟩, by rw[e1], by rw[e1]; exact hx⟩
end
structure PhG (X:TwD) (i:Bool) (n:Int):Prop where
  fl:X.fl=[]
  cut:X.cut=false
  pk:(Q6 X i).kind=3
  pm:(Q6 X i).move=n
  jk:(Q6 X (!i)).kind=1
  jm:(Q6 X (!i)).move=n
  ja:(Q6 X (!i)).active=false
  jf:(Q6 X (!i)).frozen=false
  jt:(Q6 X (!i)).told=false
section
variable {X Y:TwD} {P J E E' E1:EnD} {s:SeD} {g:SsD} {c t n:Int} {i j:Bool} {out:List Bs} {l:Bs} {m:MsD} {o:OfD} {b:Bs}
theorem Ft (hq:QE P) (hn:0≤n∧n≤4611686018427387904) (hk:P.kind=1) (hm:P.move=n) (ha:P.active=true) (hf:P.frozen=true): ∃P',X9 P (Zy ⟨2,n,0,0,[]⟩)=(P',[Zy ⟨4,n,0,0,[]⟩])∧P'.kind=3∧P'.move=n∧P'.ses=P.ses:= by
  rw[WR hq.upE (by simp) hn XF XF (by simp)]
  unfold X8
  rw[if_neg (by simp),if_neg (by simp),if_pos (by simp)]
  unfold Xh
  rw[if_neg (by rintro⟨q,_⟩;omega),if_neg (fun q=>q hk),if_pos ⟨rfl,hm.symm,ha,hf⟩]
  obtain⟨n1,D,C,n2,n3⟩:=hq.note (k:=3) (m:=P.move) (by decide) ⟨hq.rg.2.2.1,hq.rg.2.2.2⟩
  rw[if_neg (by rw[n1];decide),n2]
  subst hm
  exact⟨_,Qa,Qa,Qa,Qa⟩
theorem Fu (hq:QE J) (hn:0≤n∧n≤4611686018427387904) (hk:J.kind=2) (hm:J.move=n) (ho:J.off=some o) (hom:o.move=n): ∃J',X9 J (Zy ⟨4,n,0,0,[]⟩)=(J',[])∧J'.kind=1∧J'.move=n∧J'.active=false∧J'.frozen=false∧J'.told=false:= by
  rw[WR hq.upE (by simp) hn XF XF (by simp)]
  unfold X8
  rw[if_neg (by simp),if_neg (by simp),if_neg (by simp),if_pos (by simp)]
  obtain⟨n1,D,C,n2,n3⟩:=hq.note (k:=1) (m:=n) (by decide) (RI hn)
  unfold XB
  dsimp only
  rw[if_neg (by omega),if_neg (by rw[n1];decide),ho]
  dsimp only
  rw[if_neg (by omega),n2]
  exact⟨_,Qa,Qa,Qa,Qa,Qa,Qa⟩
end
def TW (X:TwD) (i:Bool) (A B:EnD) (fl:List (Bool×Bs)):TwD:={Z2 (Z2 X i A) (!i) B with fl:=fl}
section
variable {X Y:TwD} {P J E E' E1 A B A' B':EnD} {s:SeD} {g:SsD} {c t n:Int} {i j:Bool} {out:List Bs} {l:Bs} {m:MsD} {o:OfD} {b:Bs} {fl f2 rest:List (Bool×Bs)}
theorem Kh:Q6 (TW X i A B fl) i=A:= by cases i<;>rfl
theorem Jz:Q6 (TW X i A B fl) (!i)=B:= by cases i<;>rfl
theorem tw_put:Z2 {TW X i A B fl with fl:=f2} i A'=TW X i A' B f2:= by cases i<;>rfl
theorem Lf:Z2 {TW X i A B fl with fl:=f2} (!i) B'=TW X i A B' f2:= by cases i<;>rfl
theorem Oi:(TW X i A B fl).fl=fl:=rfl
theorem DP:(TW X i A B fl).cut=X.cut:= by cases i<;>rfl
theorem NJ {l:List Bs} (k:Nat) (h:HrQ B l B'):arrN (l.length+k) (TW X i A B ((l.map fun b=>(!i,b))++rest))=arrN k (TW X i A B' rest):= by
  rw[B4 k (by rw[Jz]; exact h) Oi,Lf]
theorem SL {k:Nat} (h:X9 A b=(A',out)) (hc:X.cut=false) (hl:rest.length+out.length≤500):arrN (k+1) (TW X i A B ((i,b)::rest))=arrN k (TW X i A' B (rest++out.map fun b=>(!i,b))):= by
  have h2:X9 (Q6 (TW X i A B ((i,b)::rest)) i) b=(A',out):= by rw[Kh]; exact h
  rw[Ei h2 Oi,tw_put,Gb (by rw[DP]; exact hc) hl];rfl
theorem Ct {k:Nat} (h:X9 B b=(B',out)) (hc:X.cut=false) (hl:rest.length+out.length≤500):arrN (k+1) (TW X i A B ((!i,b)::rest))=arrN k (TW X i A B' (rest++out.map fun b=>(i,b))):= by
  have h2:X9 (Q6 (TW X i A B ((!i,b)::rest)) (!i)) b=(B',out):= by rw[Jz]; exact h
  rw[Ei h2 Oi,Lf,Gb (by rw[DP]; exact hc) hl,Bool.not_not];rfl
theorem tw_tick (h:X7 (Q6 X i)=(E',out)) (hf:X.fl=[]) (hc:X.cut=false) (hl:out.length≤500):tickT X i=TW X i E' (Q6 X (!i)) (out.map fun b=>(!i,b)):= by
  rw[DR h hf hc hl]; cases i<;>rfl
theorem CW (hp:Ph0 X i n) (h:EV X g c t) (hf:(Q6 X i).frozen=true) (hx:(Q6 X i).next=0) (h32: ∀s,(Q6 X i).ses=some s→Xa (Xf s)≤32):PhG (Wj X) i n:= by
  have hK:=h.ki hp.k
  obtain⟨_,s,hs,hO,_⟩:OW (Q6 X i) (Q6 X (!i)) g c (UR X i) (UR X (!i)):=hK.ki.resolve_right fun q=> by have :=q.1; have :=hp.k;omega
  have hW:=(h.w.at_ i).ses s hs
  have hmv:=h.mv hK.q
  rw[hp.mv]at hmv
  have hsim:=W3 (Q6 X i) s.pages 4
  have hls:=Yn hsim
  have h3:=h32 s hs
  have hpos:=Uw (Ui (s:=s))
  obtain⟨k,hk⟩: ∃k:Nat,Xa (Xf s)=((k+1:Nat):Int):=⟨(Xa (Xf s)).toNat -1, by omega⟩
  have hl:=VD (Q6 X i) s.pages 4
  obtain⟨J1,q1,q2,q3⟩:=Kt hmv (l:=(pushG (Q6 X i) 4 s.pages).2) (E:=Q6 X (!i)) hK.r.up hp.jk hp.np (fun b hb=> by rw[←hp.mv]; exact TG hW b hb)
  have u1:J1.cell≠none:= by rw[q2.e]; exact hK.r.up
  obtain⟨J2,r1,r2,r3⟩:=BM hmv (l:=Xf s) (by omega) k (a:=0) u1 (OD (l:=Xf s) (by rw[q2.e]; exact hp.jk) (by rw[q2.e]; exact hp.jm) q3) (by omega)
  have hJ2:QE J2:= by rw[(q2.trans r2).e]; exact hK.r.same Qa Qa Qa Qa (.inl Qa)
  obtain⟨J3,o',v1,v2,v3,v4,v5,v6⟩:=EK hJ2 hmv (by omega) r3 (by omega) (by rw[hO.parse hW])
  obtain⟨J4,x1,x2,x3,x4,x5,x6⟩:=Fu v2 hmv v3 v4 v5 v6
  obtain⟨E1,t1,t2,t3,t4,t5,t6,t7⟩: ∃E1,X7 (Q6 X i)=(E1,(pushG (Q6 X i) 4 s.pages).2++(List.range' 0 (k+1)).map fun a=>Zy ⟨1,n,(a:Nat),Xa (Xf s),Rs (Xf s) (a:Nat)⟩)∧E1.kind=1∧E1.move=n∧E1.active=true∧E1.frozen=true∧QE E1∧E1.ses≠none:= by
    have hr:=BN (E:=Q6 X i) (l:=Xf s) (N:=Xa (Xf s)) (k+1) 0 (by omega)
    rw[hp.mv]at hr
    refine⟨{Q6 X i with ses:=some {s with pages:=(pushG (Q6 X i) 4 s.pages).1},next:=(ZM (Q6 X i) (Xf s) (Xa (Xf s)) (k+1) 0).1}, ?_,hp.k,hp.mv,hp.ac,hf,hK.q.same Qa Qa Qa Qa (.inl Qa), by simp⟩
    unfold X7
    rw[if_neg hK.q.upE,if_neg (by rw[hp.k];decide),if_neg (fun q=>q hp.k),hs]
    dsimp only
    rw[if_pos hp.ac,if_neg (by rw[hf];decide),hls,hx, show(min (Xa (Xf s)) 32).toNat=k+1 by omega,←hr]
    rfl
  obtain⟨P',y1,y2,y3,y4⟩:=Ft t6 hmv t2 t3 t4 t5
  have e:Wj X=TW X i P' J4 []:= by
    rw[MA (Vj hp.jk hp.jk2),tw_tick t1 hp.fl hp.cut (by rw[List.length_append,List.length_map,List.length_range'];omega)]
    have hsp:(pushG (Q6 X i) 4 s.pages).2++(List.range' 0 (k+1)).map (fun a=>Zy ⟨1,n,(a:Nat),Xa (Xf s),Rs (Xf s) (a:Nat)⟩)=((pushG (Q6 X i) 4 s.pages).2++(List.range' 0 k).map fun a=>Zy ⟨1,n,(a:Nat),Xa (Xf s),Rs (Xf s) (a:Nat)⟩)++[Zy ⟨1,n,((0+k:Nat):Int),Xa (Xf s),Rs (Xf s) ((0+k:Nat):Int)⟩]:= by
      rw[List.range'_1_concat,List.map_append,List.append_assoc];rfl
    rw[hsp,List.map_append]
    have hq:=q1.app r1
    have hlen:((pushG (Q6 X i) 4 s.pages).2++(List.range' 0 k).map fun a=>Zy ⟨1,n,(a:Nat),Xa (Xf s),Rs (Xf s) (a:Nat)⟩).length≤36:= by rw[List.length_append,List.length_map,List.length_range'];omega
    generalize hA:((pushG (Q6 X i) 4 s.pages).2++(List.range' 0 k).map fun a=>Zy ⟨1,n,(a:Nat),Xa (Xf s),Rs (Xf s) (a:Nat)⟩)=A at *
    have e400:400=A.length+((400 -A.length -3)+1+1+1):= by omega
    rw[e400,NJ _ hq]
    simp only[Nat.zero_add,List.map_cons,List.map_nil]at v1⊢
    rw[Ct v1 hp.cut (by simp),List.nil_append,List.map_cons,List.map_nil,SL y1 hp.cut (by simp),List.nil_append,List.map_cons,List.map_nil,Ct x1 hp.cut (by simp),KE Qa]
    rfl
  rw[e]
  exact⟨rfl, by rw[DP]; exact hp.cut, by rw[Kh]; exact y2, by rw[Kh]; exact y3, by rw[Jz]; exact x2, by rw[Jz]; exact x3, by rw[Jz]; exact x4, by rw[Jz]; exact x5, by rw[Jz]; exact x6⟩
end
def G64 (g:SsD):Prop:= ∀e∈g.sheets,e.2.length=64
section
variable {X Y:TwD} {P J E E' E1 A B A' B':EnD} {s u:SeD} {g:SsD} {c t n id:Int} {i j:Bool} {out:List Bs} {l:Bs} {m:MsD} {o:OfD} {b:Bs} {fl f2 rest:List (Bool×Bs)} {ids:List Int} {d:Bs} {p:PgD}
def filE (E:EnD) (s:SeD) (id:Int) (p:PgD) (d:Bs):EnD:={E with ses:=some {s with pages:=X6 id {p with miss:=false,data:=d} s.pages}}
theorem Ak (hu:E.cell≠none) (hn:0≤n∧n≤4611686018427387904) (hk:E.kind=1) (hm:E.move=n) (hs:E.ses=some s) (hp:QN s.pages id=some p) (hms:p.miss=true) (hi:Xy id) (hv:Xy p.ver) (hd:d.length=64):X9 E (Zy ⟨0,n,id,p.ver,d⟩)=(filE E s id p d,[]):= by
  rw[WR (up_no hu) (by simp) hn hi hv (by show d.length≤100000000000;omega)]
  unfold X8
  rw[if_pos Qa]
  unfold Xp
  rw[if_neg (fun q=>q hk),hs]
  dsimp only
  rw[if_neg (by rintro(q | q); exact q hm.symm; exact q hd),hp]
  dsimp only
  rw[if_pos ⟨hms,rfl⟩]
  rfl
theorem Mv: ∀{l:AL PgD},Srt l→QN l id=some p→Wd (X6 id {p with miss:=false,data:=d} l)=(Wd l).filter fun x=> !decide (x=id)
  | [],_,h=> by cases h
  | e::l,hs,h=> by
    rw[XE]at h
    unfold X6
    by_cases k:e.1=id
    · rw[if_pos k]at h; cases h
      rw[if_neg (by omega),if_pos k]
      unfold Wd
      have hl:(l.filter fun e=>e.2.miss).filter (fun f=> !decide (f.1=id))=l.filter fun e=>e.2.miss:= by
        rw[List.filter_eq_self]
        intro f hf
        have :=hs.head f.1 (List.mem_map.2 ⟨f,(List.mem_filter.1 hf).1,rfl⟩)
        simp;omega
      rw[List.filter_map]
      show List.map _ (List.filter _ ((id,_)::l))=_
      rw[List.filter_cons,if_neg (by simp)]
      rw[List.filter_cons]
      split
      · rw[List.filter_cons,if_neg (by simp [k])]
        exact congrArg _ hl.symm
      · exact congrArg _ hl.symm
    · rw[if_neg k]at h
      have hlt:e.1<id:=hs.head id (Jv.1 ⟨_,h⟩)
      rw[if_pos hlt]
      have ih:=Mv hs.tail h
      unfold Wd at ih⊢
      rw[List.filter_cons,List.filter_cons]
      split
      · rw[List.map_cons,List.map_cons,List.filter_cons,if_pos (by simp;omega),ih]
      · exact ih
end
def pgM (u:SeD) (n id:Int):Bs:= match QN u.pages id with
  | none=>[]
  | some q=>Zy ⟨0,n,id,q.ver,q.data⟩
section
variable {X Y:TwD} {P J E E' E1 A B A' B':EnD} {s u:SeD} {g:SsD} {c t n id:Int} {i j:Bool} {out:List Bs} {l:Bs} {m:MsD} {o:OfD} {b:Bs} {fl f2 rest:List (Bool×Bs)} {ids:List Int} {d:Bs} {p q:PgD}
theorem Ai (hq:QE P) (hn:0≤n∧n≤4611686018427387904) (hk:P.kind=3) (hm:P.move=n) (hs:P.ses=some u) (hp:QN u.pages id=some q) (hi:Xy id):X9 P (Zy ⟨6,n,id,0,[]⟩)=(P,[pgM u n id]):= by
  rw[WR hq.upE (by simp) hn hi XF (by simp)]
  unfold X8
  rw[if_neg (by simp),if_neg (by simp),if_neg (by simp),if_neg (by simp),if_neg (by simp),if_pos (by simp)]
  unfold Zv pgM
  rw[if_neg (by rintro(r | r); exact r hk; exact r hm.symm),hs]
  dsimp only
  rw[hp]
  dsimp only
  unfold Ze
  rw[hm]
theorem DK (hq:QE P) (hn:0≤n∧n≤4611686018427387904) (hk:P.kind=3) (hm:P.move=n) (hs:P.ses=some u) (hc:X.cut=false) (k:Nat): ∀{ids:List Int} {rest:List (Bool×Bs)},(∀id∈ids,Xy id∧ ∃q,QN u.pages id=some q)→rest.length+ids.length≤400→arrN (ids.length+k) (TW X i P B ((ids.map fun id=>(i,Zy ⟨6,n,id,0,[]⟩))++rest))=arrN k (TW X i P B (rest++ids.map fun id=>(!i,pgM u n id)))
  | [],rest,_,_=> by simp
  | id::ids,rest,h,hl=> by
    obtain⟨h1,q,h2⟩:=h id List.mem_cons_self
    rw[List.length_cons]at hl⊢
    rw[show ids.length+1+k=(ids.length+k)+1 by omega,List.map_cons,List.cons_append,SL (Ai hq hn hk hm hs h2 h1) hc (by rw[List.length_append,List.length_map]; simp;omega)]
    rw[List.append_assoc,DK hq hn hk hm hs hc k (fun id MY=>h id (List.mem_cons_of_mem _ MY)) (by rw[List.length_append]; simp;omega)]
    simp
end
section
variable {u:SeD} {n:Int}
theorem MD (hn:0≤n∧n≤4611686018427387904): ∀{ids:List Int} {E:EnD} {s:SeD},E.cell≠none→E.kind=1→E.move=n→E.ses=some s→Srt s.pages→ids.Nodup→(∀id∈ids,Xy id∧ ∃p q,QN s.pages id=some p∧p.miss=true∧QN u.pages id=some q∧q.ver=p.ver∧Xy q.ver∧q.data.length=64)→ ∃s',HrQ E (ids.map (pgM u n)) {E with ses:=some s'}∧Srt s'.pages∧Wd s'.pages=(Wd s.pages).filter fun x=> !decide (x∈ids)
  | [],E,s,_,_,_,h4,h5,_,_=>⟨s, by rw[←h4]; exact rfl,h5,(List.filter_eq_self.2 (by simp)).symm⟩
  | id::ids,E,s,h1,h2,h3,h4,h5,h6,h7=> by
    obtain⟨a1,p,q,a2,a3,a4,a5,a6,a7⟩:=h7 id List.mem_cons_self
    obtain⟨n1,n2⟩:=List.nodup_cons.1 h6
    have hh:=Ak (d:=q.data) h1 hn h2 h3 h4 a2 a3 a1 (by rw[←a5]; exact a6) a7
    have hpg:pgM u n id=Zy ⟨0,n,id,p.ver,q.data⟩:= by unfold pgM; rw[a4]; dsimp only; rw[a5]
    obtain⟨s',b1,b2,b3⟩:=MD hn (ids:=ids) (E:=filE E s id p q.data) (s:={s with pages:=X6 id {p with miss:=false,data:=q.data} s.pages}) h1 h2 h3 rfl h5.put n2 fun id' MY=> by
      obtain⟨c1,p',q',c2,c3⟩:=h7 id' (List.mem_cons_of_mem _ MY)
      refine⟨c1,p',q', ?_,c3⟩
      show QN (X6 id _ s.pages) id'=_
      rw[ZR h5,if_neg (fun z=>n1 (by rw[←z]; exact MY))]; exact c2
    refine⟨s',⟨_, by rw[hpg]; exact hh,b1⟩,b2, ?_⟩
    rw[b3]
    show(Wd (X6 id _ s.pages)).filter _=_
    rw[Mv h5 a2,List.filter_filter]
    refine List.filter_congr fun x _=> ?_
    by_cases z:x=id<;> simp [z]
end
def EL (x:Int):Bool:= !decide (1≤x∧x≤40)
structure CntG (g:SsD):Prop where
  out:((XY g.sheets).filter EL).length≤30
  g64:G64 g
section
variable {X Y:TwD} {P J E E' E1:EnD} {s u:SeD} {g:SsD} {c t n id r:Int} {i j:Bool} {l:Bs} {m:MsD} {o:OpD} {d:Bs}
theorem Sb {q:Int→Bool}: ∀l:List Int,l.length=(l.filter q).length+(l.filter fun x=> !q x).length
  | []=>rfl
  | a::l=> by
    have :=Sb (q:=q) l
    rw[List.filter_cons,List.filter_cons]
    cases h:q a<;> simp <;>omega
theorem CntG.len (h:CntG g) (hs:Srt g.sheets):g.sheets.length≤70:= by
  have h1:=Sb (q:=EL) (XY g.sheets)
  have h2:=M0 (ks:=(XY g.sheets).filter fun x=> !EL x) (a:=1) (n:=41) (List.Pairwise.filter _ hs) (fun k hk=> by
    have :=(List.mem_filter.1 hk).2
    unfold EL at this
    simp at this
    omega) (by decide)
  have h3:(XY g.sheets).length=g.sheets.length:= by unfold XY; rw[List.length_map]
  have :=h.out
  omega
theorem Lj {q:Int→Bool} (hq:q id=false): ∀l:AL Bs,(XY (X6 id d l)).filter q=(XY l).filter q
  | []=> by show List.filter q [id]=[]; simp [hq]
  | e::l=> by
    unfold X6
    split
    · show(e.1::XY (X6 id d l)).filter q=(e.1::XY l).filter q
      rw[List.filter_cons,List.filter_cons,Lj hq l]
    split
    · rename_i h; show(id::XY l).filter q=(e.1::XY l).filter q; rw[h]
    · show(id::e.1::XY l).filter q=(e.1::XY l).filter q
      rw[List.filter_cons,if_neg (by rw[hq];decide)]
theorem CntG.chg (h:CntG g) (hs:Srt g.sheets) (hk:17≤o.dO%32∧o.dO%32≤20) (MY:o.dO%32=20∨(1≤o.id∧o.id≤40)):CntG (YM g o):= by
  by_cases k20:o.dO%32=20
  · rw[V3 k20]; exact⟨h.out,h.g64⟩
  by_cases k19:o.dO%32=19
  · rw[Np k19]
    refine⟨Nat.le_trans (List.Sublist.length_le ?_) h.out, fun e he=>h.g64 e (List.mem_filter.1 he).1⟩
    exact(List.Sublist.map _ List.filter_sublist).filter _
  · rw[Nn hs k20 k19]
    refine⟨?_, fun e he=> ?_⟩
    · show((XY (X6 o.id _ g.sheets)).filter EL).length≤30
      rw[Lj (by unfold EL; simp;omega)]; exact h.out
    · exact MS (P:= fun e:Int×Bs=>e.2.length=64) (fun e he=>h.g64 e he) (by show(List.replicate 64 o.b).length=64; simp) e he
theorem CntG.keep (h:CntG g) (hs:Srt g.sheets) (MY:17≤o.dO%32∧o.dO%32≤20→o.dO%32=20∨(1≤o.id∧o.id≤40)):CntG (JY r g o):= by
  by_cases hk:17≤o.dO%32∧o.dO%32≤20
  · by_cases hr:r=0
    · rw[hr,Ux hk]; exact h.chg hs hk (MY hk)
    · rw[H3 hr]; exact h
  · rw[Y6 hk]; exact h
theorem OwS.len (h:OwS s g c):s.pages.length=g.sheets.length:= by
  have e:(s.pages.map fun e=>(e.1,()))=g.sheets.map fun e=>(e.1,()):= by
    refine N6 (Srt.map (f:= fun _=>()) h.srt) (Srt.map (f:= fun _=>()) h.gs) fun id=> ?_
    rw[Hl (f:= fun _=>()),Hl (f:= fun _=>())]
    have :=h.ids id
    cases h1:QN s.pages id<;> cases h2:QN g.sheets id<;>simp_all
  have :=congrArg List.length e
  simpa using this
theorem Lx: ∀{l:AL PgD},(∀e∈l,Xy e.1∧Xy e.2.ver)→(l.flatMap fun e=>Xi e.1++Xi e.2.ver).length≤42*l.length
  | [],_=>Nat.le_refl _
  | e::l,h=> by
    have ih:=Lx (l:=l) fun x hx=>h x (List.mem_cons_of_mem _ hx)
    obtain⟨h1,h2⟩:=h e List.mem_cons_self
    have :=(Wt h1).2
    have :=(Wt h2).2
    rw[List.flatMap_cons,List.length_append,List.length_append,List.length_cons]
    omega
theorem list_32 (h:OwS s g c) (w:SeW s) (hl:g.sheets.length≤70):Xa (Xf s)≤32:= by
  have h1:=Lx (l:=s.pages) fun e he=>⟨(w.pg e he).1,(w.pg e he).2.1⟩
  have h2:=h.len
  have h3:=(Wt (n:=(s.pages.length:Int)) (by unfold Xy;omega)).2
  have h4:=h.sl
  have h5:=V2 (s:=s.state) (by omega)
  have h6:(Xf s).length≤4000:= by
    unfold Xf
    rw[List.length_append,List.length_append]
    omega
  unfold Xa
  omega
theorem EV.gs (h:EV X g c t):Srt g.sheets:= by
  obtain⟨i,k⟩:=h.kx
  exact KI.gs k
def chgT (X:TwD) (i:Bool) (o:OpD):Int×TwD:=
  if o.dO%32=19 then YX X i (XN (Q6 X i) o.id)
  else if o.dO%32=20 then YX X i (XM (Q6 X i) o.s)
  else YX X i (Xx (Q6 X i) o.id (List.replicate 64 o.b))
theorem EV.mvI (h:EV X g c t) (i:Bool):Xy ((Q6 X i).move+1):= by
  have h1:=h.inv.mv h.w i
  have h2:=(h.w.at_ i).km.2.2.1
  have h3:=h.tb
  unfold Xy;omega
theorem EV.give (h:EV X g c t) (i:Bool) (ht:t+1<4611686018427387904):EV (Z2 X i (Wi (Q6 X i)).2) g (c+1) (t+1):= by
  obtain⟨j,k⟩:=h.kx
  have hx:=k.same (j:=i) (o:=⟨14,0,0,0,[],[]⟩) h.inv (r:=Wi (Q6 X i)) (fun q f=>q.give f (h.mvI i)) (fun q=> by unfold Wi; rw[if_pos (.inl (JP q))]) (by show ¬(17≤(14:Int)%32∧_); rintro⟨q,_⟩; exact absurd q (by decide))
  rw[Y6 (by show ¬(17≤(14:Int)%32∧_); rintro⟨q,_⟩; exact absurd q (by decide))]at hx
  exact⟨I3 h.inv (by omega),h.w.put ((h.w.at_ i).give (h.mvI i)),hx,ht⟩
theorem EV.freeze (h:EV X g c t) (i:Bool) (ht:t+1<4611686018427387904):EV (Z2 X i (Zb (Q6 X i)).2) g (c+1) (t+1):= by
  obtain⟨j,k⟩:=h.kx
  have hx:=k.same (j:=i) (o:=⟨14,0,0,0,[],[]⟩) h.inv (r:=Zb (Q6 X i)) (fun q _=>q.freeze) (fun q=> by unfold Zb; rw[if_pos (.inl (JP q))]) (by show ¬(17≤(14:Int)%32∧_); rintro⟨q,_⟩; exact absurd q (by decide))
  rw[Y6 (by show ¬(17≤(14:Int)%32∧_); rintro⟨q,_⟩; exact absurd q (by decide))]at hx
  exact⟨IN2.wide (h.inv.mute fun _ h2 h3=>PT h2 h3) (by omega),h.w.put (h.w.at_ i).freeze,hx,ht⟩
theorem EV.chg (h:EV X g c t) (hk:17≤o.dO%32∧o.dO%32≤20) (hs:o.s.length≤900) (hc:c<4611686018427387904) (ht:t+1<4611686018427387904):EV (chgT X i o).2 (JY (chgT X i o).1 g o) (c+1) (t+1):= by
  have w: ∀{Y},INV Y t→INV Y (t+1):= fun q=>IN2.wide q (by omega)
  obtain⟨j,k⟩:=h.kx
  have hgs:Srt g.sheets:=KI.gs k
  have hE:=h.w.at_ i
  have P: ∀{r:Int×EnD},EW r.2→XW (YX X i r).2:= fun q=>h.w.put q
  unfold chgT
  split
  · rename_i k19
    exact⟨w (h.inv.mute fun _ h2 h3=>Tm h2 h3 _),P (hE.dropPage _),k.chg h.inv (fun q=>⟨fun z=>((q.dropPage (id:=o.id)).1 z).less',(q.dropPage (id:=o.id)).2⟩) (fun q=> by unfold XN; rw[if_pos (JP q)]) (fun q _=> by
      split
      · rename_i z; rw[z,Ux (by omega),Np k19]
      · rename_i z; exact H3 z),ht⟩
  split
  · rename_i k20
    exact⟨w (h.inv.mute fun _ h2 h3=>Td h2 h3 _),P (hE.setState _),k.chg h.inv (fun q=>⟨fun z=>((q.setState hs).1 z).less',(q.setState hs).2⟩) (fun q=> by unfold XM; rw[if_pos (JP q)]) (fun q _=> by
      split
      · rename_i z; rw[z,Ux (by omega),V3 k20]
      · rename_i z; exact H3 z),ht⟩
  · exact⟨w (h.inv.mute fun _ h2 h3=>Cz h2 h3 _ _),P (hE.setPage _ _),k.chg h.inv (fun q=>q.setPage hc) (fun q=> by unfold Xx; rw[if_pos (JP q)]) (fun q _=> by
      split
      · rename_i z; rw[z,Ux (by omega),Nn hgs (by omega) (by omega)]
      · rename_i z; exact H3 z),ht⟩
theorem Ph0.chgT (hp:Ph0 X i n):Ph0 (chgT X i o).2 i n∧(Q6 (chgT X i o).2 i).frozen=(Q6 X i).frozen∧(Q6 (chgT X i o).2 i).next=(Q6 X i).next:= by
  unfold Go.Proofs.YtiibgheijbbmaaaGreatDoor.chgT
  split
  · exact hp.ses GB
  split
  · exact hp.ses Ga
  · exact hp.ses Kk
end
def GV (X:TwD) (g:SsD) (b:Int):Prop:= ∃c t,EV X g c t∧c≤b∧t≤b∧CntG g
section
variable {X:TwD} {g:SsD} {b:Int} {i:Bool} {o:OpD}
theorem GV.flow (h:GV X g b):GV (Wj X) g b:= by
  obtain⟨c,t,h1,h2⟩:=h
  exact⟨c,t,h1.flow,h2⟩
theorem GV.give (h:GV X g b) (hb:b<100000000000) (i:Bool):GV (Z2 X i (Wi (Q6 X i)).2) g (b+1):= by
  obtain⟨c,t,h1,h2,h3,h4⟩:=h
  exact⟨c+1,t+1,h1.give i (by omega), by omega, by omega,h4⟩
theorem GV.freeze (h:GV X g b) (hb:b<100000000000) (i:Bool):GV (Z2 X i (Zb (Q6 X i)).2) g (b+1):= by
  obtain⟨c,t,h1,h2,h3,h4⟩:=h
  exact⟨c+1,t+1,h1.freeze i (by omega), by omega, by omega,h4⟩
theorem GV.chg (h:GV X g b) (hb:b<100000000000) (hk:17≤o.dO%32∧o.dO%32≤20) (hs:o.s.length≤900) (MY:o.dO%32=20∨(1≤o.id∧o.id≤40)):GV (chgT X i o).2 (JY (chgT X i o).1 g o) (b+1):= by
  obtain⟨c,t,h1,h2,h3,h4⟩:=h
  exact⟨c+1,t+1,h1.chg hk hs (by omega) (by omega), by omega, by omega,h4.keep h1.gs fun _=>MY⟩
theorem GV.wide {b':Int} (h:GV X g b) (hb:b≤b'):GV X g b':= by
  obtain⟨c,t,h1,h2,h3,h4⟩:=h
  exact⟨c,t,h1, by omega, by omega,h4⟩
end
structure Rest (X:TwD) (i:Bool):Prop where
  fl:X.fl=[]
  cut:X.cut=false
  k:(Q6 X i).kind=1
  ac:(Q6 X i).active=false
  fr:(Q6 X i).frozen=false
  ms:QP (Q6 X i)=[]
  jk2:(Q6 X (!i)).kind≠2
structure PhZ (X:TwD) (i:Bool) (n:Int):Prop where
  fl:X.fl=[]
  cut:X.cut=false
  pk:(Q6 X i).kind=3
  pm:(Q6 X i).move=n
  ps:(Q6 X i).ses=none
  jk:(Q6 X (!i)).kind=1
  jm:(Q6 X (!i)).move=n
  ja:(Q6 X (!i)).active=false
  jf:(Q6 X (!i)).frozen=false
  jt:(Q6 X (!i)).told=true
  jm0:QP (Q6 X (!i))=[]
section
variable {X Y:TwD} {P J E E' E1 A B A' B':EnD} {s u:SeD} {g:SsD} {b c t n id:Int} {i j:Bool} {out:List Bs} {l:Bs} {m:MsD} {o:OpD} {fl:List (Bool×Bs)} {ids:List Int} {d:Bs} {p q:PgD}
theorem Rest.give (hr:Rest X i) (h:EV X g c t):(Wi (Q6 X i)).1=0∧Ph0 (Z2 X i (Wi (Q6 X i)).2) i ((Q6 X i).move+1)∧(Q6 (Z2 X i (Wi (Q6 X i)).2) i).frozen=false:= by
  have hK:=h.ki hr.k
  have hrun:=h.runs hr.k hr.fr
  have f:=fx_of h.inv hK.q hK.r
  have hl:=f.leg hr.k
  have hmv:Xy ((Q6 X i).move+1):= by
    have h1:=h.inv.mv h.w i
    have h2:=(h.w.at_ i).km.2.2.1
    have h3:=h.tb
    unfold Xy;omega
  obtain⟨n1,D,C,n2,n3⟩:=hK.q.note (k:=1) (m:=(Q6 X i).move+1) (by decide) ⟨by have :=hK.q.rg.2.2.1;omega,hmv⟩
  have e:Wi (Q6 X i)=(0,{Q6 X i with D:=D,cell:=some C,kind:=1,move:=(Q6 X i).move+1,active:=true,next:=0,ses:=(Q6 X i).ses.map fun s=>{s with pages:=s.pages.map fun e=>(e.1,{e.2 with sent:=0})}}):= by
    unfold Wi
    rw[if_neg (by rw[hrun,hr.ms,hr.ac]; simp),if_neg (by rw[n1];decide),n2]
  rw[e]
  dsimp only
  refine⟨rfl,⟨by rw[WE]; exact hr.fl, by rw[He]; exact hr.cut, by rw[Jx], by rw[Jx], by rw[Jx], by rw[Yg]; exact hl.1, by rw[Yg]; exact hr.jk2, by rw[Yg];omega, ?_⟩, by rw[Jx]; exact hr.fr⟩
  rw[Yg]
  intro o ho
  have :=hK.oj o ho
  exact⟨by omega, fun q=> by omega⟩
theorem PhZ.rest (h:PhZ X i n):Rest X (!i):=⟨h.fl,h.cut,h.jk,h.ja,h.jf,h.jm0, by rw[Bool.not_not,h.pk];decide⟩
theorem FQ (hs:Zi g=true) (hl:g.state.length≤900) (hn:g.sheets.length≤30):GV ⟨(Z3 JS g).2,JS,[],false⟩ g 1∧Rest ⟨(Z3 JS g).2,JS,[],false⟩ false:= by
  have hr:=Dm g.sheets 0 (Km hs).1
  have hb:Z3 JS g=(0,{(QS JS 1 1).2 with ses:=some (Yr g),active:=false,frozen:=false,told:=true}):= by
    unfold Z3
    rw[if_neg (by decide),if_neg (by rw[hs];decide),if_neg (by rintro⟨q,_⟩; exact q ⟨rfl,rfl⟩),if_pos ⟨rfl,rfl⟩,if_neg (by rw[Gl];decide)]
  refine⟨⟨1,1,⟨(AM hs).2,⟨new_W.begin,new_W,(fun p q=> by cases q), by simp⟩,S1 hs hl, by decide⟩, by decide, by decide, ?_, fun e he=>(hr.2 e he).2.2⟩, ?_⟩
  · refine Nat.le_trans (List.length_filter_le _ _) ?_
    unfold XY; rw[List.length_map]; exact hn
  · obtain⟨n1,D,C,n2,n3⟩:=new_q.note (k:=1) (m:=1) (by decide) (by unfold Xy;decide)
    rw[hb,n2]
    refine⟨rfl,rfl,rfl,rfl,rfl, ?_, by show(0:Int)≠2;decide⟩
    show Wd (Yr g).pages=[]
    unfold Wd
    rw[List.map_eq_nil_iff,List.filter_eq_nil_iff]
    intro e he
    obtain⟨f,_,rfl⟩:=List.mem_map.1 he
    simp
theorem NI (h:X7 (Q6 X (!i))=(E',out)) (hf:X.fl=[]) (hc:X.cut=false) (hl:out.length≤500):tickT X (!i)=TW X i (Q6 X i) E' (out.map fun b=>(i,b)):= by
  rw[DR h hf hc hl]; cases i<;>rfl
theorem Br (h:X7 (Q6 X i)=(Q6 X i,[])):Wj X=arrN 400 (tickT X (!i)):=MA (i:= !i) (by rw[Bool.not_not]; exact h)
theorem A9: ∀{a b:List Int},(a++b).Nodup→((a++b).filter fun x=> !decide (x∈a))=b:= fun {a b} h=> by
  rw[List.filter_append]
  have h1:(a.filter fun x=> !decide (x∈a))=[]:=List.filter_eq_nil_iff.2 fun x hx=> by simp [hx]
  have h2:(b.filter fun x=> !decide (x∈a))=b:=List.filter_eq_self.2 fun x hx=> by
    have :=(List.nodup_append.1 h).2.2
    simp only[Bool.not_eq_true',decide_eq_false_iff_not]
    exact fun q=>this x q x hx Qa
  rw[h1,h2];rfl
theorem Fj {l:AL PgD} (h:Srt l):(Wd l).Nodup:= by
  have h1:(Wd l).Pairwise (· < ·):=List.Pairwise.sublist (List.Sublist.map _ List.filter_sublist) h
  exact h1.imp fun q=> by omega
theorem OY {l:AL PgD} (h:Srt l) (hm:id∈Wd l): ∃p,QN l id=some p∧p.miss=true:= by
  unfold Wd at hm
  obtain⟨e,he,rfl⟩:=List.mem_map.1 hm
  obtain⟨h1,h2⟩:=List.mem_filter.1 he
  exact⟨e.2,Hk h h1,h2⟩
theorem EV.owner (h:EV X g c t) (hk:(Q6 X i).kind=1): ∃s,(Q6 X i).ses=some s∧OwS s g c∧SeW s∧(Nm s∨FET (Q6 X i) (Q6 X (!i)) s g (UR X i) (UR X (!i)))∧QP (Q6 X i)=Wd s.pages:= by
  have hK:=h.ki hk
  obtain⟨_,s,hs,hO,hN,_⟩:OW (Q6 X i) (Q6 X (!i)) g c (UR X i) (UR X (!i)):=hK.ki.resolve_right fun q=> by have :=q.1;omega
  exact⟨s,hs,hO,(h.w.at_ i).ses s hs,hN, by unfold QP; rw[hs]⟩
theorem PhG.fetch (hp:PhG X i n) (h:EV X g c t) (hG:G64 g) (hm:QP (Q6 X (!i))≠[]):PhG (Wj X) i n∧QP (Q6 (Wj X) (!i))=(QP (Q6 X (!i))).drop 4:= by
  have hK:=h.ki hp.jk
  rw[Bool.not_not]at hK
  obtain⟨s,hs,hO,hW,hN,hme⟩:=h.owner hp.jk
  rw[Bool.not_not]at hN
  rw[hme]at hm⊢
  have hF:=hN.resolve_left fun q=>hm ((Nm.of_miss hO.srt).2 q)
  obtain⟨u,hu,hu2⟩:=hF.ses
  have hmv:=h.mv hK.r
  rw[hp.pm]at hmv
  have hnd:=Fj hO.srt
  generalize hids:(Wd s.pages).take 4=ids
  have hil:ids.length≤4:= by rw[←hids,List.length_take];omega
  have hmem: ∀id∈ids,id∈Wd s.pages:= fun id q=> by rw[←hids]at q; exact List.mem_of_mem_take q
  have ht:X7 (Q6 X (!i))=(Q6 X (!i),ids.map fun id=>Zy ⟨6,n,id,0,[]⟩):= by
    unfold X7
    rw[if_neg hK.q.upE,if_neg (by rw[hp.jk];decide),if_neg (fun q=>q hp.jk),hs]
    dsimp only
    rw[if_neg (by rw[hp.ja];decide),if_neg (fun q=>hm q.1),List.append_nil,hids]
    unfold Ze
    rw[hp.jm]
  have hall: ∀id∈ids,Xy id∧ ∃p q,QN s.pages id=some p∧p.miss=true∧QN u.pages id=some q∧q.ver=p.ver∧Xy q.ver∧q.data.length=64:= fun id MY=> by
    obtain⟨p,hp1,hp2⟩:=OY hO.srt (hmem id MY)
    obtain⟨q,q1,q2,q3,q4⟩:=hu2 id p hp1 hp2
    have w1:=hW.pg (id,p) (JC hp1)
    exact⟨w1.1,p,q,hp1,hp2,q1,q3, by rw[q3]; exact w1.2.1,hG (id,q.data) (JC q4)⟩
  obtain⟨s',f1,f2,f3⟩:=MD (u:=u) hmv (ids:=ids) hK.q.up hp.jk hp.jm hs hO.srt (by rw[←hids]; exact List.Sublist.nodup (List.take_sublist _ _) hnd) hall
  have e:Wj X=TW X i (Q6 X i) {Q6 X (!i)with ses:=some s'} []:= by
    rw[Br (Vj (by rw[hp.pk];decide) (by rw[hp.pk];decide)),NI ht hp.fl hp.cut (by rw[List.length_map];omega), show 400=ids.length+((ids.map (pgM u n)).length+(400 -2*ids.length)) by rw[List.length_map];omega]
    have :=DK (i:=i) (B:=Q6 X (!i)) hK.r hmv hp.pk hp.pm hu hp.cut ((ids.map (pgM u n)).length+(400 -2*ids.length)) (ids:=ids) (rest:=[]) (fun id MY=>⟨(hall id MY).1, by obtain⟨_,p,q,_,_,q1,_⟩:=hall id MY; exact⟨q,q1⟩⟩) (by simp;omega)
    rw[List.append_nil,List.nil_append]at this
    rw[List.map_map]
    refine this.trans ?_
    have h2:=NJ (X:=X) (i:=i) (A:=Q6 X i) (rest:=[]) (400 -2*ids.length) f1
    rw[List.append_nil,List.map_map]at h2
    exact h2.trans (KE Qa)
  rw[e]
  refine⟨⟨rfl, by rw[DP]; exact hp.cut, by rw[Kh]; exact hp.pk, by rw[Kh]; exact hp.pm, by rw[Jz]; exact hp.jk, by rw[Jz]; exact hp.jm, by rw[Jz]; exact hp.ja, by rw[Jz]; exact hp.jf, by rw[Jz]; exact hp.jt⟩, ?_⟩
  rw[Jz]
  show Wd s'.pages=_
  rw[f3,←hids]
  have :=A9 (a:=(Wd s.pages).take 4) (b:=(Wd s.pages).drop 4) (by rw[List.take_append_drop]; exact hnd)
  rw[List.take_append_drop]at this
  exact this
theorem Al (hq:QE P) (hn:0≤n∧n≤4611686018427387904) (hk:P.kind=3) (hm:P.move=n):X9 P (Zy ⟨8,n,0,0,[]⟩)=({P with ses:=none},[Zy ⟨9,n,0,0,[]⟩]):= by
  rw[WR hq.upE (by simp) hn XF XF (by simp)]
  unfold X8
  rw[if_neg (by simp),if_neg (by simp),if_neg (by simp),if_neg (by simp),if_neg (by simp),if_neg (by simp),if_neg (by simp),if_pos (by simp)]
  unfold Z6 Ze
  rw[if_neg (by rintro(r | r); exact r hk; exact r hm.symm),hm]
theorem hear_ok (hq:QE J) (hn:0≤n∧n≤4611686018427387904) (hk:J.kind=1) (hm:J.move=n):X9 J (Zy ⟨9,n,0,0,[]⟩)=({J with told:=true},[]):= by
  rw[WR hq.upE (by simp) hn XF XF (by simp)]
  unfold X8
  rw[if_neg (by simp),if_neg (by simp),if_neg (by simp),if_neg (by simp),if_neg (by simp),if_neg (by simp),if_neg (by simp),if_neg (by simp)]
  unfold Jd
  rw[if_pos ⟨hk,hm.symm⟩]
theorem PhG.done (hp:PhG X i n) (h:EV X g c t) (hm:QP (Q6 X (!i))=[]):PhZ (Wj X) i n:= by
  have hK:=h.ki hp.jk
  rw[Bool.not_not]at hK
  obtain⟨s,hs,hO,hW,hN,hme⟩:=h.owner hp.jk
  have hm2:=hm
  rw[hme]at hm
  have hmv:=h.mv hK.r
  rw[hp.pm]at hmv
  have ht:X7 (Q6 X (!i))=(Q6 X (!i),[Zy ⟨8,n,0,0,[]⟩]):= by
    unfold X7
    rw[if_neg hK.q.upE,if_neg (by rw[hp.jk];decide),if_neg (fun q=>q hp.jk),hs]
    dsimp only
    rw[if_neg (by rw[hp.ja];decide),if_pos ⟨hm,hp.jt⟩,hm]
    unfold Ze
    rw[hp.jm];rfl
  have e:Wj X=TW X i {Q6 X i with ses:=none} {Q6 X (!i)with told:=true} []:= by
    rw[Br (Vj (by rw[hp.pk];decide) (by rw[hp.pk];decide)),NI ht hp.fl hp.cut (by simp), show 400=398+1+1 by rfl,List.map_cons,List.map_nil]
    rw[SL (Al hK.r hmv hp.pk hp.pm) hp.cut (by simp),List.nil_append,List.map_cons,List.map_nil,Ct (hear_ok hK.q hmv hp.jk hp.jm) hp.cut (by simp),KE Qa]
    rfl
  rw[e]
  exact⟨rfl, by rw[DP]; exact hp.cut, by rw[Kh]; exact hp.pk, by rw[Kh]; exact hp.pm, by rw[Kh], by rw[Jz]; exact hp.jk, by rw[Jz]; exact hp.jm, by rw[Jz]; exact hp.ja, by rw[Jz]; exact hp.jf, by rw[Jz], by rw[Jz]; exact hm2⟩
theorem PhZ.flow (hp:PhZ X i n) (h:EV X g c t):Wj X=X:= by
  have hK:=h.ki hp.jk
  rw[Bool.not_not]at hK
  obtain⟨s,hs,hO,hW,hN,hme⟩:=h.owner hp.jk
  have hm:=hp.jm0
  rw[hme]at hm
  have ht:X7 (Q6 X (!i))=(Q6 X (!i),[]):= by
    unfold X7
    rw[if_neg hK.q.upE,if_neg (by rw[hp.jk];decide),if_neg (fun q=>q hp.jk),hs]
    dsimp only
    rw[if_neg (by rw[hp.ja];decide),if_neg (by rw[hp.jt]; simp),hm]
    rfl
  rw[Br (Vj (by rw[hp.pk];decide) (by rw[hp.pk];decide)),Vh ht,KE hp.fl]
end
section
variable {X:TwD} {g:SsD} {b c t n:Int} {i:Bool}
theorem MB: ∀(k:Nat),flowN (k+1) X=flowN k (Wj X)
  | 0=>rfl
  | k+1=>congrArg Wj (MB k)
theorem PhZ.flowN (hp:PhZ X i n) (h:EV X g c t): ∀k:Nat,Go.Proofs.YtiibgheijbbmaaaGreatDoor.flowN k X=X
  | 0=>rfl
  | k+1=> by show Wj (Go.Proofs.YtiibgheijbbmaaaGreatDoor.flowN k X)=X; rw[hp.flowN h k]; exact hp.flow h
theorem Ca (hG:G64 g): ∀(k:Nat) {X:TwD},PhG X i n→EV X g c t→(QP (Q6 X (!i))).length≤4*k→PhZ (flowN (k+1) X) i n
  | 0,X,hp,h,hl=>hp.done h (List.eq_nil_of_length_eq_zero (by omega))
  | k+1,X,hp,h,hl=> by
    rw[MB]
    by_cases q:QP (Q6 X (!i))=[]
    · have hz:=hp.done h q
      rw[hz.flowN h.flow]; exact hz
    · obtain⟨h1,h2⟩:=hp.fetch h hG q
      exact Ca hG k h1 h.flow (by rw[h2,List.length_drop];omega)
end
def PhA (X:TwD) (i:Bool):Prop:= ∃n,Ph0 X i n∧(Q6 X i).frozen=false
def PhB (X:TwD) (i:Bool):Prop:= ∃n,Ph0 X i n∧(Q6 X i).frozen=true∧(Q6 X i).next=0
def PhC (X:TwD) (i:Bool):Prop:= ∃n,PhG X i n
section
variable {X:TwD} {g:SsD} {b:Int} {i:Bool} {o:OpD}
theorem GV.w (h:GV X g b):XW X:= by obtain⟨c,t,h,_⟩:=h; exact h.w
theorem GV.mvI (h:GV X g b) (i:Bool):Xy ((Q6 X i).move+1):= by
  obtain⟨c,t,h,_⟩:=h
  exact h.mvI i
theorem Rest.toA (hr:Rest X i) (h:GV X g b) (hb:b<100000000000):(Wi (Q6 X i)).1=0∧GV (Z2 X i (Wi (Q6 X i)).2) g (b+1)∧PhA (Z2 X i (Wi (Q6 X i)).2) i:= by
  have hs:=h.give hb i
  obtain⟨c,t,h1,_⟩:=h
  obtain⟨a1,a2,a3⟩:=hr.give h1
  exact⟨a1,hs,_,a2,a3⟩
theorem PhA.flow (hp:PhA X i) (h:GV X g b):PhA (Wj X) i:= by
  obtain⟨n,h1,h2⟩:=hp
  obtain⟨c,t,h,_⟩:=h
  obtain⟨a1,a2,_⟩:=h1.flow h h2
  exact⟨n,a1,a2⟩
theorem PhA.chg (hp:PhA X i):PhA (chgT X i o).2 i:= by
  obtain⟨n,h1,h2⟩:=hp
  obtain⟨a1,a2,_⟩:=h1.chgT (o:=o)
  exact⟨n,a1, by rw[a2]; exact h2⟩
theorem PhA.toB (hp:PhA X i) (h:GV X g b) (hb:b<100000000000):(Zb (Q6 X i)).1=0∧GV (Z2 X i (Zb (Q6 X i)).2) g (b+1)∧PhB (Z2 X i (Zb (Q6 X i)).2) i:= by
  have hs:=h.freeze hb i
  obtain⟨n,h1,h2⟩:=hp
  obtain⟨c,t,h,_⟩:=h
  obtain⟨a1,a2,a3,a4⟩:=h1.freeze h h2
  exact⟨a1,hs,n,a2,a3,a4⟩
theorem PhB.no (hp:PhB X i):Z5 (Q6 X (!i))=false:= by
  obtain⟨n,h1,_⟩:=hp
  exact JP h1.jk
theorem PhB.flow (hp:PhB X i) (h:GV X g b):PhC (Wj X) i:= by
  obtain⟨n,h1,h2,h3⟩:=hp
  obtain⟨c,t,h,_,_,h4⟩:=h
  refine⟨n,CW h1 h h2 h3 fun s hs=> ?_⟩
  obtain⟨s',k1,k2,k3,_⟩:=h.owner h1.k
  rw[hs]at k1
  cases k1
  exact list_32 k2 k3 (h4.len h.gs)
theorem PhC.runs (hp:PhC X i) (h:GV X g b):Z5 (Q6 X (!i))=true∧Z5 (Q6 X i)=false∧Yy (Q6 X (!i)) g=true:= by
  obtain⟨n,h1⟩:=hp
  obtain⟨c,t,h,_⟩:=h
  have hr:=h.runs h1.jk h1.jf
  exact⟨hr,JP (by rw[h1.pk];decide),(h.kx.holds h.inv (!i) hr).1⟩
theorem GV.flowN (h:GV X g b): ∀k,GV (Go.Proofs.YtiibgheijbbmaaaGreatDoor.flowN k X) g b
  | 0=>h
  | k+1=>(h.flowN k).flow
theorem PhC.toD (hp:PhC X i) (h:GV X g b): ∃n,PhZ (flowN 20 X) i n:= by
  obtain⟨n,h1⟩:=hp
  obtain⟨c,t,h,_,_,h4⟩:=h
  refine⟨n,Ca h4.g64 19 h1 h ?_⟩
  obtain⟨s,k1,k2,k3,_,k5⟩:=h.owner h1.jk
  have h6:=h4.len h.gs
  have h7:=k2.len
  rw[k5]
  unfold Wd
  rw[List.length_map]
  have :=List.length_filter_le (fun e:Int×PgD=>e.2.miss) s.pages
  omega
theorem PhZ.ends {n:Int} (hp:PhZ X i n) (h:GV X g b):((WA (Q6 X (!i))).2=true∧Vp (WA (Q6 X (!i))).1.state g.state (WA (Q6 X (!i))).1.sheets g.sheets=true)∧(NT (Q6 X i)).2=false∧J5 (WD X.a) (WD X.b)=1 -(if i=true then 1 else 0):= by
  obtain⟨c,t,h,_⟩:=h
  have hK:=h.ki hp.jk
  rw[Bool.not_not]at hK
  have hr:=h.runs hp.jk hp.jf
  have hh:=(h.kx.holds h.inv (!i) hr).1
  unfold Yy at hh
  rw[hp.jm0]at hh
  simp only[Bool.and_eq_true,List.length_nil,Int.ofNat_zero,decide_true,beq_iff_eq]at hh
  obtain⟨_,h2,h3⟩:=hh
  have h2:(WA (Q6 X (!i))).2=true:= by simpa using h2
  rw[h2]at h3
  refine⟨⟨h2, by simpa using h3⟩, by unfold NT; rw[hp.ps];rfl, ?_⟩
  have hq:=hK.q.stored
  have hs:=hK.r.stored
  rw[hp.jk]at hq
  rw[hp.pk]at hs
  unfold J5
  cases i with
  | false=>
    have hq:WD X.b=(1,_):=hq
    have hs:WD X.a=(3,_):=hs
    rw[hq,hs,if_neg (by show(3:Int)≠1;decide),if_pos Qa];rfl
  | true=>
    have hq:WD X.a=(1,_):=hq
    rw[hq,if_pos Qa];rfl
end
