/- laws of leaves: any calls -/
import Derived.Test.YtkcjfoaejijdoaaGreatDoorLv59
import Derived.Test.YtkcjfoaejijdoaaGreatDoorLv33
set_option linter.unusedSectionVars false
set_option linter.unusedVariables false
namespace Go.Proofs.YtkcjfoaejijdoaaGreatDoor
open Go.RowKit M
variable [Inhabited SlW]
theorem B0 {L:LvD} {id:Int} (h0:id≠0) (ht:L.tr id=none):Zt L id=false:= by simp [Zt,h0,ht]
theorem Aw {w:World} {b p Fr n i:Nat} {A:LvA} {F:Th} (hS:Sat w [Kb b p Fr n i A,F]) (hn:n+100000000≤60000000000) (hi:i≤60) (id parent:Int):
    Calls Tryz.prog 11 #[ptrV b 0,intV id,intV parent] w (Ret fun v w'=>(∃e,v=intV e)∧ ∃A',Sat w' [Kb b p Fr (n+100000000) (i+1) A',F]):= by
  obtain⟨L,V,hp,hS1⟩:=W3 hS
  obtain⟨h1,h2,rfl,h4,h5⟩:=_root_.id hp
  have hm:i<Zs:= by unfold Zs;omega
  refine(Fg hS1 h2 id parent).mono fun ew w h=>h.mono fun v w h=> ?_
  obtain⟨L',rfl,hs,ha,hS⟩:=h
  exact⟨⟨_,rfl⟩,_,Wh (by omega) (WH hp hs (by omega) (by omega) ha h5.beg hS)⟩
theorem Sn {w:World} {b p Fr n i:Nat} {A:LvA} {F:Th} (hS:Sat w [Kb b p Fr n i A,F]) (hn:n+100000000≤60000000000) (hi:i≤60) (id:Int) (ob:Bs) (a:Int):
    Calls Tryz.prog 12 #[ptrV b 0,intV id,strV ob,intV a] w (Ret fun v w'=>(∃x,v=Wu x)∧ ∃A',Sat w' [Kb b p Fr (n+100000000) (i+1) A',F]):= by
  obtain⟨L,V,hp,hS1⟩:=W3 hS
  obtain⟨h1,h2,rfl,h4,h5⟩:=_root_.id hp
  have hm:i<Zs:= by unfold Zs;omega
  by_cases hr:0≤a∧a<16384
  · skip
    by_cases h0:id=0
    · subst h0
      refine(MK hS1 (by omega) ob a h2 hm hr).mono fun ew w h=>h.mono fun v w h=> ?_
      exact⟨⟨_,h.1⟩,_,WV (by omega) (Zh hp h.2)⟩
    · cases ht:L.tr id with
      | none=>
        refine(Ie hS1 (by omega) ob a id hr (B0 h0 ht)).mono fun ew w h=>h.mono fun v w h=> ?_
        exact⟨⟨_,h.1⟩,_,WV (by omega) (Zh hp h.2)⟩
      | some t=>
        refine(MJ hS1 (by omega) ob a h2 hm ht hr).mono fun ew w h=>h.mono fun v w h=> ?_
        obtain⟨L',V',rfl,hs,ha,hS⟩:=h
        exact⟨⟨_,rfl⟩,_,Wh (by omega) (WH hp hs (by omega) (by omega) ha (h5.up fun _ _ q=>q.tou0 U) hS)⟩
  · refine(Ic hS1 (by omega) ob a id hr).mono fun ew w h=>h.mono fun v w h=> ?_
    exact⟨⟨_,h.1⟩,_,WV (by omega) (Zh hp h.2)⟩
theorem Sm {w:World} {b p Fr n i:Nat} {A:LvA} {F:Th} (hS:Sat w [Kb b p Fr n i A,F]) (hn:n+100000000≤60000000000) (hi:i≤60) (id:Int) (ob:Bs) (a:Int) (bt:UInt8):
    Calls Tryz.prog 10 #[ptrV b 0,intV id,strV ob,intV a,Wu bt] w (Ret fun v w'=>(∃e,v=intV e)∧ ∃A',Sat w' [Kb b p Fr (n+100000000) (i+1) A',F]):= by
  obtain⟨L,V,hp,hS1⟩:=W3 hS
  obtain⟨h1,h2,rfl,h4,h5⟩:=_root_.id hp
  have hm:i<Zs:= by unfold Zs;omega
  by_cases hr:0≤a∧a<16384
  · skip
    by_cases h0:id=0
    · subst h0
      refine(Cs hS1 (by omega) ob a bt h2 hm hr).mono fun ew w h=>h.mono fun v w h=> ?_
      obtain⟨L',V',e,rfl,hs,hq,hS⟩:=h
      rcases hq with⟨rfl,ha⟩ | ⟨_,ha,_⟩
      · exact⟨⟨_,rfl⟩,_,Wh (by omega) (WH hp hs (by omega) (by omega) ha (h5.up fun _ _ q=>q.pres) hS)⟩
      · exact⟨⟨_,rfl⟩,_,Wh (by omega) (WH hp hs (by omega) (by omega) ha (h5.mono (by omega)) hS)⟩
    · cases ht:L.tr id with
      | none=>
        refine(FJ hS1 (by omega) ob a bt id hr (B0 h0 ht)).mono fun ew w h=>h.mono fun v w h=> ?_
        exact⟨⟨_,h.1⟩,_,WV (by omega) (Zh hp h.2)⟩
      | some t=>
        refine(Cr hS1 (by omega) ob a bt h2 hm ht hr).mono fun ew w h=>h.mono fun v w h=> ?_
        obtain⟨L',V',e,rfl,hs,hq,hS⟩:=h
        rcases hq with⟨rfl,ha⟩ | ⟨_,ha,_⟩
        · exact⟨⟨_,rfl⟩,_,Wh (by omega) (WH hp hs (by omega) (by omega) ha (h5.up fun _ _ q=>q.tou U) hS)⟩
        · exact⟨⟨_,rfl⟩,_,Wh (by omega) (WH hp hs (by omega) (by omega) ha (h5.up fun _ _ q=>q.tou0 U) hS)⟩
  · cases hth:Zt L id with
    | false=>
      refine(FI hS1 (by omega) ob a bt id hr hth).mono fun ew w h=>h.mono fun v w h=> ?_
      exact⟨⟨_,h.1⟩,_,WV (by omega) (Zh hp h.2)⟩
    | true=>
      refine(E5 hS1 (by omega) ob a bt id hr hth).mono fun ew w h=>h.mono fun v w h=> ?_
      exact⟨⟨_,h.1⟩,_,WV (by omega) (Zh hp h.2)⟩
theorem lx_copy {w:World} {b p Fr n i:Nat} {A:LvA} {F:Th} (hS:Sat w [Kb b p Fr n i A,F]) (hn:n+100000000≤60000000000) (hi:i≤60) (id:Int) (ob to:Bs) (fi cn a:Int) (hf: -2147483648≤fi∧fi≤2147483648) (ha0: -2147483648≤a∧a≤2147483648) (hcn: -2147483648≤cn∧cn≤300):
    Calls Tryz.prog 41 #[ptrV b 0,intV id,strV ob,intV fi,intV cn,strV to,intV a] w (Ret fun v w'=> ∃A',Sat w' [Kb b p Fr (n+100000000) (i+1) A',F]):= by
  obtain⟨L,V,hp,hS1⟩:=W3 hS
  obtain⟨h1,h2,rfl,h4,h5⟩:=_root_.id hp
  have hm:i<Zs:= by unfold Zs;omega
  by_cases h0:id=0
  · subst h0
    refine(Nw hS1 (by omega) h2 hm ob to fi cn a hf ha0 hcn).mono fun ew w h=>h.mono fun v w h=> ?_
    obtain⟨L',V',q,hs,_,ha,_,hS⟩:=h
    exact⟨_,Wh (by omega) (WH hp hs (by omega) (by omega) ha (h5.up fun _ _ z=> by rw[MC]; exact z.cpWf _) hS)⟩
  · cases ht:L.tr id with
    | none=>
      refine(O4 hS1 (by omega) id (B0 h0 ht) ob to fi cn a).mono fun ew w h=>h.mono fun v w h=> ?_
      exact⟨_,WV (by omega) (Zh hp h)⟩
    | some t=>
      refine(O3 hS1 (by omega) h2 hm ht ob to fi cn a hf ha0 hcn).mono fun ew w h=>h.mono fun v w h=> ?_
      obtain⟨L',V',q,hs,ha,_,hS⟩:=h
      exact⟨_,Wh (by omega) (WH hp hs (by omega) (by omega) ha (h5.up fun _ _ z=>(z.cpRf _).cpWf _) hS)⟩
theorem lx_drop {w:World} {b p Fr n i:Nat} {A:LvA} {F:Th} (hS:Sat w [Kb b p Fr n i A,F]) (hn:n+100000000≤60000000000) (hi:i≤60) (id:Int) (ob:Bs):
    Calls Tryz.prog 27 #[ptrV b 0,intV id,strV ob] w (Ret fun v w'=> ∃A',Sat w' [Kb b p Fr (n+100000000) (i+1) A',F]):= by
  obtain⟨L,V,hp,hS1⟩:=W3 hS
  obtain⟨h1,h2,rfl,h4,h5⟩:=_root_.id hp
  have hm:i<Zs:= by unfold Zs;omega
  by_cases h0:id=0
  · subst h0
    refine(Nl hS1 h4 (by omega) h2 (fun _ _=>Int.le_refl _) ob).mono fun ew w h=>h.mono fun v w h=> ?_
    obtain⟨L',V',hs,ha,_,hS⟩:=h
    exact⟨_,Wh (by omega) (WH hp hs.plain (by omega) (by omega) ha (h5.up fun _ _ q=>q.pres) hS)⟩
  · cases ht:L.tr id with
    | none=>
      refine(Ox hS1 (by omega) h0 ht ob).mono fun ew w h=>h.mono fun v w h=> ?_
      exact⟨_,WV (by omega) (Zh hp h)⟩
    | some t=>
      refine(Nk hS1 h4 (by omega) h2 (fun _ _=>Int.le_refl _) ht ob).mono fun ew w h=>h.mono fun v w h=> ?_
      obtain⟨L',V',hs,ha,_,hS⟩:=h
      exact⟨_,Wh (by omega) (WH hp hs.plain (by omega) (by omega) ha h5.drop hS)⟩
theorem lx_note {w:World} {b p Fr n i:Nat} {A:LvA} {F:Th} (hS:Sat w [Kb b p Fr n i A,F]) (hn:n+100000000≤60000000000) (hi:i≤60) (id:Int) (ob:Bs) (a:Int) (wr:Bool):
    Calls Tryz.prog 63 #[ptrV b 0,intV id,strV ob,intV a,.bool wr] w (Ret fun v w'=> ∃A',Sat w' [Kb b p Fr (n+100000000) (i+1) A',F]):= by
  obtain⟨L,V,hp,hS1⟩:=W3 hS
  obtain⟨h1,h2,rfl,h4,h5⟩:=_root_.id hp
  have hm:i<Zs:= by unfold Zs;omega
  by_cases hr:0≤a∧a<16384
  · skip
    by_cases h0:id=0
    · subst h0
      refine(Ai hS1 (by omega) ob a wr hr).mono fun ew w h=>h.mono fun v w h=> ?_
      exact⟨_,WV (by omega) (Zh hp h)⟩
    · cases ht:L.tr id with
      | none=>
        refine(Ah hS1 (by omega) ob a wr id hr (B0 h0 ht)).mono fun ew w h=>h.mono fun v w h=> ?_
        exact⟨_,WV (by omega) (Zh hp h)⟩
      | some t=>
        refine(Af hS1 (by omega) ob a wr h2 hm ht hr).mono fun ew w h=>h.mono fun v w h=> ?_
        obtain⟨L',V',y,hs,ha,⟨r,hy⟩,hS⟩:=h
        exact⟨_,Wh (by omega) (WH hp hs (by omega) (by omega) ha (h5.up fun _ _ q=>q.tou hy) hS)⟩
  · refine(Ag hS1 (by omega) ob a wr id hr).mono fun ew w h=>h.mono fun v w h=> ?_
    exact⟨_,WV (by omega) (Zh hp h)⟩
theorem lx_own {w:World} {b p Fr n i:Nat} {A:LvA} {F:Th} (hS:Sat w [Kb b p Fr n i A,F]) (hn:n+100000000≤60000000000) (hi:i≤60) (id:Int) (ob:Bs) (page:Int):
    Calls Tryz.prog 64 #[ptrV b 0,intV id,strV ob,intV page] w (Ret fun v w'=>(∃e,v=intV e)∧ ∃A',Sat w' [Kb b p Fr (n+100000000) (i+1) A',F]):= by
  obtain⟨L,V,hp,hS1⟩:=W3 hS
  obtain⟨h1,h2,rfl,h4,h5⟩:=_root_.id hp
  have hm:i<Zs:= by unfold Zs;omega
  by_cases hr:0≤page∧page<256
  · skip
    by_cases h0:id=0
    · subst h0
      refine(ownP_sp hS1 (by omega) ob page h2 hm hr).mono fun ew w h=>h.mono fun v w h=> ?_
      obtain⟨L',V',e,rfl,hs,ha,hS⟩:=h
      exact⟨⟨_,rfl⟩,_,Wh (by omega) (WH hp hs (by omega) (by omega) ha (h5.mono (by omega)) hS)⟩
    · cases ht:L.tr id with
      | none=>
        refine(Sh hS1 (by omega) ob page id (B0 h0 ht)).mono fun ew w h=>h.mono fun v w h=> ?_
        exact⟨⟨_,h.1⟩,_,WV (by omega) (Zh hp h.2)⟩
      | some t=>
        refine(Ae hS1 (by omega) ob page h2 hm ht hr).mono fun ew w h=>h.mono fun v w h=> ?_
        obtain⟨L',V',e,rfl,hs,ha,hS⟩:=h
        exact⟨⟨_,rfl⟩,_,Wh (by omega) (WH hp hs (by omega) (by omega) ha (h5.up fun _ _ q=>q.tou0 U) hS)⟩
  · cases hth:Zt L id with
    | false=>
      refine(Sh hS1 (by omega) ob page id hth).mono fun ew w h=>h.mono fun v w h=> ?_
      exact⟨⟨_,h.1⟩,_,WV (by omega) (Zh hp h.2)⟩
    | true=>
      refine(ownR_sp hS1 (by omega) ob page id hth hr).mono fun ew w h=>h.mono fun v w h=> ?_
      exact⟨⟨_,h.1⟩,_,WV (by omega) (Zh hp h.2)⟩
theorem Lg {w:World} {b p Fr n i:Nat} {A:LvA} {F:Th} (hS:Sat w [Kb b p Fr n i A,F]) (hn:n+100000000≤60000000000) (hi:i≤60) (id:Int):
    Calls Tryz.prog 13 #[ptrV b 0,intV id] w (Ret fun v w'=>(∃e,v=intV e)∧ ∃A',Sat w' [Kb b p Fr (n+100000000) (i+1) A',F]):= by
  obtain⟨L,V,hp,hS1⟩:=W3 hS
  obtain⟨h1,h2,rfl,h4,h5⟩:=_root_.id hp
  have hm:i<Zs:= by unfold Zs;omega
  cases ht:L.tr id with
  | none=>
    refine(P5 hS1 (by omega) ht).mono fun ew w h=>h.mono fun v w h=> ?_
    exact⟨⟨_,h.1⟩,_,WV (by omega) (Zh hp h.2)⟩
  | some t=>
    by_cases hb: ∃j u,L.tr j=some u∧u.parent=id
    · refine(P6 hS1 (by omega) ht hb).mono fun ew w h=>h.mono fun v w h=> ?_
      exact⟨⟨_,h.1⟩,_,WV (by omega) (Zh hp h.2)⟩
    · have hch: ∀j u,L.tr j=some u→u.parent≠id:= fun j u hu e=>hb ⟨j,u,hu,e⟩
      have e1:4*(512*i)*i≤4*(512*60)*60:=Nat.mul_le_mul (by omega) hi
      have hd:=h5.drle (Zk (V:=V) ht)
      refine(ME hS1 (d:=i) (by omega) h2 hm h4 ht hch h5.dra (fun ks h=>hd.came h) (by omega)).mono fun ew w h=>h.mono fun v w h=> ?_
      obtain⟨L',V',h,hS9⟩:=h
      rcases h with⟨rfl,order,obs,a1,a2,a3,a4,a5,a6,a7,a8⟩ | ⟨rfl,rfl,order,a1,a2,a3,a4,a5,a6⟩
      · exact⟨⟨_,rfl⟩,_,Wh (by omega) (Zh ⟨a5.trans h1,a4.upm (by omega),rfl,(a7 _ h4).mono (by omega), by rw[a6]; exact h5.up fun _ _ q=>q.com (Zk ht) fun o ho=>(a3 o).1 ho⟩ hS9)⟩
      · exact⟨⟨_,rfl⟩,_,Wh (by omega) (Zh ⟨h1,a3.upm (by omega),rfl,h4.mono (by omega), by rw[a4]; exact h5.mono (by omega)⟩ hS9)⟩
theorem Ax {w:World} {b p Fr n i:Nat} {A:LvA} {F:Th} (hS:Sat w [Kb b p Fr n i A,F]) (hn:n+100000000≤60000000000) (hi:i≤60) (id:Int):
    Calls Tryz.prog 25 #[ptrV b 0,intV id] w (Ret fun v w'=> ∃A',Sat w' [Kb b p Fr (n+100000000) (i+1) A',F]):= by
  obtain⟨L,V,hp,hS1⟩:=W3 hS
  obtain⟨h1,h2,rfl,h4,h5⟩:=_root_.id hp
  have hm:i<Zs:= by unfold Zs;omega
  cases ht:L.tr id with
  | none=>
    refine(MR hS1 (by omega) ht).mono fun ew w h=>h.mono fun v w h=> ?_
    exact⟨_,WV (by omega) (Zh hp h)⟩
  | some t=>
    obtain⟨ids,obs,g1,g2,g3⟩:=_root_.id h5
    have hK:TrN L.tr i:=⟨ids,g1, fun j hj=>g3.ids j (by
      obtain⟨u,hu⟩:=Option.ne_none_iff_exists'.1 hj
      rw[Zk hu]; simp)⟩
    refine(NF hS1 (by omega) h2 h4 (by omega) hK (by omega) ht).mono fun ew w h=>h.mono fun v w h=> ?_
    obtain⟨L',V',K',⟨r,hP⟩,hS⟩:=h
    exact⟨_,Wh (by omega) (Zh ⟨hP.sp.trans h1,hP.inv.upm (by omega),rfl,hP.sz.mono (by omega),h5.up fun _ _ q=>q.abo hP.ab⟩ hS)⟩
theorem Ar {w:World} {b p Fr n i:Nat} {A:LvA} {F:Th} (hS:Sat w [Kb b p Fr n i A,F]) (hn:n+100000000≤60000000000) (hi:i≤60) (N:Int) (hN:N≤300):
    Calls Tryz.prog 30 #[ptrV b 0,intV N] w (Ret fun v w'=> ∃l:List Int,l.length≤100000∧ ∃A',Sat w' [rowT inC v l,Kb b p Fr (n+100000000) (i+1) A',F]):= by
  obtain⟨L,V,hp,hS1⟩:=W3 hS
  obtain⟨h1,h2,rfl,h4,h5⟩:=_root_.id hp
  have hm:i<Zs:= by unfold Zs;omega
  have e1:N.toNat*(6*(512*i))≤300*(6*(512*60)):=Nat.mul_le_mul (by omega) (by omega)
  refine(An hS1 h2 h4 (by omega) N (by omega) (by omega)).mono fun ew w h=>h.mono fun v w h=> ?_
  obtain⟨L',V',l,hP,hl,hS⟩:=h
  have hS2:=Zh (i:=i+1) (p:=p) (A:=Q1 L V) ⟨hP.sp.trans h1,hP.inv.upm (by omega),hP.ab,hP.sz.mono (by omega),h5.mono (by omega)⟩ ((hS.perm ((List.Perm.swap _ _ _).trans (List.Perm.cons _ (List.Perm.swap _ _ _)))))
  exact⟨l, by omega,_,(Wh (by omega) hS2).perm (List.Perm.swap _ _ _)⟩
theorem Au {w:World} {b p Fr n i:Nat} {A:LvA} {F:Th} (hS:Sat w [Kb b p Fr n i A,F]) (hn:n+100000000≤60000000000) (hi:i≤60) (N:Int) (hN:N≤300):
    Calls Tryz.prog 66 #[ptrV p 0,intV N] w (Ret fun v w'=>(∃e,v=intV e)∧ ∃A',Sat w' [Kb b p Fr (n+100000000) (i+1) A',F]):= by
  obtain⟨L,V,hp,hS1⟩:=W3 hS
  obtain⟨h1,h2,rfl,h4,h5⟩:=_root_.id hp
  subst h1
  refine(stEvict (hS1.sp [1] U) (by omega) N (by omega)).mono fun ew w h=>h.mono fun v w h=> ?_
  obtain⟨d,rfl,h⟩:=h
  have h6:=(h.join U).reorder [1,0,2] U
  exact⟨⟨_,rfl⟩,_,WV (n:=n+N.toNat) (by omega) (Zh hp h6)⟩
end Go.Proofs.YtkcjfoaejijdoaaGreatDoor
