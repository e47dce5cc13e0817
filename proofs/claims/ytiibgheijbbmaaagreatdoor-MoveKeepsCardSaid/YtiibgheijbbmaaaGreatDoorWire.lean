/- wire: numbers as text and back, in plain data; comparing interface values with nil. Conditions: each lemma's own hypotheses. -/
import Derived.Test.YtiibgheijbbmaaaGreatDoorOp4
import Derived.Lib.AtoiAll
import Derived.Lib.ItoaLen
import Derived.Lib.IndexLaws
import Derived.Sort.Walk0
namespace Go.Proofs.YtiibgheijbbmaaaGreatDoor
open Go.RowKit M Proofs.Tryz
def X4 (n:Int):Prop:= -9223372036854775808≤n∧n≤9223372036854775807
theorem KE: ∀(k u:Nat),u<10^(k+1)→Lib.nDigits u≤k+1
  | 0,u,h=> by rw[Lib.nDigits_small (by simpa using h)]; exact Nat.le_refl _
  | k+1,u,h=> by
    by_cases hu:u<10
    · rw[Lib.nDigits_small hu];omega
    · rw[Lib.nDigits_big hu]
      have :=KE k (u/ 10) (by rw[Nat.pow_succ]at h;omega)
      omega
theorem H2 (u:Nat): ∀b∈Lib.decDigits u,48≤b.toNat∧b.toNat≤57:= by
  induction u using Nat.strongRecOn with
  | _ u ih=>
    rw[Lib.decDigits]
    split
    · rename_i h
      intro b hb
      simp only[List.mem_singleton]at hb
      subst hb
      have :(UInt8.ofNat (48+u)).toNat=48+u:= by simp;omega
      omega
    · rename_i h
      intro b hb
      rcases List.mem_append.1 hb with hb | hb
      · exact ih (u/ 10) (by omega) b hb
      · simp only[List.mem_singleton]at hb
        subst hb
        have :(UInt8.ofNat (48+u%10)).toNat=48+u%10:= by simp;omega
        omega
theorem R5 (u:Nat):Lib.decDigits u≠[]:= by
  rw[Lib.decDigits];split<;> simp
theorem Ra: ∀(l r:Bs) (a:Nat),Lib.parseUint10 a (l++r)= match Lib.parseUint10 a l with | .ok v=>Lib.parseUint10 v r | .«syntax»=> .«syntax» | .range=> .range
  | [],r,a=> by simp [Lib.parseUint10]
  | c::l,r,a=> by
    simp only[List.cons_append,Lib.parseUint10]
    split
    · split
      · rfl
      · split
        · rfl
        · exact Ra l r _
    · rfl
theorem MT (u:Nat) (h:u<18446744073709551616):Lib.parseUint10 0 (Lib.decDigits u)= .ok u:= by
  induction u using Nat.strongRecOn with
  | _ u ih=>
    rw[Lib.decDigits]
    split
    · rename_i hu
      have e:(UInt8.ofNat (48+u)).toNat=48+u:= by simp;omega
      simp only[Lib.parseUint10,e]
      rw[if_pos (by omega),if_neg (by omega),if_neg (by omega)]
      congr 1;omega
    · rename_i hu
      rw[Ra,ih (u/ 10) (by omega) (by omega)]
      have e:(UInt8.ofNat (48+u%10)).toNat=48+u%10:= by simp;omega
      simp only[Lib.parseUint10,e]
      rw[if_pos (by omega),if_neg (by omega),if_neg (by omega)]
      congr 1;omega
theorem Vg (u:Nat) (h:u<18446744073709551616):Lib.parseMag (Lib.decDigits u)= .ok u:= by
  rw[Lib.parseMag,if_neg (R5 u),MT u h]
theorem Lp {n:Int} (h:X4 n):Lib.atoiAll (Lib.itoa n)= .ok n:= by
  obtain⟨h0,h1⟩:=h
  by_cases hn:n<0
  · obtain⟨u,rfl⟩: ∃u:Nat,n= -(u:Int):=⟨n.natAbs, by omega⟩
    rw[Lib.itoa_neg u (by omega)]
    have e45:(45:UInt8).toNat=45:=rfl
    simp only[Lib.atoiAll,e45]
    simp only[or_true,if_true,Vg u (show u<18446744073709551616 by omega),not_true,false_and,if_false,true_and]
    rw[if_neg (by omega)]
  · obtain⟨u,rfl⟩: ∃u:Nat,n=u:=⟨n.toNat, by omega⟩
    rw[Lib.itoa_nonneg]
    cases hd:Lib.decDigits u with
    | nil=> exact absurd hd (R5 u)
    | cons c r=>
      have hc:=H2 u c (by rw[hd]; simp)
      simp only[Lib.atoiAll]
      rw[if_neg (by omega),←hd,Vg u (by omega)]
      simp only[show(c.toNat=45)=False from by simp;omega,not_false_eq_true,true_and,false_and,if_false]
      rw[if_neg (by omega)]
theorem SJ {l:Bs} {n:Int} (h:Lib.atoiAll l= .ok n):X4 n:= by
  cases l with
  | nil=> simp [Lib.atoiAll]at h
  | cons c r=>
    simp only[Lib.atoiAll]at h
    split at h
    · cases h
    · cases h
    · rename_i u hu
      split at h
      · cases h
      split at h
      · cases h
      have hlt:=Lib.parseMag_lt hu
      injection h with h
      subst h
      unfold X4
      split<;>omega
theorem WB {n:Int} (h:X4 n):(Lib.itoa n).length≤20∧1≤(Lib.itoa n).length:= by
  obtain⟨h0,h1⟩:=h
  by_cases hn:n<0
  · obtain⟨u,rfl⟩: ∃u:Nat,n= -(u:Int):=⟨n.natAbs, by omega⟩
    rw[Lib.itoa_neg u (by omega),List.length_cons,Lib.decDigits_length]
    have :=KE 18 u (by simp;omega)
    omega
  · obtain⟨u,rfl⟩: ∃u:Nat,n=u:=⟨n.toNat, by omega⟩
    rw[Lib.itoa_nonneg,Lib.decDigits_length]
    have :=KE 18 u (by simp;omega)
    have :=Lib.nDigits_pos u
    omega
theorem FM {n:Int}: ∀b∈Lib.itoa n,b.toNat≤57:= by
  intro b hb
  by_cases hn:n<0
  · obtain⟨u,rfl⟩: ∃u:Nat,n= -(u:Int):=⟨n.natAbs, by omega⟩
    rw[Lib.itoa_neg u (by omega)]at hb
    rcases List.mem_cons.1 hb with rfl | hb
    · decide
    · exact(H2 u b hb).2
  · obtain⟨u,rfl⟩: ∃u:Nat,n=u:=⟨n.toNat, by omega⟩
    rw[Lib.itoa_nonneg]at hb
    exact(H2 u b hb).2
theorem Kw {e:UInt8}: ∀(l r:Bs),e∉l→Lib.indexByte (l++e::r) e=(l.length:Int)
  | [],r,_=> by simp [Lib.indexByte]
  | b::l,r,h=> by
    have hb: ¬b=e:= fun q=>h (by simp [q])
    have :=Kw (e:=e) l r (fun q=>h (List.mem_cons_of_mem _ q))
    simp only[List.cons_append,Lib.indexByte,this]
    rw[if_neg (by simpa using hb),if_neg (by simp)]
    simp
def Ub (e:UInt8) (least:Int) (rest:Bs):Option (Int×Bs):=
  if Lib.indexByte (rest.take 21) e<0 then none
  else match Lib.atoiAll ((rest.take 21).take (Lib.indexByte (rest.take 21) e).toNat)with
    | .ok n=> if Lib.itoa n=(rest.take 21).take (Lib.indexByte (rest.take 21) e).toNat∧least≤n then some (n,rest.drop ((Lib.indexByte (rest.take 21) e).toNat+1))else none
    | _=>none
theorem Eg {e:UInt8} {least n:Int} {r:Bs} (he:57<e.toNat) (hn:X4 n) (hl:least≤n):Ub e least (Lib.itoa n++e::r)=some (n,r):= by
  have hlen:=WB hn
  have hmem:e∉Lib.itoa n:= fun q=> by have :=FM e q;omega
  have ht:(Lib.itoa n++e::r).take 21=Lib.itoa n++e::r.take (20 -(Lib.itoa n).length):= by
    rw[List.take_append,List.take_of_length_le (by omega), show 21 -(Lib.itoa n).length=(20 -(Lib.itoa n).length)+1 by omega,List.take_succ_cons]
  have hi:Lib.indexByte ((Lib.itoa n++e::r).take 21) e=((Lib.itoa n).length:Int):= by rw[ht]; exact Kw _ _ hmem
  have ht2:((Lib.itoa n++e::r).take 21).take (Lib.itoa n).length=Lib.itoa n:= by rw[ht,List.take_left'];rfl
  unfold Ub
  rw[hi,if_neg (by omega)]
  rw[Int.toNat_natCast,ht2,Lp hn]
  dsimp only
  rw[if_pos ⟨rfl,hl⟩,List.drop_append,List.drop_eq_nil_of_le (by omega), show(Lib.itoa n).length+1 -(Lib.itoa n).length=1 by omega]
  rfl
theorem RZ {e:UInt8} {least n:Int} {rest r:Bs} (h:Ub e least rest=some (n,r)):rest=Lib.itoa n++e::r∧X4 n∧least≤n:= by
  unfold Ub at h
  split at h
  · cases h
  · rename_i hneg
    split at h
    · rename_i m hm
      split at h
      · rename_i hc
        injection h with h
        injection h with h1 h2
        subst h1
        obtain⟨o,ho⟩: ∃o:Nat,Lib.indexByte (rest.take 21) e=o:=⟨(Lib.indexByte (rest.take 21) e).toNat, by omega⟩
        rw[ho,Int.toNat_natCast]at hc h2 hm
        have h3:=(Lib.indexByte_some ho).1
        have h4:o<21∧rest[o]? =some e:= by
          have :=(ZD h3).1
          simp at this
          rw[List.getElem?_take,if_pos (by omega)]at h3
          exact⟨by omega,h3⟩
        refine⟨?_,SJ hm,hc.2⟩
        rw[hc.1,←h2,List.take_take,Nat.min_eq_left (by omega)]
        have h5:=(ZD h4.2)
        rw[←h5.2,List.getElem_cons_drop,List.take_append_drop]
      · cases h
    · cases h
section
variable {P:Program} {n:Nat} {ops:Array Oper} {Q:Exit→Act→World→Prop} {rest:List Oper} {L:Env} {w:World} {d:Nat} {ty:TypeId} {pos:String} {aft:Array Edge}
def Rh (P:Program) (t:Nat):Bool:= match P.underlying t with | some (.interface _)=>true | _=>false
theorem Nl {x:Operand} {t t2:TypeId} {v:Value} {g:Bool} (hu:Rh P t=true) (hv:(v= .nilIface∧g=false)∨ ∃a b,v= .iface a b∧g=true) (hx:M.look L x=some v):Ev P L w ⟨some d,.binOp .neq t x (.const .nilIface) t2,ty,pos,aft,none⟩ (.bool g):= fun ρ hρ=> by
  have hy:ρ (.const .nilIface)= .nilIface:=hρ _ _ Qa
  unfold Rh at hu
  cases hq:P.underlying t with
  | none=> rw[hq]at hu; cases hu
  | some dsc=>
    rw[hq]at hu
    cases dsc<;> simp at hu
    rcases hv with⟨rfl,rfl⟩ | ⟨a,b,rfl,rfl⟩
    · have hr:(Op.equal t .nilIface .nilIface).run P w= .ok true w:= by
        unfold Op.equal Op.maxDepth Op.equalIn
        simp only[Sem.run_bind,run_underlying hq,Result.andThen]
        rfl
      simp [execOp,hρ _ _ hx,hy,eqGuard,binOp,hr]
    · have hr:(Op.equal t (.iface a b) .nilIface).run P w= .ok false w:= by
        unfold Op.equal Op.maxDepth Op.equalIn
        simp only[Sem.run_bind,run_underlying hq,Result.andThen]
        rfl
      simp [execOp,hρ _ _ hx,hy,eqGuard,binOp,hr]
end
section
variable {P:Program} {n:Nat} {ops:Array Oper} {Q:Exit→Act→World→Prop} {rest:List Oper} {L:Env} {w:World} {d:Nat} {ty:TypeId} {pos:String} {aft:Array Edge} {x y:Operand} {t t2:TypeId}
theorem wl_remN {a b:Int} (hx:M.look L x=some (.int .i64 a)) (hy:M.look L y=some (.int .i64 b)) (h0:a≤0) (hb:0<b) (hd:Nat.blt d n=true) (hk:wl P n ops Q rest ((d,.int .i64 (-(-a%b)))::L) w):wl P n ops Q (⟨some d,.binOp .rem t x y t2,ty,pos,aft,none⟩::rest) L w:=
  Xr hd (fun ρ hρ=> by
    have hb':b≠0:= by omega
    have e:a.tmod b= -(-a%b):= by
      have h7:(-a).tmod b= -(a.tmod b):=Int.neg_tmod a b
      rw[Int.tmod_eq_emod_of_nonneg (show 0≤ -a by omega)]at h7
      generalize a.tmod b=q at h7⊢
      generalize -a%b=q2 at h7⊢
      omega
    simp [execOp,hρ _ _ hx,hρ _ _ hy,eqGuard,binOp,Op.intDiv,hb',e]) hk
end
theorem F5 {e:UInt8} {least m:Int} {r:Bs} {k:Nat} (he:57<e.toNat) (hk:r[k]? =some e) (hm:X4 m) (hl:least≤m) (h:r.take k=Lib.itoa m):Ub e least r=some (m,r.drop (k+1)):= by
  have e1:r=Lib.itoa m++e::r.drop (k+1):= by
    have h5:=ZD hk
    rw[←h,←h5.2,List.getElem_cons_drop,List.take_append_drop]
  have :=Eg (r:=r.drop (k+1)) he hm hl
  rw[←e1]at this
  exact this
structure CellsR (Z:List (Bs×Bs)) (c:Bs→Bs):Prop where
  sorted:(Z.map (·.1)).Pairwise (· < ·)
  val: ∀x∈Z,x.2≠[]∧c x.1=x.2
  none: ∀k,k∉Z.map (·.1)→c k=[]
theorem CellsR.empty:CellsR [] (fun _=>[]):=⟨by simp, by simp, fun _ _=>rfl⟩
def KY (k v:Bs):Bool→List (Bs×Bs)→List (Bs×Bs)
  | true,[]=>[]
  | false,[]=>[(k,v)]
  | true,x::r=> if x.1=k then KY k v true r else x::KY k v true r
  | false,x::r=> if x.1=k then KY k v false r else if k<x.1 then(k,v)::x::KY k v true r else x::KY k v false r
theorem UB (k v:Bs): ∀Z,KY k v true Z=Z.filter (fun x=>decide (x.1≠k))
  | []=>rfl
  | x::r=> by
    simp only[KY]
    split
    · rename_i h; rw[UB k v r,List.filter_cons_of_neg (by simpa using h)]
    · rename_i h; rw[UB k v r,List.filter_cons_of_pos (by simpa using h)]
theorem HQ (k v:Bs): ∀(Z:List (Bs×Bs)) (x:Bs×Bs),x∈KY k v false Z↔(x∈Z∧x.1≠k)∨x=(k,v)
  | [],x=> by simp [KY]
  | y::r,x=> by
    simp only[KY]
    split
    · rename_i h
      rw[HQ k v r x,List.mem_cons]
      constructor
      · rintro(⟨a,b⟩ | a)
        · exact .inl ⟨.inr a,b⟩
        · exact .inr a
      · rintro(⟨a | a,b⟩ | a)
        · subst a; exact absurd h b
        · exact .inl ⟨a,b⟩
        · exact .inr a
    · rename_i h
      split
      · rw[UB]
        simp only[List.mem_cons,List.mem_filter,decide_eq_true_eq]
        constructor
        · rintro(a | a | ⟨a,b⟩)
          · exact .inr a
          · subst a; exact .inl ⟨.inl Qa,h⟩
          · exact .inl ⟨.inr a,b⟩
        · rintro(⟨a | a,b⟩ | a)
          · exact .inr (.inl a)
          · exact .inr (.inr ⟨a,b⟩)
          · exact .inl a
      · rw[List.mem_cons,HQ k v r x,List.mem_cons]
        constructor
        · rintro(a | ⟨a,b⟩ | a)
          · subst a; exact .inl ⟨.inl Qa,h⟩
          · exact .inl ⟨.inr a,b⟩
          · exact .inr a
        · rintro(⟨a | a,b⟩ | a)
          · exact .inl a
          · exact .inr (.inl ⟨a,b⟩)
          · exact .inr (.inr a)
theorem Eo {a b:Bs} (h: ¬a<b) (g:a≠b):b<a:=
  Decidable.byContradiction fun q=>g (List.le_antisymm (List.not_lt.1 q) (List.not_lt.1 h))
theorem Vu (k v:Bs): ∀(Z:List (Bs×Bs)),(Z.map (·.1)).Pairwise (· < ·)→((KY k v false Z).map (·.1)).Pairwise (· < ·)
  | [],_=> by simp [KY]
  | y::r,hp=> by
    rw[List.map_cons,List.pairwise_cons]at hp
    obtain⟨h1,h2⟩:=hp
    simp only[KY]
    split
    · exact Vu k v r h2
    · rename_i hne
      split
      · rename_i hlt
        rw[UB,List.map_cons,List.map_cons,List.pairwise_cons,List.pairwise_cons]
        have hsub: ∀a∈(r.filter (fun x=>decide (x.1≠k))).map (·.1),a∈r.map (·.1):= fun a ha=> by
          obtain⟨x,hx,rfl⟩:=List.mem_map.1 ha
          exact List.mem_map.2 ⟨x,(List.mem_filter.1 hx).1,Qa⟩
        refine⟨fun a ha=> ?_, fun a ha=>h1 a (hsub a ha),h2.sublist ((List.filter_sublist).map _)⟩
        rcases List.mem_cons.1 ha with rfl | ha
        · exact hlt
        · exact List.lt_trans hlt (h1 a (hsub a ha))
      · rename_i hge
        rw[List.map_cons,List.pairwise_cons]
        refine⟨fun a ha=> ?_,Vu k v r h2⟩
        obtain⟨x,hx,rfl⟩:=List.mem_map.1 ha
        rcases(HQ k v r x).1 hx with⟨a,_⟩ | a
        · exact h1 _ (List.mem_map.2 ⟨x,a,Qa⟩)
        · subst a; exact Eo hge (fun e=>hne e.symm)
def putZ (Z:List (Bs×Bs)) (k v:Bs):List (Bs×Bs):=KY k v (decide (v=[])) Z
theorem CellsR.put {Z:List (Bs×Bs)} {c:Bs→Bs} (h:CellsR Z c) (k v:Bs):CellsR (putZ Z k v) (SY c k v):= by
  unfold putZ
  by_cases hv:v=[]
  · subst hv
    rw[QD Qa,UB]
    refine⟨h.sorted.sublist ((List.filter_sublist).map _), fun x hx=> ?_, fun j hj=> ?_⟩
    · obtain⟨h1,h2⟩:=List.mem_filter.1 hx
      have h3:=h.val x h1
      refine⟨h3.1, ?_⟩
      unfold SY; rw[if_neg (by simpa using h2)]; exact h3.2
    · unfold SY
      split
      · rfl
      · rename_i hne
        refine h.none j fun hm=>hj ?_
        obtain⟨x,hx,rfl⟩:=List.mem_map.1 hm
        exact List.mem_map.2 ⟨x,List.mem_filter.2 ⟨hx, by simpa using hne⟩,rfl⟩
  · rw[Qx hv]
    refine⟨Vu k v Z h.sorted, fun x hx=> ?_, fun j hj=> ?_⟩
    · rcases(HQ k v Z x).1 hx with⟨h1,h2⟩ | rfl
      · have h3:=h.val x h1
        refine⟨h3.1, ?_⟩
        unfold SY; rw[if_neg h2]; exact h3.2
      · exact⟨hv, by unfold SY; rw[if_pos Qa]⟩
    · unfold SY
      rw[if_neg]
      · refine h.none j fun hm=>hj ?_
        obtain⟨x,hx,rfl⟩:=List.mem_map.1 hm
        by_cases hxk:x.1=k
        · exact List.mem_map.2 ⟨(k,v),(HQ k v Z _).2 (.inr Qa),hxk.symm⟩
        · exact List.mem_map.2 ⟨x,(HQ k v Z _).2 (.inl ⟨hx,hxk⟩),Qa⟩
      · rintro rfl
        exact hj (List.mem_map.2 ⟨(j,v),(HQ j v Z _).2 (.inr Qa),Qa⟩)
abbrev Bytes:=List UInt8
structure DS where
  F:Int→Bytes×Bytes
  Q:List (Int×Int)
  lost:Int
  down:Bool
  armed:Int
  keep:List Int
def Jq (s:Bytes) (at_:Nat) (t:Bytes):Bytes:= if t=[]then s else(s++List.replicate (at_ -s.length) 0).take at_++t++s.drop (at_+t.length)
def ZM (D:DS) (f:Int):Int:= if D.down then 9 else if f<0∨16≤f then 1 else 0
def JD (D:DS):Bool:= !D.down&&decide (D.armed=1)
def Zl (D:DS):DS:= if D.down=true∨D.armed=0 then D else{D with armed:=D.armed -1}
def J7 (F:Int→Bytes×Bytes) (f:Int) (x:Bytes×Bytes):Int→Bytes×Bytes:= fun k=> if k=f then x else F k
def Jn (f:Int):Nat→Int→List (Int×Int)→List (Int×Int)
  | 0,_,Q=>Q
  | k+1,n,Q=>Jn f k (n+1) (if(f,n)∈Q then Q else Q++[(f,n)])
def Yn (D:DS) (f at_:Int) (s:Bytes):DS:=
  if s=[]then D else{D with F:=J7 D.F f (Jq (D.F f).1 at_.toNat s,(D.F f).2),Q:=Jn f ((at_+s.length -1)/ 64 -at_/ 64+1).toNat (at_/ 64) D.Q}
def WE (D:DS) (f at_:Int) (s:Bytes):Int:= if ZM D f≠0 then ZM D f else if at_<0 then 1 else if 16777216<at_∨16777216 -at_<s.length then 6 else 0
def WU (D:DS) (f at_:Int) (s:Bytes):DS:= if WE D f at_ s=0 then Yn D f at_ s else D
def H6 (F:Int→Bytes×Bytes) (p:Int×Int):Int→Bytes×Bytes:=
  if(F p.1).1.length≤64*p.2 then F else J7 F p.1 ((F p.1).1,Jq (F p.1).2 (64*p.2).toNat (((F p.1).1.drop (64*p.2).toNat).take 64))
def Wd (keep:List Int):Nat→List (Int×Int)→(Int→Bytes×Bytes)→(Int→Bytes×Bytes)
  | _,[],F=>F
  | i,p::Q,F=>Wd keep (i+1) Q (if keep≠[]∧(keep.getD (i%keep.length) 0)%2=1 then H6 F p else F)
def ZB (D:DS) (keep:List Int):DS:=
  if D.down then D else{D with down:=true,armed:=0,F:= fun k=>let x:=Wd keep 0 D.Q D.F k;(x.2,x.2),Q:=[]}
def Wl (D:DS) (f:Int) (s:Bytes):DS:={D with F:=J7 D.F f (s,s),Q:=D.Q.filter fun p=>p.1≠f}
def WX (D:DS):DS:= if JD D then ZB (Zl D) D.keep else Zl D
def W4 (D:DS) (f at_:Int) (s:Bytes):Int:= if JD D then 9 else WE (Zl D) f at_ s
def XD (D:DS) (f at_:Int) (s:Bytes):DS:=let D1:=WU (Zl D) f at_ s; if JD D then ZB D1 D.keep else D1
def Z0 (D:DS) (f:Int):Int:= if ZM (WX D) f≠0 then ZM (WX D) f else if 0<(WX D).lost then 10 else 0
def X1 (D:DS) (f:Int):DS:= if ZM (WX D) f≠0 then WX D else if 0<(WX D).lost then{WX D with lost:=(WX D).lost -1}else Wl (WX D) f ((WX D).F f).1
def ZT (D:DS) (f at_ size:Int):Int:= if ZM D f≠0 then ZM D f else if at_<0∨size<0 then 1 else 0
def Wx (D:DS) (f at_ size:Int):Bytes:= if ZT D f at_ size=0 then((D.F f).1.drop at_.toNat).take size.toNat else[]
structure DInv (D:DS):Prop where
  now: ∀k,(D.F k).1.length≤16777216
  last: ∀k,(D.F k).2.length≤16777216
  nodup:D.Q.Nodup
  secs: ∀p∈D.Q,(0≤p.1∧p.1<16)∧0≤p.2∧p.2≤262144
  lost:0≤D.lost∧D.lost≤9223372036854775807
  armed:0≤D.armed∧D.armed≤9223372036854775807
def UL (x:Bytes×Bytes):Value:= .agg #[strV x.1,strV x.2]
def Zy (Q:List (Int×Int)):List Value:=Q.flatMap fun p=>[intV p.1,intV p.2]
structure DL where
  bf:Nat
  bs:Nat
  qv:Value
def Yb (L:DL) (kp:Value) (D:DS):List Value:=[.map (some L.bf),L.qv,.map (some L.bs),intV D.lost,.bool D.down,intV D.armed,kp]
def YL (g:Int→Option Value) (F:Int→Bytes×Bytes):Prop:= ∀k,(g k).getD (UL ([],[]))=UL (F k)
def Jo (b:Nat) (F:Int→Bytes×Bytes):Th:=Nk fun g:Int→Option Value=>starL [Yi (YL g F),X3 XH b g]
def Y8 (b:Nat) (Q:List (Int×Int)):Th:=Nk fun g:Int×Int→Option Value=>starL [Yi (∀p,g p= if p∈Q then some (.bool true)else none),X3 Wf b g]
def RdI (v:Value) (l:List Int) (w:World):Prop:= ∃ao cap,v= .slice ao l.length cap∧l.length≤9223372036854775807∧ ∀i x,l[i]? =some x→ ∃b off,ao=some ⟨b,off,none⟩∧w.cell? ⟨b,off+i,none⟩=some (intV x)
def XX (p:Nat) (kp:Value) (D:DS):Th:=Nk fun L:DL=>starL [Yi (DInv D),Xb p (Yb L kp D),Jo L.bf D.F,X7 L.qv D.Q.length 2 (Zy D.Q),Y8 L.bs D.Q]
theorem Ws {w:World} {p:Nat} {kp:Value} {D:DS} {As:List Th} (h:Sat w (XX p kp D::As)): ∃L:DL,DInv D∧Sat w (Xb p (Yb L kp D)::Jo L.bf D.F::X7 L.qv D.Q.length 2 (Zy D.Q)::Y8 L.bs D.Q::As):= by
  obtain⟨L,h⟩:=h.ex
  exact⟨L,h.flat.pure_elim⟩
theorem ZF {w:World} {p:Nat} {kp:Value} {D:DS} {As:List Th} (L:DL) (hi:DInv D) (h:Sat w (Xb p (Yb L kp D)::Jo L.bf D.F::X7 L.qv D.Q.length 2 (Zy D.Q)::Y8 L.bs D.Q::As)):Sat w (XX p kp D::As):=
  Sat.ex_intro L (Sat.fold (As:=[Yi (DInv D),Xb p (Yb L kp D),Jo L.bf D.F,X7 L.qv D.Q.length 2 (Zy D.Q),Y8 L.bs D.Q]) (Sat.pure_intro hi h))
theorem JC {w:World} {b:Nat} {F:Int→Bytes×Bytes} {As:List Th} (h:Sat w (Jo b F::As)): ∃g,YL g F∧Sat w (X3 XH b g::As):= by
  obtain⟨L,h⟩:=h.ex
  exact⟨L,h.flat.pure_elim⟩
theorem WQ {w:World} {b:Nat} {F:Int→Bytes×Bytes} {As:List Th} (g:Int→Option Value) (hg:YL g F) (h:Sat w (X3 XH b g::As)):Sat w (Jo b F::As):=
  Sat.ex_intro g (Sat.fold (As:=[Yi (YL g F),X3 XH b g]) (Sat.pure_intro hg h))
theorem RP {w:World} {b:Nat} {Q:List (Int×Int)} {As:List Th} (h:Sat w (Y8 b Q::As)): ∃g:Int×Int→Option Value,(∀p,g p= if p∈Q then some (.bool true)else none)∧Sat w (X3 Wf b g::As):= by
  obtain⟨L,h⟩:=h.ex
  exact⟨L,h.flat.pure_elim⟩
theorem Yz {w:World} {b:Nat} {Q:List (Int×Int)} {As:List Th} (g:Int×Int→Option Value) (hg: ∀p,g p= if p∈Q then some (.bool true)else none) (h:Sat w (X3 Wf b g::As)):Sat w (Y8 b Q::As):=
  Sat.ex_intro g (Sat.fold (As:=[Yi (∀p,g p= if p∈Q then some (.bool true)else none),X3 Wf b g]) (Sat.pure_intro hg h))
theorem DA (a b:Bytes):XI (a++b)=XI a++XI b:= by simp [XI]
theorem N2 (a:Bytes) (k:Nat):(XI a).take k=XI (a.take k):= by simp [XI]
theorem N3 (a:Bytes) (k:Nat):(XI a).drop k=XI (a.drop k):= by simp [XI]
theorem K2 (X t:Bytes) (a:Nat):Xc (XI X) a (XI t)=XI (X.take a++t++X.drop (a+t.length)):= by
  simp [Xc,DA,N2,N3,U2]
theorem NA (m:Nat):(List.replicate m (Value.int .u8 0).cells.toList).flatten=XI (List.replicate m 0):= by
  have :(Value.int .u8 0).cells.toList=[.int .u8 0]:=rfl
  rw[this,flat1]; simp [XI]
def GL (s:Bytes) (m:Nat):Bytes:=s++List.replicate (m -s.length) 0
theorem put1 (s:Bytes) (m:Nat) (h:s.length≤m):Xc (XI (List.replicate m 0)) 0 (XI (s.take m))=XI (GL s m):= by
  rw[K2,List.take_of_length_le h]
  simp [GL]
theorem put2 (s t:Bytes) (a:Nat) (ht:t≠[]):(GL s (max s.length (a+t.length))).take a++t++(GL s (max s.length (a+t.length))).drop (a+t.length)=Jq s a t:= by
  unfold Jq GL
  rw[if_neg ht]
  congr 1
  · congr 1
    apply List.ext_getElem?
    intro i
    simp only[List.getElem?_take]
    by_cases hi:i<a
    · simp only[hi,if_true]
      by_cases h2:i<s.length
      · rw[List.getElem?_append_left h2,List.getElem?_append_left h2]
      · rw[List.getElem?_append_right (by omega),List.getElem?_append_right (by omega),List.getElem?_replicate,List.getElem?_replicate,if_pos (by omega),if_pos (by omega)]
    · simp [hi]
  · by_cases h:s.length≤a+t.length
    · rw[List.drop_eq_nil_of_le h,List.drop_eq_nil_of_le (by simp;omega)]
    · rw[show max s.length (a+t.length) -s.length=0 by omega]; simp
theorem Vx (s t:Bytes) (a:Nat) (ht:t≠[]):(Jq s a t).length=max s.length (a+t.length):= by
  rw[←put2 s t a ht]; simp [GL];omega
theorem Vw (s:Bytes) (a:Nat):Jq s a []=s:= by simp [Jq]
theorem Sa {s t:Bytes} {a m:Nat} (h1:s.length≤m) (h2:a+t.length≤m):(Jq s a t).length≤m:= by
  by_cases ht:t=[]
  · subst ht; rw[Vw]; exact h1
  · rw[Vx s t a ht];omega
theorem QH:W3 prog 3=some false:= by kernel_rfl
theorem J2:W3 prog 4=some false:= by kernel_rfl
theorem Zx:W3 prog 9=some false:= by kernel_rfl
theorem RC:W3 prog 33=some false:= by kernel_rfl
theorem Ua:W3 prog 116=some false:= by kernel_rfl
theorem Gz:W3 prog 117=some false:= by kernel_rfl
theorem VG:W3 prog 118=some false:= by kernel_rfl
theorem ag_120:W3 prog 120=some true:= by kernel_rfl
theorem AR:W3 prog 123=some true:= by kernel_rfl
theorem YX:W3 prog 126=some true:= by kernel_rfl
theorem asz_120:YH prog 120=true:= by kernel_rfl
theorem SL:YH prog 123=true:= by kernel_rfl
theorem asz_126:YH prog 126=true:= by kernel_rfl
theorem P2:QX prog 83=true:= by kernel_rfl
theorem cal_85:QX prog 85=true:= by kernel_rfl
theorem cal_86:QX prog 86=true:= by kernel_rfl
theorem cal_87:QX prog 87=true:= by kernel_rfl
theorem cal_91:QX prog 91=true:= by kernel_rfl
theorem Am:QX prog 92=true:= by kernel_rfl
theorem P1:QX prog 93=true:= by kernel_rfl
theorem cal_94:QX prog 94=true:= by kernel_rfl
theorem SA:QX prog 110=true:= by kernel_rfl
theorem cal_113:QX prog 113=true:= by kernel_rfl
theorem S9:QX prog 114=true:= by kernel_rfl
theorem cal_115:QX prog 115=true:= by kernel_rfl
theorem cal_116:QX prog 116=true:= by kernel_rfl
theorem cal_129:QX prog 129=true:= by kernel_rfl
theorem cal_130:QX prog 130=true:= by kernel_rfl
theorem Kz:YF prog 33=some 1:= by kernel_rfl
theorem Ts:YF prog 117=some 2:= by kernel_rfl
theorem JB:Xl prog 120 0=some 0:= by kernel_rfl
theorem Hr:Xl prog 120 1=some 1:= by kernel_rfl
theorem UK:Xl prog 120 2=some 2:= by kernel_rfl
theorem Rw:Xl prog 120 3=some 3:= by kernel_rfl
theorem V7:Xl prog 120 4=some 4:= by kernel_rfl
theorem UJ:Xl prog 120 5=some 5:= by kernel_rfl
theorem Da:Xl prog 120 6=some 6:= by kernel_rfl
theorem V6:Xl prog 123 0=some 0:= by kernel_rfl
theorem Rv:Xl prog 123 1=some 1:= by kernel_rfl
theorem Ru:Xl prog 126 0=some 0:= by kernel_rfl
theorem EQ:Xl prog 126 1=some 1:= by kernel_rfl
theorem CZ:Gl prog 123 0=some (0,none):= by kernel_rfl
theorem ifo_3:(prog.info? 3).map (fun i=>(i.zero,i.size,i.bytes))=some (some (.int .i64 0),1,8):= by kernel_rfl
theorem Su:(prog.info? 5).map (fun i=>(i.zero,i.size,i.bytes))=some (some (.int .u8 0),1,1):= by kernel_rfl
theorem Tb:(prog.info? 126).map (fun i=>(i.zero,i.size,i.bytes))=some (some (.agg #[(.int .i64 0),(.int .i64 0)]),2,16):= by kernel_rfl
theorem ifz_3:(prog.info? 3).map (fun i=>(i.zero,i.size))=some (some (.int .i64 0),1):= by kernel_rfl
theorem St:(prog.info? 126).map (fun i=>(i.zero,i.size))=some (some (.agg #[(.int .i64 0),(.int .i64 0)]),2):= by kernel_rfl
theorem W5:prog.follows .mixedOrders=true:= by kernel_rfl
theorem Sm:UF prog 116=true:= by kernel_rfl
theorem Sl:UF prog 118=true:= by kernel_rfl
theorem Pa:Zd prog 120 [0,2]=some [(0,1),(2,1)]:= by kernel_rfl
theorem BI:Zd prog 123 [0,1]=some [(0,1),(1,1)]:= by kernel_rfl
theorem NZ:Zd prog 126 [0,1]=some [(0,1),(1,1)]:= by kernel_rfl
theorem WA:Wi prog 3=some 1:= by kernel_rfl
theorem XU:Wi prog 4=some 1:= by kernel_rfl
theorem sz_5:Wi prog 5=some 1:= by kernel_rfl
theorem Hz:Wi prog 9=some 1:= by kernel_rfl
theorem sz_33:Wi prog 33=some 1:= by kernel_rfl
theorem LC:Wi prog 116=some 1:= by kernel_rfl
theorem K5:Wi prog 117=some 1:= by kernel_rfl
theorem NM:Wi prog 118=some 1:= by kernel_rfl
theorem NL:Wi prog 120=some 7:= by kernel_rfl
theorem UQ:Wi prog 123=some 2:= by kernel_rfl
theorem WF:Wi prog 126=some 2:= by kernel_rfl
theorem zr_4:Zr prog 4=some (some (.bool false)):= by kernel_rfl
theorem Lw:Zr prog 120=some (some (.agg #[(.map none),(.slice none 0 0),(.map none),(.int .i64 0),(.bool false),(.int .i64 0),(.slice none 0 0)])):= by kernel_rfl
theorem Uv:Zr prog 123=some (some (.agg #[(.string ⟨#[]⟩),(.string ⟨#[]⟩)])):= by kernel_rfl
theorem RH:Zr prog 126=some (some (.agg #[(.int .i64 0),(.int .i64 0)])):= by kernel_rfl
theorem HZ:W3 prog 76=some false:= by kernel_rfl
theorem SK:YH prog 129=true:= by kernel_rfl
theorem T3:QX prog 57=true:= by kernel_rfl
theorem Gr:QX prog 88=true:= by kernel_rfl
theorem S8:QX prog 117=true:= by kernel_rfl
theorem cal_118:QX prog 118=true:= by kernel_rfl
theorem V5:Xl prog 129 0=some 0:= by kernel_rfl
theorem V4:Xl prog 129 1=some 1:= by kernel_rfl
theorem Ju:Xl prog 129 2=some 2:= by kernel_rfl
theorem Yk:Xl prog 129 3=some 3:= by kernel_rfl
theorem Rt:Xl prog 129 4=some 4:= by kernel_rfl
theorem ifz_5:(prog.info? 5).map (fun i=>(i.zero,i.size))=some (some (.int .u8 0),1):= by kernel_rfl
theorem BH:Zd prog 129 [0,1]=some [(0,1),(1,1)]:= by kernel_rfl
theorem Lv:Zr prog 129=some (some (.agg #[(.pointer none),(.int .i64 0),(.int .i64 0),(.string ⟨#[]⟩),(.bool false)])):= by kernel_rfl
theorem qau:W3 prog 5=some false:= by kernel_rfl
theorem RD:W3 prog 22=some false:= by kernel_rfl
theorem Mw:W3 prog 24=some true:= by kernel_rfl
theorem qao:W3 prog 35=some true:= by kernel_rfl
theorem J5:W3 prog 37=some false:= by kernel_rfl
theorem Jx:W3 prog 38=some false:= by kernel_rfl
theorem Xp:W3 prog 39=some false:= by kernel_rfl
theorem N8:W3 prog 65=some true:= by kernel_rfl
theorem SQ:W3 prog 77=some false:= by kernel_rfl
theorem ZA:W3 prog 78=some false:= by kernel_rfl
theorem Ut:W3 prog 79=some false:= by kernel_rfl
theorem H5:W3 prog 86=some false:= by kernel_rfl
theorem ZL:W3 prog 89=some false:= by kernel_rfl
theorem AQ:W3 prog 94=some true:= by kernel_rfl
theorem Dl:W3 prog 98=some false:= by kernel_rfl
theorem N7:W3 prog 99=some false:= by kernel_rfl
theorem AS:W3 prog 107=some true:= by kernel_rfl
theorem Dm:W3 prog 113=some true:= by kernel_rfl
theorem PG:W3 prog 147=some false:= by kernel_rfl
theorem PC:YH prog 24=true:= by kernel_rfl
theorem asz_41:YH prog 41=true:= by kernel_rfl
theorem IY:YH prog 65=true:= by kernel_rfl
theorem AH:YH prog 81=true:= by kernel_rfl
theorem asz_88:YH prog 88=true:= by kernel_rfl
theorem TD:YH prog 91=true:= by kernel_rfl
theorem HY:YH prog 94=true:= by kernel_rfl
theorem SM:YH prog 101=true:= by kernel_rfl
theorem TE:YH prog 107=true:= by kernel_rfl
theorem RA:YH prog 113=true:= by kernel_rfl
theorem asz_142:YH prog 142=true:= by kernel_rfl
theorem cal_7:QX prog 7=true:= by kernel_rfl
theorem cal_8:QX prog 8=true:= by kernel_rfl
theorem cal_9:QX prog 9=true:= by kernel_rfl
theorem cal_10:QX prog 10=true:= by kernel_rfl
theorem qa8:QX prog 11=true:= by kernel_rfl
theorem Gt:QX prog 12=true:= by kernel_rfl
theorem AE:QX prog 13=true:= by kernel_rfl
theorem Jl:QX prog 14=true:= by kernel_rfl
theorem HW:QX prog 15=true:= by kernel_rfl
theorem AD:QX prog 16=true:= by kernel_rfl
theorem AC:QX prog 17=true:= by kernel_rfl
theorem KK:QX prog 18=true:= by kernel_rfl
theorem T7:QX prog 19=true:= by kernel_rfl
theorem AB:QX prog 20=true:= by kernel_rfl
theorem AA:QX prog 21=true:= by kernel_rfl
theorem Ib:QX prog 23=true:= by kernel_rfl
theorem T6:QX prog 24=true:= by kernel_rfl
theorem qa7:QX prog 25=true:= by kernel_rfl
theorem IX:QX prog 26=true:= by kernel_rfl
theorem KJ:QX prog 27=true:= by kernel_rfl
theorem IF:QX prog 28=true:= by kernel_rfl
theorem IW:QX prog 29=true:= by kernel_rfl
theorem P8:QX prog 30=true:= by kernel_rfl
theorem P7:QX prog 31=true:= by kernel_rfl
theorem cal_32:QX prog 32=true:= by kernel_rfl
theorem cal_33:QX prog 33=true:= by kernel_rfl
theorem T5:QX prog 34=true:= by kernel_rfl
theorem Gs:QX prog 35=true:= by kernel_rfl
theorem U1:QX prog 36=true:= by kernel_rfl
theorem H3:QX prog 37=true:= by kernel_rfl
theorem cal_38:QX prog 38=true:= by kernel_rfl
theorem cal_39:QX prog 39=true:= by kernel_rfl
theorem A9:QX prog 40=true:= by kernel_rfl
theorem Yd:QX prog 41=true:= by kernel_rfl
theorem A8:QX prog 42=true:= by kernel_rfl
theorem Yc:QX prog 43=true:= by kernel_rfl
theorem T4:QX prog 44=true:= by kernel_rfl
theorem A7:QX prog 45=true:= by kernel_rfl
theorem A0:QX prog 46=true:= by kernel_rfl
theorem Az:QX prog 47=true:= by kernel_rfl
theorem Ay:QX prog 48=true:= by kernel_rfl
theorem Ax:QX prog 49=true:= by kernel_rfl
theorem cal_50:QX prog 50=true:= by kernel_rfl
theorem Aw:QX prog 51=true:= by kernel_rfl
theorem P6:QX prog 52=true:= by kernel_rfl
theorem Av:QX prog 53=true:= by kernel_rfl
theorem Au:QX prog 54=true:= by kernel_rfl
theorem cal_55:QX prog 55=true:= by kernel_rfl
theorem cal_56:QX prog 56=true:= by kernel_rfl
theorem Ar:QX prog 58=true:= by kernel_rfl
theorem VF:QX prog 59=true:= by kernel_rfl
theorem cal_60:QX prog 60=true:= by kernel_rfl
theorem P5:QX prog 61=true:= by kernel_rfl
theorem cal_62:QX prog 62=true:= by kernel_rfl
theorem cal_63:QX prog 63=true:= by kernel_rfl
theorem WH:QX prog 64=true:= by kernel_rfl
theorem T2:QX prog 65=true:= by kernel_rfl
theorem T1:QX prog 66=true:= by kernel_rfl
theorem P4:QX prog 67=true:= by kernel_rfl
theorem VE:QX prog 68=true:= by kernel_rfl
theorem Aq:QX prog 69=true:= by kernel_rfl
theorem cal_70:QX prog 70=true:= by kernel_rfl
theorem cal_71:QX prog 71=true:= by kernel_rfl
theorem Ap:QX prog 72=true:= by kernel_rfl
theorem cal_73:QX prog 73=true:= by kernel_rfl
theorem cal_74:QX prog 74=true:= by kernel_rfl
theorem cal_75:QX prog 75=true:= by kernel_rfl
theorem cal_76:QX prog 76=true:= by kernel_rfl
theorem cal_77:QX prog 77=true:= by kernel_rfl
theorem cal_78:QX prog 78=true:= by kernel_rfl
theorem P3:QX prog 79=true:= by kernel_rfl
theorem YW:QX prog 80=true:= by kernel_rfl
theorem Ao:QX prog 81=true:= by kernel_rfl
theorem cal_82:QX prog 82=true:= by kernel_rfl
theorem An:QX prog 84=true:= by kernel_rfl
theorem cal_89:QX prog 89=true:= by kernel_rfl
theorem HV:QX prog 90=true:= by kernel_rfl
theorem cal_95:QX prog 95=true:= by kernel_rfl
theorem cal_96:QX prog 96=true:= by kernel_rfl
theorem cal_97:QX prog 97=true:= by kernel_rfl
theorem cal_98:QX prog 98=true:= by kernel_rfl
theorem Al:QX prog 99=true:= by kernel_rfl
theorem TC:QX prog 100=true:= by kernel_rfl
theorem Kk:QX prog 101=true:= by kernel_rfl
theorem cal_102:QX prog 102=true:= by kernel_rfl
theorem TB:QX prog 103=true:= by kernel_rfl
theorem SD:QX prog 104=true:= by kernel_rfl
theorem TA:QX prog 105=true:= by kernel_rfl
theorem SC:QX prog 106=true:= by kernel_rfl
theorem T9:QX prog 107=true:= by kernel_rfl
theorem SB:QX prog 108=true:= by kernel_rfl
theorem cal_109:QX prog 109=true:= by kernel_rfl
theorem T8:QX prog 112=true:= by kernel_rfl
theorem cal_119:QX prog 119=true:= by kernel_rfl
theorem cal_120:QX prog 120=true:= by kernel_rfl
theorem cal_121:QX prog 121=true:= by kernel_rfl
theorem cal_122:QX prog 122=true:= by kernel_rfl
theorem cal_123:QX prog 123=true:= by kernel_rfl
theorem cal_124:QX prog 124=true:= by kernel_rfl
theorem cal_125:QX prog 125=true:= by kernel_rfl
theorem cal_126:QX prog 126=true:= by kernel_rfl
theorem cal_127:QX prog 127=true:= by kernel_rfl
theorem cal_131:QX prog 131=true:= by kernel_rfl
theorem cal_137:QX prog 137=true:= by kernel_rfl
theorem cal_157:QX prog 157=true:= by kernel_rfl
theorem Nq:YF prog 22=some 2:= by kernel_rfl
theorem EX:YF prog 25=some 6:= by kernel_rfl
theorem Ym:YF prog 38=some 1:= by kernel_rfl
theorem Np:YF prog 66=some 1:= by kernel_rfl
theorem es_86:YF prog 86=some 2:= by kernel_rfl
theorem es_98:YF prog 98=some 1:= by kernel_rfl
theorem Kb:Xl prog 24 0=some 0:= by kernel_rfl
theorem HD:Xl prog 24 1=some 1:= by kernel_rfl
theorem Sz:Xl prog 35 0=some 0:= by kernel_rfl
theorem WZ:Xl prog 35 1=some 1:= by kernel_rfl
theorem Hg:Xl prog 35 2=some 2:= by kernel_rfl
theorem Bn:Xl prog 35 3=some 3:= by kernel_rfl
theorem Rr:Xl prog 35 4=some 4:= by kernel_rfl
theorem Rq:Xl prog 35 5=some 5:= by kernel_rfl
theorem Wc:Xl prog 41 0=some 0:= by kernel_rfl
theorem XA:Xl prog 41 1=some 1:= by kernel_rfl
theorem HC:Xl prog 65 0=some 0:= by kernel_rfl
theorem Rp:Xl prog 65 1=some 1:= by kernel_rfl
theorem HB:Xl prog 81 0=some 0:= by kernel_rfl
theorem Bm:Xl prog 81 1=some 1:= by kernel_rfl
theorem Zh:Xl prog 81 2=some 2:= by kernel_rfl
theorem Wp:Xl prog 81 3=some 3:= by kernel_rfl
theorem Xt:Xl prog 81 4=some 4:= by kernel_rfl
theorem XL:Xl prog 81 5=some 5:= by kernel_rfl
theorem WC:Xl prog 81 6=some 6:= by kernel_rfl
theorem Ka:Xl prog 81 7=some 7:= by kernel_rfl
theorem HA:Xl prog 81 8=some 8:= by kernel_rfl
theorem W2:Xl prog 81 9=some 9:= by kernel_rfl
theorem ZN:Xl prog 88 0=some 0:= by kernel_rfl
theorem VZ:Xl prog 88 1=some 1:= by kernel_rfl
theorem Tl:Xl prog 91 0=some 0:= by kernel_rfl
theorem Up:Xl prog 91 1=some 1:= by kernel_rfl
theorem Z7:Xl prog 91 2=some 2:= by kernel_rfl
theorem VY:Xl prog 94 0=some 0:= by kernel_rfl
theorem Uo:Xl prog 94 1=some 1:= by kernel_rfl
theorem Ro:Xl prog 94 2=some 2:= by kernel_rfl
theorem Tk:Xl prog 94 3=some 3:= by kernel_rfl
theorem Ry:Xl prog 101 0=some 0:= by kernel_rfl
theorem V8:Xl prog 101 1=some 1:= by kernel_rfl
theorem Rx:Xl prog 101 2=some 2:= by kernel_rfl
theorem Hu:Xl prog 101 3=some 3:= by kernel_rfl
theorem Nd:Xl prog 101 4=some 4:= by kernel_rfl
theorem Jv:Xl prog 107 0=some 0:= by kernel_rfl
theorem Zz:Xl prog 107 1=some 1:= by kernel_rfl
theorem Wg:Xl prog 107 2=some 2:= by kernel_rfl
theorem Jk:Xl prog 107 3=some 3:= by kernel_rfl
theorem Ht:Xl prog 107 4=some 4:= by kernel_rfl
theorem X9:Xl prog 113 0=some 0:= by kernel_rfl
theorem Hs:Xl prog 113 1=some 1:= by kernel_rfl
theorem JA:Xl prog 142 0=some 0:= by kernel_rfl
theorem Nc:Xl prog 142 1=some 1:= by kernel_rfl
theorem Rs:Xl prog 149 0=some 0:= by kernel_rfl
theorem UI:Xl prog 149 1=some 1:= by kernel_rfl
theorem fv_94_0:Gl prog 94 0=some (0,none):= by kernel_rfl
theorem Tj:Gl prog 94 1=some (1,none):= by kernel_rfl
theorem fv_94_3:Gl prog 94 3=some (3,none):= by kernel_rfl
theorem Um:(prog.info? 9).map (fun i=>(i.zero,i.size,i.bytes))=some (some (.string ⟨#[]⟩),1,16):= by kernel_rfl
theorem Iv:(prog.info? 65).map (fun i=>(i.zero,i.size,i.bytes))=some (some (.agg #[(.int .i64 0),(.string ⟨#[]⟩)]),2,24):= by kernel_rfl
theorem VW:(prog.info? 113).map (fun i=>(i.zero,i.size,i.bytes))=some (some (.agg #[(.int .i64 0),(.string ⟨#[]⟩)]),2,24):= by kernel_rfl
theorem J8:(prog.info? 9).map (fun i=>(i.zero,i.size))=some (some (.string ⟨#[]⟩),1):= by kernel_rfl
theorem ifz_37:(prog.info? 37).map (fun i=>(i.zero,i.size))=some (some (.pointer none),1):= by kernel_rfl
theorem Iq:(prog.info? 65).map (fun i=>(i.zero,i.size))=some (some (.agg #[(.int .i64 0),(.string ⟨#[]⟩)]),2):= by kernel_rfl
theorem Ri:(prog.info? 113).map (fun i=>(i.zero,i.size))=some (some (.agg #[(.int .i64 0),(.string ⟨#[]⟩)]),2):= by kernel_rfl
theorem qa0:Zd prog 24 []=some []:= by kernel_rfl
theorem Sc:Zd prog 24 [0]=some [(0,1)]:= by kernel_rfl
theorem Fy:Zd prog 24 [0,1]=some [(0,1),(1,1)]:= by kernel_rfl
theorem Fx:Zd prog 41 [0,1]=some [(0,1),(1,1)]:= by kernel_rfl
theorem Fw:Zd prog 65 [0,1]=some [(0,1),(1,1)]:= by kernel_rfl
theorem Sb:Zd prog 81 [0]=some [(0,1)]:= by kernel_rfl
theorem pl_88_:Zd prog 88 []=some []:= by kernel_rfl
theorem Vy:Zd prog 91 [0,1,2]=some [(0,1),(1,1),(2,1)]:= by kernel_rfl
theorem Fv:Zd prog 91 [0,2]=some [(0,1),(2,1)]:= by kernel_rfl
theorem Y1:Zd prog 94 [0,1]=some [(0,1),(1,1)]:= by kernel_rfl
theorem GH:Zd prog 94 [0,1,2]=some [(0,1),(1,1),(2,1)]:= by kernel_rfl
theorem Fu:Zd prog 94 [1,3]=some [(1,1),(3,1)]:= by kernel_rfl
theorem KZ:Zd prog 101 [0,1,3]=some [(0,1),(1,1),(3,1)]:= by kernel_rfl
theorem Pb:Zd prog 107 [0,1]=some [(0,1),(1,1)]:= by kernel_rfl
theorem UC:Zd prog 107 [0,1,2,3,4]=some [(0,1),(1,1),(2,1),(3,1),(4,1)]:= by kernel_rfl
theorem pl_113_:Zd prog 113 []=some []:= by kernel_rfl
theorem UV:Zd prog 113 [0,1]=some [(0,1),(1,1)]:= by kernel_rfl
theorem LW:Zd prog 142 [0]=some [(0,1)]:= by kernel_rfl
theorem Ie:Wi prog 22=some 1:= by kernel_rfl
theorem DP:Wi prog 24=some 2:= by kernel_rfl
theorem qak:Wi prog 35=some 6:= by kernel_rfl
theorem YI:Wi prog 65=some 2:= by kernel_rfl
theorem PR:Wi prog 77=some 1:= by kernel_rfl
theorem Yf:Wi prog 78=some 1:= by kernel_rfl
theorem Vf:Wi prog 79=some 1:= by kernel_rfl
theorem sz_81:Wi prog 81=some 10:= by kernel_rfl
theorem KU:Wi prog 86=some 1:= by kernel_rfl
theorem ZP:Wi prog 94=some 4:= by kernel_rfl
theorem sz_98:Wi prog 98=some 1:= by kernel_rfl
theorem NN:Wi prog 107=some 5:= by kernel_rfl
theorem XS:Wi prog 113=some 2:= by kernel_rfl
theorem sz_147:Wi prog 147=some 1:= by kernel_rfl
theorem zr_3:Zr prog 3=some (some (.int .i64 0)):= by kernel_rfl
theorem zr_9:Zr prog 9=some (some (.string ⟨#[]⟩)):= by kernel_rfl
theorem Lt:Zr prog 24=some (some (.agg #[(.string ⟨#[]⟩),(.slice none 0 0)])):= by kernel_rfl
theorem zr_41:Zr prog 41=some (some (.agg #[(.slice none 0 0),(.pointer none)])):= by kernel_rfl
theorem DC:Zr prog 65=some (some (.agg #[(.int .i64 0),(.string ⟨#[]⟩)])):= by kernel_rfl
theorem zr_81:Zr prog 81=some (some (.agg #[(.pointer none),(.pointer none),(.int .i64 0),(.int .i64 0),(.pointer none),(.bool false),(.bool false),(.int .i64 0),(.bool false),(.pointer none)])):= by kernel_rfl
theorem zr_88:Zr prog 88=some (some (.agg #[(.slice none 0 0),(.bool false)])):= by kernel_rfl
theorem PK:Zr prog 91=some (some (.agg #[(.string ⟨#[]⟩),(.int .i64 0),(.map none)])):= by kernel_rfl
theorem ZY:Zr prog 94=some (some (.agg #[(.string ⟨#[]⟩),(.int .i64 0),(.int .i64 0),(.bool false)])):= by kernel_rfl
theorem Lx:Zr prog 101=some (some (.agg #[(.int .i64 0),(.map none),(.int .i64 0),(.map none),(.string ⟨#[]⟩)])):= by kernel_rfl
theorem My:Zr prog 107=some (some (.agg #[(.int .i64 0),(.int .i64 0),(.int .i64 0),(.int .i64 0),(.string ⟨#[]⟩)])):= by kernel_rfl
theorem zr_108:Zr prog 108=some (some .nilFunc):= by kernel_rfl
theorem WT:Zr prog 113=some (some (.agg #[(.int .i64 0),(.string ⟨#[]⟩)])):= by kernel_rfl
theorem zr_142:Zr prog 142=some (some (.agg #[(.string ⟨#[]⟩),(.bool false)])):= by kernel_rfl
theorem Lu:Zr prog 149=some (some (.agg #[(.pointer none),(.slice none 0 0)])):= by kernel_rfl
def inC:RowC Int:=⟨fun x=>[intV x],1, by decide, fun _=>rfl, fun _=>rfl⟩
def KG:List (Int×Bytes×Bytes)→Int→Bytes×Bytes
  | [],_=>([],[])
  | x::l,f=> if x.1=f then x.2 else KG l f
structure RInv (l:List (Int×Bytes×Bytes)) (D:DS):Prop where
  inv:DInv D
  says: ∀k,KG l k=D.F k
  num: ∀x∈l,0≤x.1∧x.1<16
  nodup:(l.map (·.1)).Nodup
structure RL where
  fv:Value
  qv:Value
  l:List (Int×Bytes×Bytes)
theorem EM {l m:List (Int×Bytes×Bytes)} {f:Int} (h: ∀x∈l,x.1≠f):KG (l++m) f=KG m f:= by
  induction l with
  | nil=>rfl
  | cons x l ih=> rw[List.cons_append,KG,if_neg (h x (by simp)),ih fun y hy=>h y (by simp [hy])]
theorem CX {l:List (Int×Bytes×Bytes)} {f k:Int} (h:k≠f) (m:List (Int×Bytes×Bytes)) (hm:KG m k=([],[])):KG (l.filter (fun x=>decide (x.1≠f))++m) k=KG l k:= by
  induction l with
  | nil=> exact hm
  | cons x l ih=>
    by_cases e:x.1=f
    · rw[List.filter_cons_of_neg (by simp [e]),ih,KG,if_neg (by omega)]
    · rw[List.filter_cons_of_pos (by simp [e]),List.cons_append,KG,KG,ih]
def putR (l:List (Int×Bytes×Bytes)) (x:Int×Bytes×Bytes):List (Int×Bytes×Bytes):=l.filter (fun y=>decide (y.1≠x.1))++[x]
theorem Fp {l:List (Int×Bytes×Bytes)} {F:Int→Bytes×Bytes} (h: ∀k,KG l k=F k) (x:Int×Bytes×Bytes) (k:Int):KG (putR l x) k=J7 F x.1 x.2 k:= by
  unfold putR J7
  by_cases e:k=x.1
  · subst e
    rw[EM (fun y hy=> by simpa using(List.mem_filter.1 hy).2),if_pos Qa]
    simp [KG]
  · rw[CX e [x] (by rw[KG,if_neg (Ne.symm e)];rfl),if_neg e]; exact h k
theorem RInv.put {l:List (Int×Bytes×Bytes)} {D:DS} (h:RInv l D) (k:Int) (a b:Bytes) (hk:0≤k∧k<16) (ha:a.length≤16777216) (hb:b.length≤16777216):RInv (putR l (k,a,b)) {D with F:=J7 D.F k (a,b)}:= by
  refine⟨{h.inv with now:= fun j=> ?_,last:= fun j=> ?_},Fp h.says (k,a,b), fun x hx=> ?_, ?_⟩
  · simp only[J7];split
    · exact ha
    · exact h.inv.now j
  · simp only[J7];split
    · exact hb
    · exact h.inv.last j
  · rcases List.mem_append.1 hx with q | q
    · exact h.num x (List.mem_filter.1 q).1
    · simp at q; subst q; exact hk
  · unfold putR
    rw[List.map_append]
    refine List.nodup_append.2 ⟨(h.nodup.sublist (List.filter_sublist.map _)), by simp, ?_⟩
    intro x hx y hy e
    obtain⟨z,hz,rfl⟩:=List.mem_map.1 hx
    simp at hy
    have :=(List.mem_filter.1 hz).2
    simp at this
    exact this (e.trans hy)
theorem RInv.count {l:List (Int×Bytes×Bytes)} {D:DS} (h:RInv l D):l.length≤16:= by
  have hs: ∀x∈(l.map (·.1)).map Int.toNat,x∈List.range 16:= by
    intro x hx
    obtain⟨y,hy,rfl⟩:=List.mem_map.1 hx
    obtain⟨z,hz,rfl⟩:=List.mem_map.1 hy
    have :=h.num z hz
    simp;omega
  have hm:((l.map (·.1)).map Int.toNat).Nodup:= by
    refine List.pairwise_map.2 (h.nodup.imp_of_mem ?_)
    intro a b ha hb hne e
    obtain⟨z,hz,rfl⟩:=List.mem_map.1 ha
    obtain⟨y,hy,rfl⟩:=List.mem_map.1 hb
    have :=h.num z hz; have :=h.num y hy
    exact hne (by omega)
  have :=List.Nodup.length_le_of_subset hm hs
  simpa using this
theorem RInv.upd {l:List (Int×Bytes×Bytes)} {D D':DS} (h:RInv l D) (hF:D'.F=D.F) (hi:DInv D'):RInv l D':=⟨hi, fun k=> by rw[hF]; exact h.says k,h.num,h.nodup⟩
end Go.Proofs.YtiibgheijbbmaaaGreatDoor
namespace Go.Proofs.YtiibgheijbbmaaaGreatDoor.M
open Go.RowKit Proofs.Tryz
section
variable {P:Program} {n:Nat} {ops:Array Oper} {Q:Exit→Act→World→Prop} {rest:List Oper} {L:Env} {w:World} {d:Nat} {ty:TypeId} {pos:String} {aft:Array Edge} {As:List Th}
theorem Ye {dst:Option Nat} {x:Operand} {f:Nat} {fs:List Value} {args:List Operand} {vs:List Value} {ts:Array TypeId} {R:Ending→World→Prop} (hx:look L x=some (.func (.func f) fs.toArray #[])) (hf:QX P f=true) (ha:Js L args=some vs) (hc:Calls P f (fs++vs).toArray w R) (hd:(match dst with | some d=>Nat.blt d n | none=>true)=true)
    (hk: ∀e w',R e w'→ ∃v,e= .returned v∧wl P n ops Q rest (pd dst v L) w'):wl P n ops Q (⟨dst,.call ⟨.value x,args.toArray,ts⟩,ty,pos,aft,none⟩::rest) L w:= by
  unfold wl
  intro a hfr
  refine wpList_plain Qa fun K hK=> ?_
  unfold Oper.wp
  have he:=hfr.evals ha
  have hr:(execOp a.eval ⟨dst,.call ⟨.value x,args.toArray,ts⟩,ty,pos,aft,none⟩).run P w= .ok (.enter f (fs++vs).toArray) w:= by
    simp only[execOp,resolve,hfr.eval hx,Deferred.ofValue,invoke]
    simp [he,Kj hf]
  rw[hr]
  refine Calls.mono hc fun e w' hR=> ?_
  obtain⟨v,rfl,h⟩:=hk e w' hR
  unfold wl at h
  exact hK _ _ (h _ (hfr.put dst v hd))
theorem Tq {f:Nat} {fs:List Operand} {vs:List Value} (hx:Js L fs=some vs):Ev P L w ⟨some d,.makeFunc (.func f) fs.toArray #[],ty,pos,aft,none⟩ (.func (.func f) vs.toArray #[]):= fun ρ hρ=> by
  have :fs.map ρ=vs:= by
    induction fs generalizing vs with
    | nil=> simp [Js]at hx; subst hx;rfl
    | cons y ys ih=>
      simp only[Js]at hx
      cases h1:look L y with
      | none=> simp [h1]at hx
      | some u=>
        cases h2:Js L ys with
        | none=> simp [h1,h2]at hx
        | some us=> simp [h1,h2]at hx; subst hx; simp [hρ _ _ h1,ih h2]
  simp [execOp,Instr.makeFunc,this]
theorem Wa {f:Nat} {fs:List Operand} {vs:List Value} (hx:Js L fs=some vs) (hd:Nat.blt d n=true) (hk:wl P n ops Q rest ((d,.func (.func f) vs.toArray #[])::L) w):wl P n ops Q (⟨some d,.makeFunc (.func f) fs.toArray #[],ty,pos,aft,none⟩::rest) L w:=
  Xr hd (Tq hx) hk
end
theorem KF (l:List Int):inC.cells l=l.map intV:= by
  induction l with
  | nil=>rfl
  | cons a l ih=> simp only[RowC.cells,List.flatMap_cons,List.map_cons]at ih⊢; rw[ih];rfl
def RV (b:Nat):RowC Nat:=⟨fun o=>[ptrV b o],1, by decide, fun _=>rfl, fun _=>rfl⟩
