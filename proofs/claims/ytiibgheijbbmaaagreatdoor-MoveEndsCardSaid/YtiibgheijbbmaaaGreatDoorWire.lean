/- wire: numbers as text and back, in plain data; comparing interface values with nil. Conditions: each lemma's own hypotheses. -/
import Derived.Test.YtiibgheijbbmaaaGreatDoorOp4
import Derived.Lib.AtoiAll
import Derived.Lib.ItoaLen
import Derived.Lib.IndexLaws
import Derived.Sort.Walk0
namespace Go.Proofs.YtiibgheijbbmaaaGreatDoor
open Go.RowKit M Proofs.Tryz
def Xy (n:Int):Prop:= -9223372036854775808≤n∧n≤9223372036854775807
theorem RH: ∀(k u:Nat),u<10^(k+1)→Lib.nDigits u≤k+1
  | 0,u,h=> by rw[Lib.nDigits_small (by simpa using h)]; exact Nat.le_refl _
  | k+1,u,h=> by
    by_cases hu:u<10
    · rw[Lib.nDigits_small hu];omega
    · rw[Lib.nDigits_big hu]
      have :=RH k (u/ 10) (by rw[Nat.pow_succ]at h;omega)
      omega
theorem HW (u:Nat): ∀b∈Lib.decDigits u,48≤b.toNat∧b.toNat≤57:= by
  induction u using Nat.strongRecOn with
  | _ u ih=>
    rw[Lib.decDigits]
    split
    · rename_i h
      intro b hb
      simp only[List.mem_singleton]at hb
      subst hb
      have :(UInt8.ofNat (48+u)).toNat=48+u:= by simp;omega
      omega
    · rename_i h
      intro b hb
      rcases List.mem_append.1 hb with hb | hb
      · exact ih (u/ 10) (by omega) b hb
      · simp only[List.mem_singleton]at hb
        subst hb
        have :(UInt8.ofNat (48+u%10)).toNat=48+u%10:= by simp;omega
        omega
theorem GE (u:Nat):Lib.decDigits u≠[]:= by
  rw[Lib.decDigits];split<;> simp
theorem Gi: ∀(l r:Bs) (a:Nat),Lib.parseUint10 a (l++r)= match Lib.parseUint10 a l with | .ok v=>Lib.parseUint10 v r | .«syntax»=> .«syntax» | .range=> .range
  | [],r,a=> by simp [Lib.parseUint10]
  | c::l,r,a=> by
    simp only[List.cons_append,Lib.parseUint10]
    split
    · split
      · rfl
      · split
        · rfl
        · exact Gi l r _
    · rfl
theorem CC (u:Nat) (h:u<18446744073709551616):Lib.parseUint10 0 (Lib.decDigits u)= .ok u:= by
  induction u using Nat.strongRecOn with
  | _ u ih=>
    rw[Lib.decDigits]
    split
    · rename_i hu
      have e:(UInt8.ofNat (48+u)).toNat=48+u:= by simp;omega
      simp only[Lib.parseUint10,e]
      rw[if_pos (by omega),if_neg (by omega),if_neg (by omega)]
      congr 1;omega
    · rename_i hu
      rw[Gi,ih (u/ 10) (by omega) (by omega)]
      have e:(UInt8.ofNat (48+u%10)).toNat=48+u%10:= by simp;omega
      simp only[Lib.parseUint10,e]
      rw[if_pos (by omega),if_neg (by omega),if_neg (by omega)]
      congr 1;omega
theorem VT (u:Nat) (h:u<18446744073709551616):Lib.parseMag (Lib.decDigits u)= .ok u:= by
  rw[Lib.parseMag,if_neg (GE u),CC u h]
theorem AN {n:Int} (h:Xy n):Lib.atoiAll (Lib.itoa n)= .ok n:= by
  obtain⟨h0,h1⟩:=h
  by_cases hn:n<0
  · obtain⟨u,rfl⟩: ∃u:Nat,n= -(u:Int):=⟨n.natAbs, by omega⟩
    rw[Lib.itoa_neg u (by omega)]
    have e45:(45:UInt8).toNat=45:=rfl
    simp only[Lib.atoiAll,e45]
    simp only[or_true,if_true,VT u (show u<18446744073709551616 by omega),not_true,false_and,if_false,true_and]
    rw[if_neg (by omega)]
  · obtain⟨u,rfl⟩: ∃u:Nat,n=u:=⟨n.toNat, by omega⟩
    rw[Lib.itoa_nonneg]
    cases hd:Lib.decDigits u with
    | nil=> exact absurd hd (GE u)
    | cons c r=>
      have hc:=HW u c (by rw[hd]; simp)
      simp only[Lib.atoiAll]
      rw[if_neg (by omega),←hd,VT u (by omega)]
      simp only[show(c.toNat=45)=False from by simp;omega,not_false_eq_true,true_and,false_and,if_false]
      rw[if_neg (by omega)]
theorem Ed {l:Bs} {n:Int} (h:Lib.atoiAll l= .ok n):Xy n:= by
  cases l with
  | nil=> simp [Lib.atoiAll]at h
  | cons c r=>
    simp only[Lib.atoiAll]at h
    split at h
    · cases h
    · cases h
    · rename_i u hu
      split at h
      · cases h
      split at h
      · cases h
      have hlt:=Lib.parseMag_lt hu
      injection h with h
      subst h
      unfold Xy
      split<;>omega
theorem WQ {n:Int} (h:Xy n):(Lib.itoa n).length≤20∧1≤(Lib.itoa n).length:= by
  obtain⟨h0,h1⟩:=h
  by_cases hn:n<0
  · obtain⟨u,rfl⟩: ∃u:Nat,n= -(u:Int):=⟨n.natAbs, by omega⟩
    rw[Lib.itoa_neg u (by omega),List.length_cons,Lib.decDigits_length]
    have :=RH 18 u (by simp;omega)
    omega
  · obtain⟨u,rfl⟩: ∃u:Nat,n=u:=⟨n.toNat, by omega⟩
    rw[Lib.itoa_nonneg,Lib.decDigits_length]
    have :=RH 18 u (by simp;omega)
    have :=Lib.nDigits_pos u
    omega
theorem Ah {n:Int}: ∀b∈Lib.itoa n,b.toNat≤57:= by
  intro b hb
  by_cases hn:n<0
  · obtain⟨u,rfl⟩: ∃u:Nat,n= -(u:Int):=⟨n.natAbs, by omega⟩
    rw[Lib.itoa_neg u (by omega)]at hb
    rcases List.mem_cons.1 hb with rfl | hb
    · decide
    · exact(HW u b hb).2
  · obtain⟨u,rfl⟩: ∃u:Nat,n=u:=⟨n.toNat, by omega⟩
    rw[Lib.itoa_nonneg]at hb
    exact(HW u b hb).2
theorem R2 {e:UInt8}: ∀(l r:Bs),e∉l→Lib.indexByte (l++e::r) e=(l.length:Int)
  | [],r,_=> by simp [Lib.indexByte]
  | b::l,r,h=> by
    have hb: ¬b=e:= fun q=>h (by simp [q])
    have :=R2 (e:=e) l r (fun q=>h (List.mem_cons_of_mem _ q))
    simp only[List.cons_append,Lib.indexByte,this]
    rw[if_neg (by simpa using hb),if_neg (by simp)]
    simp
def U5 (e:UInt8) (least:Int) (rest:Bs):Option (Int×Bs):=
  if Lib.indexByte (rest.take 21) e<0 then none
  else match Lib.atoiAll ((rest.take 21).take (Lib.indexByte (rest.take 21) e).toNat)with
    | .ok n=> if Lib.itoa n=(rest.take 21).take (Lib.indexByte (rest.take 21) e).toNat∧least≤n then some (n,rest.drop ((Lib.indexByte (rest.take 21) e).toNat+1))else none
    | _=>none
theorem OS {e:UInt8} {least n:Int} {r:Bs} (he:57<e.toNat) (hn:Xy n) (hl:least≤n):U5 e least (Lib.itoa n++e::r)=some (n,r):= by
  have hlen:=WQ hn
  have hmem:e∉Lib.itoa n:= fun q=> by have :=Ah e q;omega
  have ht:(Lib.itoa n++e::r).take 21=Lib.itoa n++e::r.take (20 -(Lib.itoa n).length):= by
    rw[List.take_append,List.take_of_length_le (by omega), show 21 -(Lib.itoa n).length=(20 -(Lib.itoa n).length)+1 by omega,List.take_succ_cons]
  have hi:Lib.indexByte ((Lib.itoa n++e::r).take 21) e=((Lib.itoa n).length:Int):= by rw[ht]; exact R2 _ _ hmem
  have ht2:((Lib.itoa n++e::r).take 21).take (Lib.itoa n).length=Lib.itoa n:= by rw[ht,List.take_left'];rfl
  unfold U5
  rw[hi,if_neg (by omega)]
  rw[Int.toNat_natCast,ht2,AN hn]
  dsimp only
  rw[if_pos ⟨rfl,hl⟩,List.drop_append,List.drop_eq_nil_of_le (by omega), show(Lib.itoa n).length+1 -(Lib.itoa n).length=1 by omega]
  rfl
theorem Bg {e:UInt8} {least n:Int} {rest r:Bs} (h:U5 e least rest=some (n,r)):rest=Lib.itoa n++e::r∧Xy n∧least≤n:= by
  unfold U5 at h
  split at h
  · cases h
  · rename_i hneg
    split at h
    · rename_i m hm
      split at h
      · rename_i hc
        injection h with h
        injection h with h1 h2
        subst h1
        obtain⟨o,ho⟩: ∃o:Nat,Lib.indexByte (rest.take 21) e=o:=⟨(Lib.indexByte (rest.take 21) e).toNat, by omega⟩
        rw[ho,Int.toNat_natCast]at hc h2 hm
        have h3:=(Lib.indexByte_some ho).1
        have h4:o<21∧rest[o]? =some e:= by
          have :=(Jo h3).1
          simp at this
          rw[List.getElem?_take,if_pos (by omega)]at h3
          exact⟨by omega,h3⟩
        refine⟨?_,Ed hm,hc.2⟩
        rw[hc.1,←h2,List.take_take,Nat.min_eq_left (by omega)]
        have h5:=(Jo h4.2)
        rw[←h5.2,List.getElem_cons_drop,List.take_append_drop]
      · cases h
    · cases h
section
variable {P:Program} {n:Nat} {ops:Array Oper} {Q:Exit→Act→World→Prop} {rest:List Oper} {L:Env} {w:World} {d:Nat} {ty:TypeId} {pos:String} {aft:Array Edge}
def Gn (P:Program) (t:Nat):Bool:= match P.underlying t with | some (.interface _)=>true | _=>false
theorem Sf {x:Operand} {t t2:TypeId} {v:Value} {g:Bool} (hu:Gn P t=true) (hv:(v= .nilIface∧g=false)∨ ∃a b,v= .iface a b∧g=true) (hx:M.look L x=some v):Ev P L w ⟨some d,.binOp .neq t x (.const .nilIface) t2,ty,pos,aft,none⟩ (.bool g):= fun ρ hρ=> by
  have hy:ρ (.const .nilIface)= .nilIface:=hρ _ _ Qa
  unfold Gn at hu
  cases hq:P.underlying t with
  | none=> rw[hq]at hu; cases hu
  | some dsc=>
    rw[hq]at hu
    cases dsc<;> simp at hu
    rcases hv with⟨rfl,rfl⟩ | ⟨a,b,rfl,rfl⟩
    · have hr:(Op.equal t .nilIface .nilIface).run P w= .ok true w:= by
        unfold Op.equal Op.maxDepth Op.equalIn
        simp only[Sem.run_bind,run_underlying hq,Result.andThen]
        rfl
      simp [execOp,hρ _ _ hx,hy,eqGuard,binOp,hr]
    · have hr:(Op.equal t (.iface a b) .nilIface).run P w= .ok false w:= by
        unfold Op.equal Op.maxDepth Op.equalIn
        simp only[Sem.run_bind,run_underlying hq,Result.andThen]
        rfl
      simp [execOp,hρ _ _ hx,hy,eqGuard,binOp,hr]
end
section
variable {P:Program} {n:Nat} {ops:Array Oper} {Q:Exit→Act→World→Prop} {rest:List Oper} {L:Env} {w:World} {d:Nat} {ty:TypeId} {pos:String} {aft:Array Edge} {x y:Operand} {t t2:TypeId}
theorem wl_remN {a b:Int} (hx:M.look L x=some (.int .i64 a)) (hy:M.look L y=some (.int .i64 b)) (h0:a≤0) (hb:0<b) (hd:Nat.blt d n=true) (hk:wl P n ops Q rest ((d,.int .i64 (-(-a%b)))::L) w):wl P n ops Q (⟨some d,.binOp .rem t x y t2,ty,pos,aft,none⟩::rest) L w:=
  Xv hd (fun ρ hρ=> by
    have hb':b≠0:= by omega
    have e:a.tmod b= -(-a%b):= by
      have h7:(-a).tmod b= -(a.tmod b):=Int.neg_tmod a b
      rw[Int.tmod_eq_emod_of_nonneg (show 0≤ -a by omega)]at h7
      generalize a.tmod b=q at h7⊢
      generalize -a%b=q2 at h7⊢
      omega
    simp [execOp,hρ _ _ hx,hρ _ _ hy,eqGuard,binOp,Op.intDiv,hb',e]) hk
end
theorem EN {e:UInt8} {least m:Int} {r:Bs} {k:Nat} (he:57<e.toNat) (hk:r[k]? =some e) (hm:Xy m) (hl:least≤m) (h:r.take k=Lib.itoa m):U5 e least r=some (m,r.drop (k+1)):= by
  have e1:r=Lib.itoa m++e::r.drop (k+1):= by
    have h5:=Jo hk
    rw[←h,←h5.2,List.getElem_cons_drop,List.take_append_drop]
  have :=OS (r:=r.drop (k+1)) he hm hl
  rw[←e1]at this
  exact this
structure CellsR (Z:List (Bs×Bs)) (c:Bs→Bs):Prop where
  sorted:(Z.map (·.1)).Pairwise (· < ·)
  val: ∀x∈Z,x.2≠[]∧c x.1=x.2
  none: ∀k,k∉Z.map (·.1)→c k=[]
theorem CellsR.empty:CellsR [] (fun _=>[]):=⟨by simp, by simp, fun _ _=>rfl⟩
def Gg (k v:Bs):Bool→List (Bs×Bs)→List (Bs×Bs)
  | true,[]=>[]
  | false,[]=>[(k,v)]
  | true,x::r=> if x.1=k then Gg k v true r else x::Gg k v true r
  | false,x::r=> if x.1=k then Gg k v false r else if k<x.1 then(k,v)::x::Gg k v true r else x::Gg k v false r
theorem Vs (k v:Bs): ∀Z,Gg k v true Z=Z.filter (fun x=>decide (x.1≠k))
  | []=>rfl
  | x::r=> by
    simp only[Gg]
    split
    · rename_i h; rw[Vs k v r,List.filter_cons_of_neg (by simpa using h)]
    · rename_i h; rw[Vs k v r,List.filter_cons_of_pos (by simpa using h)]
theorem Us (k v:Bs): ∀(Z:List (Bs×Bs)) (x:Bs×Bs),x∈Gg k v false Z↔(x∈Z∧x.1≠k)∨x=(k,v)
  | [],x=> by simp [Gg]
  | y::r,x=> by
    simp only[Gg]
    split
    · rename_i h
      rw[Us k v r x,List.mem_cons]
      constructor
      · rintro(⟨a,b⟩ | a)
        · exact .inl ⟨.inr a,b⟩
        · exact .inr a
      · rintro(⟨a | a,b⟩ | a)
        · subst a; exact absurd h b
        · exact .inl ⟨a,b⟩
        · exact .inr a
    · rename_i h
      split
      · rw[Vs]
        simp only[List.mem_cons,List.mem_filter,decide_eq_true_eq]
        constructor
        · rintro(a | a | ⟨a,b⟩)
          · exact .inr a
          · subst a; exact .inl ⟨.inl Qa,h⟩
          · exact .inl ⟨.inr a,b⟩
        · rintro(⟨a | a,b⟩ | a)
          · exact .inr (.inl a)
          · exact .inr (.inr ⟨a,b⟩)
          · exact .inl a
      · rw[List.mem_cons,Us k v r x,List.mem_cons]
        constructor
        · rintro(a | ⟨a,b⟩ | a)
          · subst a; exact .inl ⟨.inl Qa,h⟩
          · exact .inl ⟨.inr a,b⟩
          · exact .inr a
        · rintro(⟨a | a,b⟩ | a)
          · exact .inl a
          · exact .inr (.inl ⟨a,b⟩)
          · exact .inr (.inr a)
theorem Ie {a b:Bs} (h: ¬a<b) (g:a≠b):b<a:=
  Decidable.byContradiction fun q=>g (List.le_antisymm (List.not_lt.1 q) (List.not_lt.1 h))
theorem Ko (k v:Bs): ∀(Z:List (Bs×Bs)),(Z.map (·.1)).Pairwise (· < ·)→((Gg k v false Z).map (·.1)).Pairwise (· < ·)
  | [],_=> by simp [Gg]
  | y::r,hp=> by
    rw[List.map_cons,List.pairwise_cons]at hp
    obtain⟨h1,h2⟩:=hp
    simp only[Gg]
    split
    · exact Ko k v r h2
    · rename_i hne
      split
      · rename_i hlt
        rw[Vs,List.map_cons,List.map_cons,List.pairwise_cons,List.pairwise_cons]
        have hsub: ∀a∈(r.filter (fun x=>decide (x.1≠k))).map (·.1),a∈r.map (·.1):= fun a ha=> by
          obtain⟨x,hx,rfl⟩:=List.mem_map.1 ha
          exact List.mem_map.2 ⟨x,(List.mem_filter.1 hx).1,Qa⟩
        refine⟨fun a ha=> ?_, fun a ha=>h1 a (hsub a ha),h2.sublist ((List.filter_sublist).map _)⟩
        rcases List.mem_cons.1 ha with rfl | ha
        · exact hlt
        · exact List.lt_trans hlt (h1 a (hsub a ha))
      · rename_i hge
        rw[List.map_cons,List.pairwise_cons]
        refine⟨fun a ha=> ?_,Ko k v r h2⟩
        obtain⟨x,hx,rfl⟩:=List.mem_map.1 ha
        rcases(Us k v r x).1 hx with⟨a,_⟩ | a
        · exact h1 _ (List.mem_map.2 ⟨x,a,Qa⟩)
        · subst a; exact Ie hge (fun e=>hne e.symm)
def putZ (Z:List (Bs×Bs)) (k v:Bs):List (Bs×Bs):=Gg k v (decide (v=[])) Z
theorem CellsR.put {Z:List (Bs×Bs)} {c:Bs→Bs} (h:CellsR Z c) (k v:Bs):CellsR (putZ Z k v) (Et c k v):= by
  unfold putZ
  by_cases hv:v=[]
  · subst hv
    rw[Q8 Qa,Vs]
    refine⟨h.sorted.sublist ((List.filter_sublist).map _), fun x hx=> ?_, fun j hj=> ?_⟩
    · obtain⟨h1,h2⟩:=List.mem_filter.1 hx
      have h3:=h.val x h1
      refine⟨h3.1, ?_⟩
      unfold Et; rw[if_neg (by simpa using h2)]; exact h3.2
    · unfold Et
      split
      · rfl
      · rename_i hne
        refine h.none j fun hm=>hj ?_
        obtain⟨x,hx,rfl⟩:=List.mem_map.1 hm
        exact List.mem_map.2 ⟨x,List.mem_filter.2 ⟨hx, by simpa using hne⟩,rfl⟩
  · rw[Qv hv]
    refine⟨Ko k v Z h.sorted, fun x hx=> ?_, fun j hj=> ?_⟩
    · rcases(Us k v Z x).1 hx with⟨h1,h2⟩ | rfl
      · have h3:=h.val x h1
        refine⟨h3.1, ?_⟩
        unfold Et; rw[if_neg h2]; exact h3.2
      · exact⟨hv, by unfold Et; rw[if_pos Qa]⟩
    · unfold Et
      rw[if_neg]
      · refine h.none j fun hm=>hj ?_
        obtain⟨x,hx,rfl⟩:=List.mem_map.1 hm
        by_cases hxk:x.1=k
        · exact List.mem_map.2 ⟨(k,v),(Us k v Z _).2 (.inr Qa),hxk.symm⟩
        · exact List.mem_map.2 ⟨x,(Us k v Z _).2 (.inl ⟨hx,hxk⟩),Qa⟩
      · rintro rfl
        exact hj (List.mem_map.2 ⟨(j,v),(Us j v Z _).2 (.inr Qa),Qa⟩)
abbrev Bytes:=List UInt8
structure DS where
  F:Int→Bytes×Bytes
  Q:List (Int×Int)
  lost:Int
  down:Bool
  armed:Int
  keep:List Int
def J8 (s:Bytes) (at_:Nat) (t:Bytes):Bytes:= if t=[]then s else(s++List.replicate (at_ -s.length) 0).take at_++t++s.drop (at_+t.length)
def Wf (D:DS) (f:Int):Int:= if D.down then 9 else if f<0∨16≤f then 1 else 0
def Yf (D:DS):Bool:= !D.down&&decide (D.armed=1)
def Zx (D:DS):DS:= if D.down=true∨D.armed=0 then D else{D with armed:=D.armed -1}
def JX (F:Int→Bytes×Bytes) (f:Int) (x:Bytes×Bytes):Int→Bytes×Bytes:= fun k=> if k=f then x else F k
def J0 (f:Int):Nat→Int→List (Int×Int)→List (Int×Int)
  | 0,_,Q=>Q
  | k+1,n,Q=>J0 f k (n+1) (if(f,n)∈Q then Q else Q++[(f,n)])
def Y9 (D:DS) (f at_:Int) (s:Bytes):DS:=
  if s=[]then D else{D with F:=JX D.F f (J8 (D.F f).1 at_.toNat s,(D.F f).2),Q:=J0 f ((at_+s.length -1)/ 64 -at_/ 64+1).toNat (at_/ 64) D.Q}
def WW (D:DS) (f at_:Int) (s:Bytes):Int:= if Wf D f≠0 then Wf D f else if at_<0 then 1 else if 16777216<at_∨16777216 -at_<s.length then 6 else 0
def Ji (D:DS) (f at_:Int) (s:Bytes):DS:= if WW D f at_ s=0 then Y9 D f at_ s else D
def Uc (F:Int→Bytes×Bytes) (p:Int×Int):Int→Bytes×Bytes:=
  if(F p.1).1.length≤64*p.2 then F else JX F p.1 ((F p.1).1,J8 (F p.1).2 (64*p.2).toNat (((F p.1).1.drop (64*p.2).toNat).take 64))
def Wo (keep:List Int):Nat→List (Int×Int)→(Int→Bytes×Bytes)→(Int→Bytes×Bytes)
  | _,[],F=>F
  | i,p::Q,F=>Wo keep (i+1) Q (if keep≠[]∧(keep.getD (i%keep.length) 0)%2=1 then Uc F p else F)
def ZY (D:DS) (keep:List Int):DS:=
  if D.down then D else{D with down:=true,armed:=0,F:= fun k=>let x:=Wo keep 0 D.Q D.F k;(x.2,x.2),Q:=[]}
def Wz (D:DS) (f:Int) (s:Bytes):DS:={D with F:=JX D.F f (s,s),Q:=D.Q.filter fun p=>p.1≠f}
def Jn (D:DS):DS:= if Yf D then ZY (Zx D) D.keep else Zx D
def WJ (D:DS) (f at_:Int) (s:Bytes):Int:= if Yf D then 9 else WW (Zx D) f at_ s
def XU (D:DS) (f at_:Int) (s:Bytes):DS:=let D1:=Ji (Zx D) f at_ s; if Yf D then ZY D1 D.keep else D1
def Wa (D:DS) (f:Int):Int:= if Wf (Jn D) f≠0 then Wf (Jn D) f else if 0<(Jn D).lost then 10 else 0
def Zq (D:DS) (f:Int):DS:= if Wf (Jn D) f≠0 then Jn D else if 0<(Jn D).lost then{Jn D with lost:=(Jn D).lost -1}else Wz (Jn D) f ((Jn D).F f).1
def Wk (D:DS) (f at_ size:Int):Int:= if Wf D f≠0 then Wf D f else if at_<0∨size<0 then 1 else 0
def WC (D:DS) (f at_ size:Int):Bytes:= if Wk D f at_ size=0 then((D.F f).1.drop at_.toNat).take size.toNat else[]
structure DInv (D:DS):Prop where
  now: ∀k,(D.F k).1.length≤16777216
  last: ∀k,(D.F k).2.length≤16777216
  nodup:D.Q.Nodup
  secs: ∀p∈D.Q,(0≤p.1∧p.1<16)∧0≤p.2∧p.2≤262144
  lost:0≤D.lost∧D.lost≤9223372036854775807
  armed:0≤D.armed∧D.armed≤9223372036854775807
def V0 (x:Bytes×Bytes):Value:= .agg #[strV x.1,strV x.2]
def ZF (Q:List (Int×Int)):List Value:=Q.flatMap fun p=>[intV p.1,intV p.2]
structure DL where
  bf:Nat
  bs:Nat
  qv:Value
def Y0 (L:DL) (kp:Value) (D:DS):List Value:=[.map (some L.bf),L.qv,.map (some L.bs),intV D.lost,.bool D.down,intV D.armed,kp]
def Hw (g:Int→Option Value) (F:Int→Bytes×Bytes):Prop:= ∀k,(g k).getD (V0 ([],[]))=V0 (F k)
def JM (b:Nat) (F:Int→Bytes×Bytes):Th:=S8 fun g:Int→Option Value=>starL [Y4 (Hw g F),XI Za b g]
def Hs (b:Nat) (Q:List (Int×Int)):Th:=S8 fun g:Int×Int→Option Value=>starL [Y4 (∀p,g p= if p∈Q then some (.bool true)else none),XI Wq b g]
def RdI (v:Value) (l:List Int) (w:World):Prop:= ∃ao cap,v= .slice ao l.length cap∧l.length≤9223372036854775807∧ ∀i x,l[i]? =some x→ ∃b off,ao=some ⟨b,off,none⟩∧w.cell? ⟨b,off+i,none⟩=some (intV x)
def Z7 (p:Nat) (kp:Value) (D:DS):Th:=S8 fun L:DL=>starL [Y4 (DInv D),QR p (Y0 L kp D),JM L.bf D.F,XT L.qv D.Q.length 2 (ZF D.Q),Hs L.bs D.Q]
theorem Jm {w:World} {p:Nat} {kp:Value} {D:DS} {As:List Th} (h:Sat w (Z7 p kp D::As)): ∃L:DL,DInv D∧Sat w (QR p (Y0 L kp D)::JM L.bf D.F::XT L.qv D.Q.length 2 (ZF D.Q)::Hs L.bs D.Q::As):= by
  obtain⟨L,h⟩:=h.ex
  exact⟨L,h.flat.pure_elim⟩
theorem W8 {w:World} {p:Nat} {kp:Value} {D:DS} {As:List Th} (L:DL) (hi:DInv D) (h:Sat w (QR p (Y0 L kp D)::JM L.bf D.F::XT L.qv D.Q.length 2 (ZF D.Q)::Hs L.bs D.Q::As)):Sat w (Z7 p kp D::As):=
  Sat.ex_intro L (Sat.fold (As:=[Y4 (DInv D),QR p (Y0 L kp D),JM L.bf D.F,XT L.qv D.Q.length 2 (ZF D.Q),Hs L.bs D.Q]) (Sat.pure_intro hi h))
theorem Yd {w:World} {b:Nat} {F:Int→Bytes×Bytes} {As:List Th} (h:Sat w (JM b F::As)): ∃g,Hw g F∧Sat w (XI Za b g::As):= by
  obtain⟨L,h⟩:=h.ex
  exact⟨L,h.flat.pure_elim⟩
theorem Jg {w:World} {b:Nat} {F:Int→Bytes×Bytes} {As:List Th} (g:Int→Option Value) (hg:Hw g F) (h:Sat w (XI Za b g::As)):Sat w (JM b F::As):=
  Sat.ex_intro g (Sat.fold (As:=[Y4 (Hw g F),XI Za b g]) (Sat.pure_intro hg h))
theorem GY {w:World} {b:Nat} {Q:List (Int×Int)} {As:List Th} (h:Sat w (Hs b Q::As)): ∃g:Int×Int→Option Value,(∀p,g p= if p∈Q then some (.bool true)else none)∧Sat w (XI Wq b g::As):= by
  obtain⟨L,h⟩:=h.ex
  exact⟨L,h.flat.pure_elim⟩
theorem YR {w:World} {b:Nat} {Q:List (Int×Int)} {As:List Th} (g:Int×Int→Option Value) (hg: ∀p,g p= if p∈Q then some (.bool true)else none) (h:Sat w (XI Wq b g::As)):Sat w (Hs b Q::As):=
  Sat.ex_intro g (Sat.fold (As:=[Y4 (∀p,g p= if p∈Q then some (.bool true)else none),XI Wq b g]) (Sat.pure_intro hg h))
theorem Tq (a b:Bytes):Zf (a++b)=Zf a++Zf b:= by simp [Zf]
theorem Sx (a:Bytes) (k:Nat):(Zf a).take k=Zf (a.take k):= by simp [Zf]
theorem Sy (a:Bytes) (k:Nat):(Zf a).drop k=Zf (a.drop k):= by simp [Zf]
theorem R5 (X t:Bytes) (a:Nat):XK (Zf X) a (Zf t)=Zf (X.take a++t++X.drop (a+t.length)):= by
  simp [XK,Tq,Sx,Sy,Vc]
theorem S9 (m:Nat):(List.replicate m (Value.int .u8 0).cells.toList).flatten=Zf (List.replicate m 0):= by
  have :(Value.int .u8 0).cells.toList=[.int .u8 0]:=rfl
  rw[this,flat1]; simp [Zf]
def BS (s:Bytes) (m:Nat):Bytes:=s++List.replicate (m -s.length) 0
theorem put1 (s:Bytes) (m:Nat) (h:s.length≤m):XK (Zf (List.replicate m 0)) 0 (Zf (s.take m))=Zf (BS s m):= by
  rw[R5,List.take_of_length_le h]
  simp [BS]
theorem put2 (s t:Bytes) (a:Nat) (ht:t≠[]):(BS s (max s.length (a+t.length))).take a++t++(BS s (max s.length (a+t.length))).drop (a+t.length)=J8 s a t:= by
  unfold J8 BS
  rw[if_neg ht]
  congr 1
  · congr 1
    apply List.ext_getElem?
    intro i
    simp only[List.getElem?_take]
    by_cases hi:i<a
    · simp only[hi,if_true]
      by_cases h2:i<s.length
      · rw[List.getElem?_append_left h2,List.getElem?_append_left h2]
      · rw[List.getElem?_append_right (by omega),List.getElem?_append_right (by omega),List.getElem?_replicate,List.getElem?_replicate,if_pos (by omega),if_pos (by omega)]
    · simp [hi]
  · by_cases h:s.length≤a+t.length
    · rw[List.drop_eq_nil_of_le h,List.drop_eq_nil_of_le (by simp;omega)]
    · rw[show max s.length (a+t.length) -s.length=0 by omega]; simp
theorem Kq (s t:Bytes) (a:Nat) (ht:t≠[]):(J8 s a t).length=max s.length (a+t.length):= by
  rw[←put2 s t a ht]; simp [BS];omega
theorem Kp (s:Bytes) (a:Nat):J8 s a []=s:= by simp [J8]
theorem Lk {s t:Bytes} {a m:Nat} (h1:s.length≤m) (h2:a+t.length≤m):(J8 s a t).length≤m:= by
  by_cases ht:t=[]
  · subst ht; rw[Kp]; exact h1
  · rw[Kq s t a ht];omega
theorem QK:W9 prog 3=some false:= by kernel_rfl
theorem JT:W9 prog 4=some false:= by kernel_rfl
theorem Zw:W9 prog 9=some false:= by kernel_rfl
theorem S6:W9 prog 33=some false:= by kernel_rfl
theorem U4:W9 prog 116=some false:= by kernel_rfl
theorem B6:W9 prog 117=some false:= by kernel_rfl
theorem KF:W9 prog 118=some false:= by kernel_rfl
theorem ag_120:W9 prog 120=some true:= by kernel_rfl
theorem qaz:W9 prog 123=some true:= by kernel_rfl
theorem H7:W9 prog 126=some true:= by kernel_rfl
theorem asz_120:Hq prog 120=true:= by kernel_rfl
theorem Ef:Hq prog 123=true:= by kernel_rfl
theorem asz_126:Hq prog 126=true:= by kernel_rfl
theorem IX:QZ prog 83=true:= by kernel_rfl
theorem cal_85:QZ prog 85=true:= by kernel_rfl
theorem cal_86:QZ prog 86=true:= by kernel_rfl
theorem cal_87:QZ prog 87=true:= by kernel_rfl
theorem IW:QZ prog 92=true:= by kernel_rfl
theorem FJ:QZ prog 93=true:= by kernel_rfl
theorem cal_94:QZ prog 94=true:= by kernel_rfl
theorem LT:QZ prog 110=true:= by kernel_rfl
theorem cal_113:QZ prog 113=true:= by kernel_rfl
theorem LS:QZ prog 114=true:= by kernel_rfl
theorem cal_115:QZ prog 115=true:= by kernel_rfl
theorem cal_116:QZ prog 116=true:= by kernel_rfl
theorem cal_129:QZ prog 129=true:= by kernel_rfl
theorem cal_130:QZ prog 130=true:= by kernel_rfl
theorem K7:Ho prog 33=some 1:= by kernel_rfl
theorem Ng:Ho prog 117=some 2:= by kernel_rfl
theorem Yc:Xl prog 120 0=some 0:= by kernel_rfl
theorem HK:Xl prog 120 1=some 1:= by kernel_rfl
theorem Vz:Xl prog 120 2=some 2:= by kernel_rfl
theorem M9:Xl prog 120 3=some 3:= by kernel_rfl
theorem K2:Xl prog 120 4=some 4:= by kernel_rfl
theorem K1:Xl prog 120 5=some 5:= by kernel_rfl
theorem PW:Xl prog 120 6=some 6:= by kernel_rfl
theorem Kz:Xl prog 123 0=some 0:= by kernel_rfl
theorem G0:Xl prog 123 1=some 1:= by kernel_rfl
theorem Gz:Xl prog 126 0=some 0:= by kernel_rfl
theorem I8:Xl prog 126 1=some 1:= by kernel_rfl
theorem PR:RM prog 123 0=some (0,none):= by kernel_rfl
theorem ifo_3:(prog.info? 3).map (fun i=>(i.zero,i.size,i.bytes))=some (some (.int .i64 0),1,8):= by kernel_rfl
theorem L8:(prog.info? 5).map (fun i=>(i.zero,i.size,i.bytes))=some (some (.int .u8 0),1,1):= by kernel_rfl
theorem L9:(prog.info? 126).map (fun i=>(i.zero,i.size,i.bytes))=some (some (.agg #[(.int .i64 0),(.int .i64 0)]),2,16):= by kernel_rfl
theorem ifz_3:(prog.info? 3).map (fun i=>(i.zero,i.size))=some (some (.int .i64 0),1):= by kernel_rfl
theorem L7:(prog.info? 126).map (fun i=>(i.zero,i.size))=some (some (.agg #[(.int .i64 0),(.int .i64 0)]),2):= by kernel_rfl
theorem Jk:prog.follows .mixedOrders=true:= by kernel_rfl
theorem Lu:Vv prog 116=true:= by kernel_rfl
theorem Lt:Vv prog 118=true:= by kernel_rfl
theorem Fc:Zp prog 120 [0,2]=some [(0,1),(2,1)]:= by kernel_rfl
theorem Mh:Zp prog 123 [0,1]=some [(0,1),(1,1)]:= by kernel_rfl
theorem Fb:Zp prog 126 [0,1]=some [(0,1),(1,1)]:= by kernel_rfl
theorem YH:Wv prog 3=some 1:= by kernel_rfl
theorem Jy:Wv prog 4=some 1:= by kernel_rfl
theorem sz_5:Wv prog 5=some 1:= by kernel_rfl
theorem R8:Wv prog 9=some 1:= by kernel_rfl
theorem sz_33:Wv prog 33=some 1:= by kernel_rfl
theorem sz_116:Wv prog 116=some 1:= by kernel_rfl
theorem Cw:Wv prog 117=some 1:= by kernel_rfl
theorem Ol:Wv prog 118=some 1:= by kernel_rfl
theorem Ok:Wv prog 120=some 7:= by kernel_rfl
theorem DU:Wv prog 123=some 2:= by kernel_rfl
theorem Js:Wv prog 126=some 2:= by kernel_rfl
theorem zr_4:Z9 prog 4=some (some (.bool false)):= by kernel_rfl
theorem AU:Z9 prog 120=some (some (.agg #[(.map none),(.slice none 0 0),(.map none),(.int .i64 0),(.bool false),(.int .i64 0),(.slice none 0 0)])):= by kernel_rfl
theorem US:Z9 prog 123=some (some (.agg #[(.string ⟨#[]⟩),(.string ⟨#[]⟩)])):= by kernel_rfl
theorem GO:Z9 prog 126=some (some (.agg #[(.int .i64 0),(.int .i64 0)])):= by kernel_rfl
theorem GK:W9 prog 76=some false:= by kernel_rfl
theorem Ee:Hq prog 129=true:= by kernel_rfl
theorem FM:QZ prog 57=true:= by kernel_rfl
theorem Bw:QZ prog 88=true:= by kernel_rfl
theorem LR:QZ prog 117=true:= by kernel_rfl
theorem cal_118:QZ prog 118=true:= by kernel_rfl
theorem Ky:Xl prog 129 0=some 0:= by kernel_rfl
theorem Kx:Xl prog 129 1=some 1:= by kernel_rfl
theorem JD:Xl prog 129 2=some 2:= by kernel_rfl
theorem Y8:Xl prog 129 3=some 3:= by kernel_rfl
theorem Gy:Xl prog 129 4=some 4:= by kernel_rfl
theorem ifz_5:(prog.info? 5).map (fun i=>(i.zero,i.size))=some (some (.int .u8 0),1):= by kernel_rfl
theorem Mg:Zp prog 129 [0,1]=some [(0,1),(1,1)]:= by kernel_rfl
theorem AT:Z9 prog 129=some (some (.agg #[(.pointer none),(.int .i64 0),(.int .i64 0),(.string ⟨#[]⟩),(.bool false)])):= by kernel_rfl
theorem AP:W9 prog 5=some false:= by kernel_rfl
theorem WV:W9 prog 22=some false:= by kernel_rfl
theorem JF:W9 prog 24=some true:= by kernel_rfl
theorem S5:W9 prog 35=some true:= by kernel_rfl
theorem Yv:W9 prog 37=some false:= by kernel_rfl
theorem Hr:W9 prog 38=some false:= by kernel_rfl
theorem XR:W9 prog 39=some false:= by kernel_rfl
theorem GL:W9 prog 65=some true:= by kernel_rfl
theorem El:W9 prog 77=some false:= by kernel_rfl
theorem Z8:W9 prog 78=some false:= by kernel_rfl
theorem UO:W9 prog 79=some false:= by kernel_rfl
theorem VX:W9 prog 86=some false:= by kernel_rfl
theorem ZZ:W9 prog 89=some false:= by kernel_rfl
theorem qay:W9 prog 94=some true:= by kernel_rfl
theorem MT:W9 prog 98=some false:= by kernel_rfl
theorem S4:W9 prog 99=some false:= by kernel_rfl
theorem qa0:W9 prog 107=some true:= by kernel_rfl
theorem N7:W9 prog 113=some true:= by kernel_rfl
theorem FR:W9 prog 147=some false:= by kernel_rfl
theorem MQ:Hq prog 24=true:= by kernel_rfl
theorem asz_41:Hq prog 41=true:= by kernel_rfl
theorem N3:Hq prog 65=true:= by kernel_rfl
theorem qar:Hq prog 81=true:= by kernel_rfl
theorem asz_88:Hq prog 88=true:= by kernel_rfl
theorem N2:Hq prog 91=true:= by kernel_rfl
theorem U3:Hq prog 94=true:= by kernel_rfl
theorem Eg:Hq prog 101=true:= by kernel_rfl
theorem N4:Hq prog 107=true:= by kernel_rfl
theorem GI:Hq prog 113=true:= by kernel_rfl
theorem asz_142:Hq prog 142=true:= by kernel_rfl
theorem cal_7:QZ prog 7=true:= by kernel_rfl
theorem cal_8:QZ prog 8=true:= by kernel_rfl
theorem cal_9:QZ prog 9=true:= by kernel_rfl
theorem cal_10:QZ prog 10=true:= by kernel_rfl
theorem qao:QZ prog 11=true:= by kernel_rfl
theorem qan:QZ prog 12=true:= by kernel_rfl
theorem qam:QZ prog 13=true:= by kernel_rfl
theorem HZ:QZ prog 14=true:= by kernel_rfl
theorem Vb:QZ prog 15=true:= by kernel_rfl
theorem Bx:QZ prog 18=true:= by kernel_rfl
theorem FN:QZ prog 22=true:= by kernel_rfl
theorem qal:QZ prog 23=true:= by kernel_rfl
theorem qak:QZ prog 24=true:= by kernel_rfl
theorem qaj:QZ prog 25=true:= by kernel_rfl
theorem cal_26:QZ prog 26=true:= by kernel_rfl
theorem VQ:QZ prog 27=true:= by kernel_rfl
theorem qai:QZ prog 28=true:= by kernel_rfl
theorem qah:QZ prog 30=true:= by kernel_rfl
theorem qag:QZ prog 31=true:= by kernel_rfl
theorem qaf:QZ prog 32=true:= by kernel_rfl
theorem qae:QZ prog 33=true:= by kernel_rfl
theorem Nw:QZ prog 34=true:= by kernel_rfl
theorem KD:QZ prog 35=true:= by kernel_rfl
theorem Nv:QZ prog 36=true:= by kernel_rfl
theorem HY:QZ prog 37=true:= by kernel_rfl
theorem cal_38:QZ prog 38=true:= by kernel_rfl
theorem cal_39:QZ prog 39=true:= by kernel_rfl
theorem H6:QZ prog 41=true:= by kernel_rfl
theorem Va:QZ prog 43=true:= by kernel_rfl
theorem Nu:QZ prog 44=true:= by kernel_rfl
theorem qad:QZ prog 45=true:= by kernel_rfl
theorem qac:QZ prog 46=true:= by kernel_rfl
theorem cal_49:QZ prog 49=true:= by kernel_rfl
theorem cal_50:QZ prog 50=true:= by kernel_rfl
theorem cal_51:QZ prog 51=true:= by kernel_rfl
theorem qab:QZ prog 52=true:= by kernel_rfl
theorem cal_53:QZ prog 53=true:= by kernel_rfl
theorem cal_54:QZ prog 54=true:= by kernel_rfl
theorem qaa:QZ prog 58=true:= by kernel_rfl
theorem KC:QZ prog 59=true:= by kernel_rfl
theorem cal_60:QZ prog 60=true:= by kernel_rfl
theorem Nt:QZ prog 61=true:= by kernel_rfl
theorem cal_62:QZ prog 62=true:= by kernel_rfl
theorem cal_63:QZ prog 63=true:= by kernel_rfl
theorem WY:QZ prog 64=true:= by kernel_rfl
theorem Ns:QZ prog 65=true:= by kernel_rfl
theorem Nr:QZ prog 66=true:= by kernel_rfl
theorem FL:QZ prog 67=true:= by kernel_rfl
theorem KB:QZ prog 68=true:= by kernel_rfl
theorem IZ:QZ prog 69=true:= by kernel_rfl
theorem cal_70:QZ prog 70=true:= by kernel_rfl
theorem cal_71:QZ prog 71=true:= by kernel_rfl
theorem IY:QZ prog 72=true:= by kernel_rfl
theorem cal_73:QZ prog 73=true:= by kernel_rfl
theorem cal_74:QZ prog 74=true:= by kernel_rfl
theorem cal_75:QZ prog 75=true:= by kernel_rfl
theorem cal_76:QZ prog 76=true:= by kernel_rfl
theorem cal_77:QZ prog 77=true:= by kernel_rfl
theorem cal_78:QZ prog 78=true:= by kernel_rfl
theorem FK:QZ prog 79=true:= by kernel_rfl
theorem HX:QZ prog 80=true:= by kernel_rfl
theorem cal_81:QZ prog 81=true:= by kernel_rfl
theorem cal_82:QZ prog 82=true:= by kernel_rfl
theorem cal_84:QZ prog 84=true:= by kernel_rfl
theorem cal_89:QZ prog 89=true:= by kernel_rfl
theorem U1:QZ prog 90=true:= by kernel_rfl
theorem cal_95:QZ prog 95=true:= by kernel_rfl
theorem cal_96:QZ prog 96=true:= by kernel_rfl
theorem cal_97:QZ prog 97=true:= by kernel_rfl
theorem cal_98:QZ prog 98=true:= by kernel_rfl
theorem IV:QZ prog 99=true:= by kernel_rfl
theorem N1:QZ prog 100=true:= by kernel_rfl
theorem Rl:QZ prog 101=true:= by kernel_rfl
theorem cal_102:QZ prog 102=true:= by kernel_rfl
theorem N0:QZ prog 103=true:= by kernel_rfl
theorem LW:QZ prog 104=true:= by kernel_rfl
theorem Nz:QZ prog 105=true:= by kernel_rfl
theorem LV:QZ prog 106=true:= by kernel_rfl
theorem Ny:QZ prog 107=true:= by kernel_rfl
theorem LU:QZ prog 108=true:= by kernel_rfl
theorem cal_109:QZ prog 109=true:= by kernel_rfl
theorem Nx:QZ prog 112=true:= by kernel_rfl
theorem cal_119:QZ prog 119=true:= by kernel_rfl
theorem cal_120:QZ prog 120=true:= by kernel_rfl
theorem cal_121:QZ prog 121=true:= by kernel_rfl
theorem cal_122:QZ prog 122=true:= by kernel_rfl
theorem cal_123:QZ prog 123=true:= by kernel_rfl
theorem cal_124:QZ prog 124=true:= by kernel_rfl
theorem cal_125:QZ prog 125=true:= by kernel_rfl
theorem cal_126:QZ prog 126=true:= by kernel_rfl
theorem cal_127:QZ prog 127=true:= by kernel_rfl
theorem cal_131:QZ prog 131=true:= by kernel_rfl
theorem cal_137:QZ prog 137=true:= by kernel_rfl
theorem cal_157:QZ prog 157=true:= by kernel_rfl
theorem K8:Ho prog 22=some 2:= by kernel_rfl
theorem LM:Ho prog 25=some 6:= by kernel_rfl
theorem Hn:Ho prog 38=some 1:= by kernel_rfl
theorem Sj:Ho prog 66=some 1:= by kernel_rfl
theorem es_86:Ho prog 86=some 2:= by kernel_rfl
theorem es_98:Ho prog 98=some 1:= by kernel_rfl
theorem Hm:Xl prog 24 0=some 0:= by kernel_rfl
theorem Zt:Xl prog 24 1=some 1:= by kernel_rfl
theorem Rg:Xl prog 35 0=some 0:= by kernel_rfl
theorem Na:Xl prog 35 1=some 1:= by kernel_rfl
theorem YF:Xl prog 35 2=some 2:= by kernel_rfl
theorem Rf:Xl prog 35 3=some 3:= by kernel_rfl
theorem Dv:Xl prog 35 4=some 4:= by kernel_rfl
theorem fo_35_5:Xl prog 35 5=some 5:= by kernel_rfl
theorem WI:Xl prog 41 0=some 0:= by kernel_rfl
theorem ZD:Xl prog 41 1=some 1:= by kernel_rfl
theorem YE:Xl prog 65 0=some 0:= by kernel_rfl
theorem VG:Xl prog 65 1=some 1:= by kernel_rfl
theorem CZ:Xl prog 81 0=some 0:= by kernel_rfl
theorem CY:Xl prog 81 1=some 1:= by kernel_rfl
theorem Z0:Xl prog 81 2=some 2:= by kernel_rfl
theorem WH:Xl prog 81 3=some 3:= by kernel_rfl
theorem Xm:Xl prog 81 4=some 4:= by kernel_rfl
theorem Zo:Xl prog 81 5=some 5:= by kernel_rfl
theorem Jf:Xl prog 81 6=some 6:= by kernel_rfl
theorem Re:Xl prog 81 7=some 7:= by kernel_rfl
theorem Ug:Xl prog 81 8=some 8:= by kernel_rfl
theorem WG:Xl prog 81 9=some 9:= by kernel_rfl
theorem Je:Xl prog 88 0=some 0:= by kernel_rfl
theorem Du:Xl prog 88 1=some 1:= by kernel_rfl
theorem Gw:Xl prog 91 0=some 0:= by kernel_rfl
theorem UK:Xl prog 91 1=some 1:= by kernel_rfl
theorem ZH:Xl prog 91 2=some 2:= by kernel_rfl
theorem Rd:Xl prog 94 0=some 0:= by kernel_rfl
theorem UJ:Xl prog 94 1=some 1:= by kernel_rfl
theorem Gv:Xl prog 94 2=some 2:= by kernel_rfl
theorem CX:Xl prog 94 3=some 3:= by kernel_rfl
theorem G4:Xl prog 101 0=some 0:= by kernel_rfl
theorem K3:Xl prog 101 1=some 1:= by kernel_rfl
theorem G3:Xl prog 101 2=some 2:= by kernel_rfl
theorem HN:Xl prog 101 3=some 3:= by kernel_rfl
theorem PX:Xl prog 101 4=some 4:= by kernel_rfl
theorem JE:Xl prog 107 0=some 0:= by kernel_rfl
theorem ZE:Xl prog 107 1=some 1:= by kernel_rfl
theorem Ws:Xl prog 107 2=some 2:= by kernel_rfl
theorem Jw:Xl prog 107 3=some 3:= by kernel_rfl
theorem HM:Xl prog 107 4=some 4:= by kernel_rfl
theorem XP:Xl prog 113 0=some 0:= by kernel_rfl
theorem HL:Xl prog 113 1=some 1:= by kernel_rfl
theorem Yb:Xl prog 142 0=some 0:= by kernel_rfl
theorem PV:Xl prog 142 1=some 1:= by kernel_rfl
theorem Gx:Xl prog 149 0=some 0:= by kernel_rfl
theorem Vy:Xl prog 149 1=some 1:= by kernel_rfl
theorem fv_94_0:RM prog 94 0=some (0,none):= by kernel_rfl
theorem CV:RM prog 94 1=some (1,none):= by kernel_rfl
theorem fv_94_3:RM prog 94 3=some (3,none):= by kernel_rfl
theorem UH:(prog.info? 9).map (fun i=>(i.zero,i.size,i.bytes))=some (some (.string ⟨#[]⟩),1,16):= by kernel_rfl
theorem M1:(prog.info? 65).map (fun i=>(i.zero,i.size,i.bytes))=some (some (.agg #[(.int .i64 0),(.string ⟨#[]⟩)]),2,24):= by kernel_rfl
theorem Gq:(prog.info? 113).map (fun i=>(i.zero,i.size,i.bytes))=some (some (.agg #[(.int .i64 0),(.string ⟨#[]⟩)]),2,24):= by kernel_rfl
theorem JZ:(prog.info? 9).map (fun i=>(i.zero,i.size))=some (some (.string ⟨#[]⟩),1):= by kernel_rfl
theorem ifz_37:(prog.info? 37).map (fun i=>(i.zero,i.size))=some (some (.pointer none),1):= by kernel_rfl
theorem Bo:(prog.info? 65).map (fun i=>(i.zero,i.size))=some (some (.agg #[(.int .i64 0),(.string ⟨#[]⟩)]),2):= by kernel_rfl
theorem Dt:(prog.info? 113).map (fun i=>(i.zero,i.size))=some (some (.agg #[(.int .i64 0),(.string ⟨#[]⟩)]),2):= by kernel_rfl
theorem OH:Zp prog 24 []=some []:= by kernel_rfl
theorem Lm:Zp prog 24 [0]=some [(0,1)]:= by kernel_rfl
theorem EF:Zp prog 24 [0,1]=some [(0,1),(1,1)]:= by kernel_rfl
theorem EE:Zp prog 41 [0,1]=some [(0,1),(1,1)]:= by kernel_rfl
theorem KU:Zp prog 65 [0,1]=some [(0,1),(1,1)]:= by kernel_rfl
theorem Ll:Zp prog 81 [0]=some [(0,1)]:= by kernel_rfl
theorem pl_88_:Zp prog 88 []=some []:= by kernel_rfl
theorem Kr:Zp prog 91 [0,1,2]=some [(0,1),(1,1),(2,1)]:= by kernel_rfl
theorem ED:Zp prog 91 [0,2]=some [(0,1),(2,1)]:= by kernel_rfl
theorem YU:Zp prog 94 [0,1]=some [(0,1),(1,1)]:= by kernel_rfl
theorem BK:Zp prog 94 [0,1,2]=some [(0,1),(1,1),(2,1)]:= by kernel_rfl
theorem EC:Zp prog 94 [1,3]=some [(1,1),(3,1)]:= by kernel_rfl
theorem Gh:Zp prog 101 [0,1,3]=some [(0,1),(1,1),(3,1)]:= by kernel_rfl
theorem Fe:Zp prog 107 [0,1]=some [(0,1),(1,1)]:= by kernel_rfl
theorem Vt:Zp prog 107 [0,1,2,3,4]=some [(0,1),(1,1),(2,1),(3,1),(4,1)]:= by kernel_rfl
theorem pl_113_:Zp prog 113 []=some []:= by kernel_rfl
theorem VE:Zp prog 113 [0,1]=some [(0,1),(1,1)]:= by kernel_rfl
theorem OI:Zp prog 142 [0]=some [(0,1)]:= by kernel_rfl
theorem NP:Wv prog 22=some 1:= by kernel_rfl
theorem Wc:Wv prog 24=some 2:= by kernel_rfl
theorem T4:Wv prog 35=some 6:= by kernel_rfl
theorem Up:Wv prog 65=some 2:= by kernel_rfl
theorem sz_77:Wv prog 77=some 1:= by kernel_rfl
theorem DT:Wv prog 78=some 1:= by kernel_rfl
theorem NO:Wv prog 79=some 1:= by kernel_rfl
theorem sz_81:Wv prog 81=some 10:= by kernel_rfl
theorem NN:Wv prog 86=some 1:= by kernel_rfl
theorem Vl:Wv prog 94=some 4:= by kernel_rfl
theorem sz_98:Wv prog 98=some 1:= by kernel_rfl
theorem SO:Wv prog 107=some 5:= by kernel_rfl
theorem WO:Wv prog 113=some 2:= by kernel_rfl
theorem sz_147:Wv prog 147=some 1:= by kernel_rfl
theorem zr_3:Z9 prog 3=some (some (.int .i64 0)):= by kernel_rfl
theorem zr_9:Z9 prog 9=some (some (.string ⟨#[]⟩)):= by kernel_rfl
theorem Kb:Z9 prog 24=some (some (.agg #[(.string ⟨#[]⟩),(.slice none 0 0)])):= by kernel_rfl
theorem zr_35:Z9 prog 35=some (some (.agg #[(.int .i64 0),(.int .i64 0),(.int .i64 0),(.int .u8 0),(.string ⟨#[]⟩),(.slice none 0 0)])):= by kernel_rfl
theorem zr_41:Z9 prog 41=some (some (.agg #[(.slice none 0 0),(.pointer none)])):= by kernel_rfl
theorem Rv:Z9 prog 65=some (some (.agg #[(.int .i64 0),(.string ⟨#[]⟩)])):= by kernel_rfl
theorem zr_81:Z9 prog 81=some (some (.agg #[(.pointer none),(.pointer none),(.int .i64 0),(.int .i64 0),(.pointer none),(.bool false),(.bool false),(.int .i64 0),(.bool false),(.pointer none)])):= by kernel_rfl
theorem zr_88:Z9 prog 88=some (some (.agg #[(.slice none 0 0),(.bool false)])):= by kernel_rfl
theorem FY:Z9 prog 91=some (some (.agg #[(.string ⟨#[]⟩),(.int .i64 0),(.map none)])):= by kernel_rfl
theorem Wg:Z9 prog 94=some (some (.agg #[(.string ⟨#[]⟩),(.int .i64 0),(.int .i64 0),(.bool false)])):= by kernel_rfl
theorem AV:Z9 prog 101=some (some (.agg #[(.int .i64 0),(.map none),(.int .i64 0),(.map none),(.string ⟨#[]⟩)])):= by kernel_rfl
theorem Ck:Z9 prog 107=some (some (.agg #[(.int .i64 0),(.int .i64 0),(.int .i64 0),(.int .i64 0),(.string ⟨#[]⟩)])):= by kernel_rfl
theorem zr_108:Z9 prog 108=some (some .nilFunc):= by kernel_rfl
theorem Jq:Z9 prog 113=some (some (.agg #[(.int .i64 0),(.string ⟨#[]⟩)])):= by kernel_rfl
theorem zr_142:Z9 prog 142=some (some (.agg #[(.string ⟨#[]⟩),(.bool false)])):= by kernel_rfl
theorem AS:Z9 prog 149=some (some (.agg #[(.pointer none),(.slice none 0 0)])):= by kernel_rfl
def inC:RowC Int:=⟨fun x=>[intV x],1, by decide, fun _=>rfl, fun _=>rfl⟩
def RK:List (Int×Bytes×Bytes)→Int→Bytes×Bytes
  | [],_=>([],[])
  | x::l,f=> if x.1=f then x.2 else RK l f
structure RInv (l:List (Int×Bytes×Bytes)) (D:DS):Prop where
  inv:DInv D
  says: ∀k,RK l k=D.F k
  num: ∀x∈l,0≤x.1∧x.1<16
  nodup:(l.map (·.1)).Nodup
structure RL where
  fv:Value
  qv:Value
  l:List (Int×Bytes×Bytes)
theorem I4 {l m:List (Int×Bytes×Bytes)} {f:Int} (h: ∀x∈l,x.1≠f):RK (l++m) f=RK m f:= by
  induction l with
  | nil=>rfl
  | cons x l ih=> rw[List.cons_append,RK,if_neg (h x (by simp)),ih fun y hy=>h y (by simp [hy])]
theorem PQ {l:List (Int×Bytes×Bytes)} {f k:Int} (h:k≠f) (m:List (Int×Bytes×Bytes)) (hm:RK m k=([],[])):RK (l.filter (fun x=>decide (x.1≠f))++m) k=RK l k:= by
  induction l with
  | nil=> exact hm
  | cons x l ih=>
    by_cases e:x.1=f
    · rw[List.filter_cons_of_neg (by simp [e]),ih,RK,if_neg (by omega)]
    · rw[List.filter_cons_of_pos (by simp [e]),List.cons_append,RK,RK,ih]
def putR (l:List (Int×Bytes×Bytes)) (x:Int×Bytes×Bytes):List (Int×Bytes×Bytes):=l.filter (fun y=>decide (y.1≠x.1))++[x]
theorem E9 {l:List (Int×Bytes×Bytes)} {F:Int→Bytes×Bytes} (h: ∀k,RK l k=F k) (x:Int×Bytes×Bytes) (k:Int):RK (putR l x) k=JX F x.1 x.2 k:= by
  unfold putR JX
  by_cases e:k=x.1
  · subst e
    rw[I4 (fun y hy=> by simpa using(List.mem_filter.1 hy).2),if_pos Qa]
    simp [RK]
  · rw[PQ e [x] (by rw[RK,if_neg (Ne.symm e)];rfl),if_neg e]; exact h k
theorem RInv.put {l:List (Int×Bytes×Bytes)} {D:DS} (h:RInv l D) (k:Int) (a b:Bytes) (hk:0≤k∧k<16) (ha:a.length≤16777216) (hb:b.length≤16777216):RInv (putR l (k,a,b)) {D with F:=JX D.F k (a,b)}:= by
  refine⟨{h.inv with now:= fun j=> ?_,last:= fun j=> ?_},E9 h.says (k,a,b), fun x hx=> ?_, ?_⟩
  · simp only[JX];split
    · exact ha
    · exact h.inv.now j
  · simp only[JX];split
    · exact hb
    · exact h.inv.last j
  · rcases List.mem_append.1 hx with q | q
    · exact h.num x (List.mem_filter.1 q).1
    · simp at q; subst q; exact hk
  · unfold putR
    rw[List.map_append]
    refine List.nodup_append.2 ⟨(h.nodup.sublist (List.filter_sublist.map _)), by simp, ?_⟩
    intro x hx y hy e
    obtain⟨z,hz,rfl⟩:=List.mem_map.1 hx
    simp at hy
    have :=(List.mem_filter.1 hz).2
    simp at this
    exact this (e.trans hy)
theorem RInv.count {l:List (Int×Bytes×Bytes)} {D:DS} (h:RInv l D):l.length≤16:= by
  have hs: ∀x∈(l.map (·.1)).map Int.toNat,x∈List.range 16:= by
    intro x hx
    obtain⟨y,hy,rfl⟩:=List.mem_map.1 hx
    obtain⟨z,hz,rfl⟩:=List.mem_map.1 hy
    have :=h.num z hz
    simp;omega
  have hm:((l.map (·.1)).map Int.toNat).Nodup:= by
    refine List.pairwise_map.2 (h.nodup.imp_of_mem ?_)
    intro a b ha hb hne e
    obtain⟨z,hz,rfl⟩:=List.mem_map.1 ha
    obtain⟨y,hy,rfl⟩:=List.mem_map.1 hb
    have :=h.num z hz; have :=h.num y hy
    exact hne (by omega)
  have :=List.Nodup.length_le_of_subset hm hs
  simpa using this
theorem RInv.upd {l:List (Int×Bytes×Bytes)} {D D':DS} (h:RInv l D) (hF:D'.F=D.F) (hi:DInv D'):RInv l D':=⟨hi, fun k=> by rw[hF]; exact h.says k,h.num,h.nodup⟩
end Go.Proofs.YtiibgheijbbmaaaGreatDoor
namespace Go.Proofs.YtiibgheijbbmaaaGreatDoor.M
open Go.RowKit Proofs.Tryz
section
variable {P:Program} {n:Nat} {ops:Array Oper} {Q:Exit→Act→World→Prop} {rest:List Oper} {L:Env} {w:World} {d:Nat} {ty:TypeId} {pos:String} {aft:Array Edge} {As:List Th}
theorem Y1 {dst:Option Nat} {x:Operand} {f:Nat} {fs:List Value} {args:List Operand} {vs:List Value} {ts:Array TypeId} {R:Ending→World→Prop} (hx:look L x=some (.func (.func f) fs.toArray #[])) (hf:QZ P f=true) (ha:J9 L args=some vs) (hc:Calls P f (fs++vs).toArray w R) (hd:(match dst with | some d=>Nat.blt d n | none=>true)=true)
    (hk: ∀e w',R e w'→ ∃v,e= .returned v∧wl P n ops Q rest (pd dst v L) w'):wl P n ops Q (⟨dst,.call ⟨.value x,args.toArray,ts⟩,ty,pos,aft,none⟩::rest) L w:= by
  unfold wl
  intro a hfr
  refine wpList_plain Qa fun K hK=> ?_
  unfold Oper.wp
  have he:=hfr.evals ha
  have hr:(execOp a.eval ⟨dst,.call ⟨.value x,args.toArray,ts⟩,ty,pos,aft,none⟩).run P w= .ok (.enter f (fs++vs).toArray) w:= by
    simp only[execOp,resolve,hfr.eval hx,Deferred.ofValue,invoke]
    simp [he,Rk hf]
  rw[hr]
  refine Calls.mono hc fun e w' hR=> ?_
  obtain⟨v,rfl,h⟩:=hk e w' hR
  unfold wl at h
  exact hK _ _ (h _ (hfr.put dst v hd))
theorem Nd {f:Nat} {fs:List Operand} {vs:List Value} (hx:J9 L fs=some vs):Ev P L w ⟨some d,.makeFunc (.func f) fs.toArray #[],ty,pos,aft,none⟩ (.func (.func f) vs.toArray #[]):= fun ρ hρ=> by
  have :fs.map ρ=vs:= by
    induction fs generalizing vs with
    | nil=> simp [J9]at hx; subst hx;rfl
    | cons y ys ih=>
      simp only[J9]at hx
      cases h1:look L y with
      | none=> simp [h1]at hx
      | some u=>
        cases h2:J9 L ys with
        | none=> simp [h1,h2]at hx
        | some us=> simp [h1,h2]at hx; subst hx; simp [hρ _ _ h1,ih h2]
  simp [execOp,Instr.makeFunc,this]
theorem Wn {f:Nat} {fs:List Operand} {vs:List Value} (hx:J9 L fs=some vs) (hd:Nat.blt d n=true) (hk:wl P n ops Q rest ((d,.func (.func f) vs.toArray #[])::L) w):wl P n ops Q (⟨some d,.makeFunc (.func f) fs.toArray #[],ty,pos,aft,none⟩::rest) L w:=
  Xv hd (Nd hx) hk
end
theorem RJ (l:List Int):inC.cells l=l.map intV:= by
  induction l with
  | nil=>rfl
  | cons a l ih=> simp only[RowC.cells,List.flatMap_cons,List.map_cons]at ih⊢; rw[ih];rfl
def Rz (b:Nat):RowC Nat:=⟨fun o=>[ptrV b o],1, by decide, fun _=>rfl, fun _=>rfl⟩
open Go.RowKit Go.Sort
def UB (l:List Int):List Int:=l.mergeSort fun x y=>decide (x≤y)
theorem DX (l:List Int):(UB l).Perm l:=List.mergeSort_perm _ _
theorem Vn (l:List Int):(UB l).length=l.length:=(DX l).length_eq
theorem Tf (d xs:List Int) (sp:List Value) (h:d.length=xs.length):(putCells (Value.int .i64) 0 d.toArray (xs.map intV++sp).toArray)=(d.map intV++sp).toArray:= by
  apply Array.ext_getElem?
  intro k
  unfold putCells
  simp only[Array.getElem?_mapIdx,List.getElem?_toArray,Nat.zero_le,true_and,Nat.zero_add,Nat.sub_zero,List.size_toArray]
  by_cases hk:k<d.length
  · rw[List.getElem?_append_left (by simpa [←h]using hk),List.getElem?_append_left (by simpa using hk)]
    simp [hk,h▸hk,intV]
  · rw[List.getElem?_append_right (by simp;omega),List.getElem?_append_right (by simp;omega)]
    have hk': ¬k<xs.length:= by omega
    simp only[List.length_map,h,hk',if_false,Option.map_id']
theorem Sw {P:Program} {f:Nat}
    (hsome: ∀(blk off cap:Nat) (ss:List Int) (w:World),Holds (Value.int .i64) w blk off ss.toArray→blk<w.heap.size→ss.length<4611686018427387904→Calls P f #[.slice (some ⟨blk,off,none⟩) ss.length cap] w fun e w'=>e= .returned (.tuple #[])∧ ∃n os,w'=grow (putRow (Value.int .i64) (Go.Sort.ahead w n) blk off (ss.mergeSort fun x y=>decide (x≤y)).toArray) os)
    (hnone: ∀(p:Option Addr) (cap:Nat) (w:World),Calls P f #[.slice p 0 cap] w fun e w'=>e= .returned (.tuple #[])∧w'=w)
    {w:World} {v:Value} {l:List Int} {As:List Th} (hS:Sat w (rowT inC v l::As)) (hl:l.length<4611686018427387904):Calls P f #[v] w (Ret fun u w'=>u= .tuple #[]∧Sat w' (rowT inC v (UB l)::As)):= by
  obtain⟨foot,hlen,h⟩:=hS.own 0 rfl
  rcases h with⟨rfl,hn,hf⟩ | ⟨b,cap,sp,rfl,hcap,hb,hsz,hf⟩
  · have :l=[]:=List.eq_nil_of_length_eq_zero hn
    subst this
    exact(hnone none 0 w).mono fun e w' ⟨h1,h2⟩=>⟨_,h1,rfl, by rw[h2];simpa [UB]using hS⟩
  · have hH:Holds (Value.int .i64) w b 0 l.toArray:= fun j hj=> by
      have hj':j<l.length:= by simpa using hj
      rw[RJ]at hb
      refine⟨?_, ?_⟩
      · rw[Nat.zero_add]
        refine hb.cell ?_
        rw[List.getElem?_append_left (by simpa using hj')]
        simp [hj',intV]
      · exact hb.free _ (by simp;omega)
    refine(hsome b 0 cap l w hH hb.lt hl).mono fun e w' ⟨h1,n,os,h2⟩=>⟨_,h1,rfl, ?_⟩
    have hlt:=hb.lt
    have hheap: ∀k,k<w.heap.size→k≠b→w'.heap[k]? =w.heap[k]? := fun k hk hne=> by
      rw[h2,heap_grow_old _ _ (by simpa using hk)]
      simp only[putRow,mapBlock,heap_ahead,Array.getElem?_modify]
      rw[if_neg (fun q=>hne q.symm)]
    obtain⟨T,lo,hi,hc,hfz⟩:=hb
    have hnew:w'.heap[b]? =some (.cells ((UB l).map intV++sp).toArray T (lo,hi)):= by
      rw[h2,heap_grow_old _ _ (by simpa using hlt)]
      simp only[putRow,mapBlock,heap_ahead,Array.getElem?_modify,if_pos,hc,Option.map_some,onCells,RJ]
      rw[show(l.mergeSort fun x y=>decide (x≤y))=UB l from rfl,Tf _ _ _ (Vn l)]
    have ho:Only [b] w w':= by
      refine⟨?_, ?_, ?_, ?_, fun k hk hn=>hheap k hk (by simpa using hn)⟩
      · rw[h2];rfl
      · rw[h2];rfl
      · rw[h2];rfl
      · rw[h2]; simp
    have hfin:=hS.own_set (w':=w') 0 Qa (v':= .slice (some ⟨b,0,none⟩) l.length cap) (n':=l.length) (size':=1) (xs':=inC.cells (UB l)) (fun foot' g=> by
      obtain⟨_,g⟩:=g
      rcases g with⟨g0,_⟩ | ⟨b',cap',sp',g0,g1,g2,g3,g4⟩
      · cases g0
      · simp only[Value.slice.injEq,Option.some.injEq,Addr.mk.injEq,and_true,true_and]at g0
        obtain⟨rfl,rfl⟩:=g0
        refine⟨[b],⟨?_,.inr ⟨b,cap,sp,Qa,hcap,⟨T,lo,hi, ?_, ?_⟩, ?_,Qa⟩⟩, ?_, ?_⟩
        · rw[inC.cells_len,Vn];rfl
        · rw[RJ]; exact hnew
        · rcases hfz with q | q
          · exact .inl q
          · refine .inr ?_
            simp only[List.length_append,inC.cells_len,Vn]at q⊢; exact q
        · simp only[List.length_append,inC.cells_len,Vn]at hsz⊢; exact hsz
        · rw[g4]; exact ho
        · rw[g4]; intro k hk; exact .inl hk)
    have e:(UB l).length=l.length:=Vn l
    show Sat w' (XT _ (UB l).length 1 _::As)
    rw[e]; exact hfin
