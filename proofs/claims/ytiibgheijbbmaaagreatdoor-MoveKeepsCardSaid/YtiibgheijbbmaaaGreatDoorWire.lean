/- wire: numbers as text and back, in plain data; comparing interface values with nil. Conditions: each lemma's own hypotheses. -/
import Derived.Test.YtiibgheijbbmaaaGreatDoorOp4
import Derived.Lib.AtoiAll
import Derived.Lib.ItoaLen
import Derived.Lib.IndexLaws
import Derived.Sort.Walk0
namespace Go.Proofs.YtiibgheijbbmaaaGreatDoor
open Go.RowKit M Proofs.Tryz
def X5 (n:Int):Prop:= -9223372036854775808≤n∧n≤9223372036854775807
theorem RC: ∀(k u:Nat),u<10^(k+1)→Lib.nDigits u≤k+1
  | 0,u,h=> by rw[Lib.nDigits_small (by simpa using h)]; exact Nat.le_refl _
  | k+1,u,h=> by
    by_cases hu:u<10
    · rw[Lib.nDigits_small hu];omega
    · rw[Lib.nDigits_big hu]
      have :=RC k (u/ 10) (by rw[Nat.pow_succ]at h;omega)
      omega
theorem HP (u:Nat): ∀b∈Lib.decDigits u,48≤b.toNat∧b.toNat≤57:= by
  induction u using Nat.strongRecOn with
  | _ u ih=>
    rw[Lib.decDigits]
    split
    · rename_i h
      intro b hb
      simp only[List.mem_singleton]at hb
      subst hb
      have :(UInt8.ofNat (48+u)).toNat=48+u:= by simp;omega
      omega
    · rename_i h
      intro b hb
      rcases List.mem_append.1 hb with hb | hb
      · exact ih (u/ 10) (by omega) b hb
      · simp only[List.mem_singleton]at hb
        subst hb
        have :(UInt8.ofNat (48+u%10)).toNat=48+u%10:= by simp;omega
        omega
theorem GE (u:Nat):Lib.decDigits u≠[]:= by
  rw[Lib.decDigits];split<;> simp
theorem Gf: ∀(l r:Bs) (a:Nat),Lib.parseUint10 a (l++r)= match Lib.parseUint10 a l with | .ok v=>Lib.parseUint10 v r | .«syntax»=> .«syntax» | .range=> .range
  | [],r,a=> by simp [Lib.parseUint10]
  | c::l,r,a=> by
    simp only[List.cons_append,Lib.parseUint10]
    split
    · split
      · rfl
      · split
        · rfl
        · exact Gf l r _
    · rfl
theorem CB (u:Nat) (h:u<18446744073709551616):Lib.parseUint10 0 (Lib.decDigits u)= .ok u:= by
  induction u using Nat.strongRecOn with
  | _ u ih=>
    rw[Lib.decDigits]
    split
    · rename_i hu
      have e:(UInt8.ofNat (48+u)).toNat=48+u:= by simp;omega
      simp only[Lib.parseUint10,e]
      rw[if_pos (by omega),if_neg (by omega),if_neg (by omega)]
      congr 1;omega
    · rename_i hu
      rw[Gf,ih (u/ 10) (by omega) (by omega)]
      have e:(UInt8.ofNat (48+u%10)).toNat=48+u%10:= by simp;omega
      simp only[Lib.parseUint10,e]
      rw[if_pos (by omega),if_neg (by omega),if_neg (by omega)]
      congr 1;omega
theorem VM (u:Nat) (h:u<18446744073709551616):Lib.parseMag (Lib.decDigits u)= .ok u:= by
  rw[Lib.parseMag,if_neg (GE u),CB u h]
theorem Ar {n:Int} (h:X5 n):Lib.atoiAll (Lib.itoa n)= .ok n:= by
  obtain⟨h0,h1⟩:=h
  by_cases hn:n<0
  · obtain⟨u,rfl⟩: ∃u:Nat,n= -(u:Int):=⟨n.natAbs, by omega⟩
    rw[Lib.itoa_neg u (by omega)]
    have e45:(45:UInt8).toNat=45:=rfl
    simp only[Lib.atoiAll,e45]
    simp only[or_true,if_true,VM u (show u<18446744073709551616 by omega),not_true,false_and,if_false,true_and]
    rw[if_neg (by omega)]
  · obtain⟨u,rfl⟩: ∃u:Nat,n=u:=⟨n.toNat, by omega⟩
    rw[Lib.itoa_nonneg]
    cases hd:Lib.decDigits u with
    | nil=> exact absurd hd (GE u)
    | cons c r=>
      have hc:=HP u c (by rw[hd]; simp)
      simp only[Lib.atoiAll]
      rw[if_neg (by omega),←hd,VM u (by omega)]
      simp only[show(c.toNat=45)=False from by simp;omega,not_false_eq_true,true_and,false_and,if_false]
      rw[if_neg (by omega)]
theorem LJ {l:Bs} {n:Int} (h:Lib.atoiAll l= .ok n):X5 n:= by
  cases l with
  | nil=> simp [Lib.atoiAll]at h
  | cons c r=>
    simp only[Lib.atoiAll]at h
    split at h
    · cases h
    · cases h
    · rename_i u hu
      split at h
      · cases h
      split at h
      · cases h
      have hlt:=Lib.parseMag_lt hu
      injection h with h
      subst h
      unfold X5
      split<;>omega
theorem WT {n:Int} (h:X5 n):(Lib.itoa n).length≤20∧1≤(Lib.itoa n).length:= by
  obtain⟨h0,h1⟩:=h
  by_cases hn:n<0
  · obtain⟨u,rfl⟩: ∃u:Nat,n= -(u:Int):=⟨n.natAbs, by omega⟩
    rw[Lib.itoa_neg u (by omega),List.length_cons,Lib.decDigits_length]
    have :=RC 18 u (by simp;omega)
    omega
  · obtain⟨u,rfl⟩: ∃u:Nat,n=u:=⟨n.toNat, by omega⟩
    rw[Lib.itoa_nonneg,Lib.decDigits_length]
    have :=RC 18 u (by simp;omega)
    have :=Lib.nDigits_pos u
    omega
theorem EK {n:Int}: ∀b∈Lib.itoa n,b.toNat≤57:= by
  intro b hb
  by_cases hn:n<0
  · obtain⟨u,rfl⟩: ∃u:Nat,n= -(u:Int):=⟨n.natAbs, by omega⟩
    rw[Lib.itoa_neg u (by omega)]at hb
    rcases List.mem_cons.1 hb with rfl | hb
    · decide
    · exact(HP u b hb).2
  · obtain⟨u,rfl⟩: ∃u:Nat,n=u:=⟨n.toNat, by omega⟩
    rw[Lib.itoa_nonneg]at hb
    exact(HP u b hb).2
theorem Rt {e:UInt8}: ∀(l r:Bs),e∉l→Lib.indexByte (l++e::r) e=(l.length:Int)
  | [],r,_=> by simp [Lib.indexByte]
  | b::l,r,h=> by
    have hb: ¬b=e:= fun q=>h (by simp [q])
    have :=Rt (e:=e) l r (fun q=>h (List.mem_cons_of_mem _ q))
    simp only[List.cons_append,Lib.indexByte,this]
    rw[if_neg (by simpa using hb),if_neg (by simp)]
    simp
def U4 (e:UInt8) (least:Int) (rest:Bs):Option (Int×Bs):=
  if Lib.indexByte (rest.take 21) e<0 then none
  else match Lib.atoiAll ((rest.take 21).take (Lib.indexByte (rest.take 21) e).toNat)with
    | .ok n=> if Lib.itoa n=(rest.take 21).take (Lib.indexByte (rest.take 21) e).toNat∧least≤n then some (n,rest.drop ((Lib.indexByte (rest.take 21) e).toNat+1))else none
    | _=>none
theorem Oy {e:UInt8} {least n:Int} {r:Bs} (he:57<e.toNat) (hn:X5 n) (hl:least≤n):U4 e least (Lib.itoa n++e::r)=some (n,r):= by
  have hlen:=WT hn
  have hmem:e∉Lib.itoa n:= fun q=> by have :=EK e q;omega
  have ht:(Lib.itoa n++e::r).take 21=Lib.itoa n++e::r.take (20 -(Lib.itoa n).length):= by
    rw[List.take_append,List.take_of_length_le (by omega), show 21 -(Lib.itoa n).length=(20 -(Lib.itoa n).length)+1 by omega,List.take_succ_cons]
  have hi:Lib.indexByte ((Lib.itoa n++e::r).take 21) e=((Lib.itoa n).length:Int):= by rw[ht]; exact Rt _ _ hmem
  have ht2:((Lib.itoa n++e::r).take 21).take (Lib.itoa n).length=Lib.itoa n:= by rw[ht,List.take_left'];rfl
  unfold U4
  rw[hi,if_neg (by omega)]
  rw[Int.toNat_natCast,ht2,Ar hn]
  dsimp only
  rw[if_pos ⟨rfl,hl⟩,List.drop_append,List.drop_eq_nil_of_le (by omega), show(Lib.itoa n).length+1 -(Lib.itoa n).length=1 by omega]
  rfl
theorem Bi {e:UInt8} {least n:Int} {rest r:Bs} (h:U4 e least rest=some (n,r)):rest=Lib.itoa n++e::r∧X5 n∧least≤n:= by
  unfold U4 at h
  split at h
  · cases h
  · rename_i hneg
    split at h
    · rename_i m hm
      split at h
      · rename_i hc
        injection h with h
        injection h with h1 h2
        subst h1
        obtain⟨o,ho⟩: ∃o:Nat,Lib.indexByte (rest.take 21) e=o:=⟨(Lib.indexByte (rest.take 21) e).toNat, by omega⟩
        rw[ho,Int.toNat_natCast]at hc h2 hm
        have h3:=(Lib.indexByte_some ho).1
        have h4:o<21∧rest[o]? =some e:= by
          have :=(Jh h3).1
          simp at this
          rw[List.getElem?_take,if_pos (by omega)]at h3
          exact⟨by omega,h3⟩
        refine⟨?_,LJ hm,hc.2⟩
        rw[hc.1,←h2,List.take_take,Nat.min_eq_left (by omega)]
        have h5:=(Jh h4.2)
        rw[←h5.2,List.getElem_cons_drop,List.take_append_drop]
      · cases h
    · cases h
section
variable {P:Program} {n:Nat} {ops:Array Oper} {Q:Exit→Act→World→Prop} {rest:List Oper} {L:Env} {w:World} {d:Nat} {ty:TypeId} {pos:String} {aft:Array Edge}
def Gk (P:Program) (t:Nat):Bool:= match P.underlying t with | some (.interface _)=>true | _=>false
theorem Sd {x:Operand} {t t2:TypeId} {v:Value} {g:Bool} (hu:Gk P t=true) (hv:(v= .nilIface∧g=false)∨ ∃a b,v= .iface a b∧g=true) (hx:M.look L x=some v):Ev P L w ⟨some d,.binOp .neq t x (.const .nilIface) t2,ty,pos,aft,none⟩ (.bool g):= fun ρ hρ=> by
  have hy:ρ (.const .nilIface)= .nilIface:=hρ _ _ Qa
  unfold Gk at hu
  cases hq:P.underlying t with
  | none=> rw[hq]at hu; cases hu
  | some dsc=>
    rw[hq]at hu
    cases dsc<;> simp at hu
    rcases hv with⟨rfl,rfl⟩ | ⟨a,b,rfl,rfl⟩
    · have hr:(Op.equal t .nilIface .nilIface).run P w= .ok true w:= by
        unfold Op.equal Op.maxDepth Op.equalIn
        simp only[Sem.run_bind,run_underlying hq,Result.andThen]
        rfl
      simp [execOp,hρ _ _ hx,hy,eqGuard,binOp,hr]
    · have hr:(Op.equal t (.iface a b) .nilIface).run P w= .ok false w:= by
        unfold Op.equal Op.maxDepth Op.equalIn
        simp only[Sem.run_bind,run_underlying hq,Result.andThen]
        rfl
      simp [execOp,hρ _ _ hx,hy,eqGuard,binOp,hr]
end
section
variable {P:Program} {n:Nat} {ops:Array Oper} {Q:Exit→Act→World→Prop} {rest:List Oper} {L:Env} {w:World} {d:Nat} {ty:TypeId} {pos:String} {aft:Array Edge} {x y:Operand} {t t2:TypeId}
theorem wl_remN {a b:Int} (hx:M.look L x=some (.int .i64 a)) (hy:M.look L y=some (.int .i64 b)) (h0:a≤0) (hb:0<b) (hd:Nat.blt d n=true) (hk:wl P n ops Q rest ((d,.int .i64 (-(-a%b)))::L) w):wl P n ops Q (⟨some d,.binOp .rem t x y t2,ty,pos,aft,none⟩::rest) L w:=
  Xw hd (fun ρ hρ=> by
    have hb':b≠0:= by omega
    have e:a.tmod b= -(-a%b):= by
      have h7:(-a).tmod b= -(a.tmod b):=Int.neg_tmod a b
      rw[Int.tmod_eq_emod_of_nonneg (show 0≤ -a by omega)]at h7
      generalize a.tmod b=q at h7⊢
      generalize -a%b=q2 at h7⊢
      omega
    simp [execOp,hρ _ _ hx,hρ _ _ hy,eqGuard,binOp,Op.intDiv,hb',e]) hk
end
theorem Ey {e:UInt8} {least m:Int} {r:Bs} {k:Nat} (he:57<e.toNat) (hk:r[k]? =some e) (hm:X5 m) (hl:least≤m) (h:r.take k=Lib.itoa m):U4 e least r=some (m,r.drop (k+1)):= by
  have e1:r=Lib.itoa m++e::r.drop (k+1):= by
    have h5:=Jh hk
    rw[←h,←h5.2,List.getElem_cons_drop,List.take_append_drop]
  have :=Oy (r:=r.drop (k+1)) he hm hl
  rw[←e1]at this
  exact this
structure CellsR (Z:List (Bs×Bs)) (c:Bs→Bs):Prop where
  sorted:(Z.map (·.1)).Pairwise (· < ·)
  val: ∀x∈Z,x.2≠[]∧c x.1=x.2
  none: ∀k,k∉Z.map (·.1)→c k=[]
theorem CellsR.empty:CellsR [] (fun _=>[]):=⟨by simp, by simp, fun _ _=>rfl⟩
def Gd (k v:Bs):Bool→List (Bs×Bs)→List (Bs×Bs)
  | true,[]=>[]
  | false,[]=>[(k,v)]
  | true,x::r=> if x.1=k then Gd k v true r else x::Gd k v true r
  | false,x::r=> if x.1=k then Gd k v false r else if k<x.1 then(k,v)::x::Gd k v true r else x::Gd k v false r
theorem Vj (k v:Bs): ∀Z,Gd k v true Z=Z.filter (fun x=>decide (x.1≠k))
  | []=>rfl
  | x::r=> by
    simp only[Gd]
    split
    · rename_i h; rw[Vj k v r,List.filter_cons_of_neg (by simpa using h)]
    · rename_i h; rw[Vj k v r,List.filter_cons_of_pos (by simpa using h)]
theorem Um (k v:Bs): ∀(Z:List (Bs×Bs)) (x:Bs×Bs),x∈Gd k v false Z↔(x∈Z∧x.1≠k)∨x=(k,v)
  | [],x=> by simp [Gd]
  | y::r,x=> by
    simp only[Gd]
    split
    · rename_i h
      rw[Um k v r x,List.mem_cons]
      constructor
      · rintro(⟨a,b⟩ | a)
        · exact .inl ⟨.inr a,b⟩
        · exact .inr a
      · rintro(⟨a | a,b⟩ | a)
        · subst a; exact absurd h b
        · exact .inl ⟨a,b⟩
        · exact .inr a
    · rename_i h
      split
      · rw[Vj]
        simp only[List.mem_cons,List.mem_filter,decide_eq_true_eq]
        constructor
        · rintro(a | a | ⟨a,b⟩)
          · exact .inr a
          · subst a; exact .inl ⟨.inl Qa,h⟩
          · exact .inl ⟨.inr a,b⟩
        · rintro(⟨a | a,b⟩ | a)
          · exact .inr (.inl a)
          · exact .inr (.inr ⟨a,b⟩)
          · exact .inl a
      · rw[List.mem_cons,Um k v r x,List.mem_cons]
        constructor
        · rintro(a | ⟨a,b⟩ | a)
          · subst a; exact .inl ⟨.inl Qa,h⟩
          · exact .inl ⟨.inr a,b⟩
          · exact .inr a
        · rintro(⟨a | a,b⟩ | a)
          · exact .inl a
          · exact .inr (.inl ⟨a,b⟩)
          · exact .inr (.inr a)
theorem O6 {a b:Bs} (h: ¬a<b) (g:a≠b):b<a:=
  Decidable.byContradiction fun q=>g (List.le_antisymm (List.not_lt.1 q) (List.not_lt.1 h))
theorem Ka (k v:Bs): ∀(Z:List (Bs×Bs)),(Z.map (·.1)).Pairwise (· < ·)→((Gd k v false Z).map (·.1)).Pairwise (· < ·)
  | [],_=> by simp [Gd]
  | y::r,hp=> by
    rw[List.map_cons,List.pairwise_cons]at hp
    obtain⟨h1,h2⟩:=hp
    simp only[Gd]
    split
    · exact Ka k v r h2
    · rename_i hne
      split
      · rename_i hlt
        rw[Vj,List.map_cons,List.map_cons,List.pairwise_cons,List.pairwise_cons]
        have hsub: ∀a∈(r.filter (fun x=>decide (x.1≠k))).map (·.1),a∈r.map (·.1):= fun a ha=> by
          obtain⟨x,hx,rfl⟩:=List.mem_map.1 ha
          exact List.mem_map.2 ⟨x,(List.mem_filter.1 hx).1,Qa⟩
        refine⟨fun a ha=> ?_, fun a ha=>h1 a (hsub a ha),h2.sublist ((List.filter_sublist).map _)⟩
        rcases List.mem_cons.1 ha with rfl | ha
        · exact hlt
        · exact List.lt_trans hlt (h1 a (hsub a ha))
      · rename_i hge
        rw[List.map_cons,List.pairwise_cons]
        refine⟨fun a ha=> ?_,Ka k v r h2⟩
        obtain⟨x,hx,rfl⟩:=List.mem_map.1 ha
        rcases(Um k v r x).1 hx with⟨a,_⟩ | a
        · exact h1 _ (List.mem_map.2 ⟨x,a,Qa⟩)
        · subst a; exact O6 hge (fun e=>hne e.symm)
def putZ (Z:List (Bs×Bs)) (k v:Bs):List (Bs×Bs):=Gd k v (decide (v=[])) Z
theorem CellsR.put {Z:List (Bs×Bs)} {c:Bs→Bs} (h:CellsR Z c) (k v:Bs):CellsR (putZ Z k v) (LZ c k v):= by
  unfold putZ
  by_cases hv:v=[]
  · subst hv
    rw[Q8 Qa,Vj]
    refine⟨h.sorted.sublist ((List.filter_sublist).map _), fun x hx=> ?_, fun j hj=> ?_⟩
    · obtain⟨h1,h2⟩:=List.mem_filter.1 hx
      have h3:=h.val x h1
      refine⟨h3.1, ?_⟩
      unfold LZ; rw[if_neg (by simpa using h2)]; exact h3.2
    · unfold LZ
      split
      · rfl
      · rename_i hne
        refine h.none j fun hm=>hj ?_
        obtain⟨x,hx,rfl⟩:=List.mem_map.1 hm
        exact List.mem_map.2 ⟨x,List.mem_filter.2 ⟨hx, by simpa using hne⟩,rfl⟩
  · rw[Qw hv]
    refine⟨Ka k v Z h.sorted, fun x hx=> ?_, fun j hj=> ?_⟩
    · rcases(Um k v Z x).1 hx with⟨h1,h2⟩ | rfl
      · have h3:=h.val x h1
        refine⟨h3.1, ?_⟩
        unfold LZ; rw[if_neg h2]; exact h3.2
      · exact⟨hv, by unfold LZ; rw[if_pos Qa]⟩
    · unfold LZ
      rw[if_neg]
      · refine h.none j fun hm=>hj ?_
        obtain⟨x,hx,rfl⟩:=List.mem_map.1 hm
        by_cases hxk:x.1=k
        · exact List.mem_map.2 ⟨(k,v),(Um k v Z _).2 (.inr Qa),hxk.symm⟩
        · exact List.mem_map.2 ⟨x,(Um k v Z _).2 (.inl ⟨hx,hxk⟩),Qa⟩
      · rintro rfl
        exact hj (List.mem_map.2 ⟨(j,v),(Um j v Z _).2 (.inr Qa),Qa⟩)
abbrev Bytes:=List UInt8
structure DS where
  F:Int→Bytes×Bytes
  Q:List (Int×Int)
  lost:Int
  down:Bool
  armed:Int
  keep:List Int
def J2 (s:Bytes) (at_:Nat) (t:Bytes):Bytes:= if t=[]then s else(s++List.replicate (at_ -s.length) 0).take at_++t++s.drop (at_+t.length)
def ZZ (D:DS) (f:Int):Int:= if D.down then 9 else if f<0∨16≤f then 1 else 0
def JV (D:DS):Bool:= !D.down&&decide (D.armed=1)
def Zx (D:DS):DS:= if D.down=true∨D.armed=0 then D else{D with armed:=D.armed -1}
def JN (F:Int→Bytes×Bytes) (f:Int) (x:Bytes×Bytes):Int→Bytes×Bytes:= fun k=> if k=f then x else F k
def Jz (f:Int):Nat→Int→List (Int×Int)→List (Int×Int)
  | 0,_,Q=>Q
  | k+1,n,Q=>Jz f k (n+1) (if(f,n)∈Q then Q else Q++[(f,n)])
def Y5 (D:DS) (f at_:Int) (s:Bytes):DS:=
  if s=[]then D else{D with F:=JN D.F f (J2 (D.F f).1 at_.toNat s,(D.F f).2),Q:=Jz f ((at_+s.length -1)/ 64 -at_/ 64+1).toNat (at_/ 64) D.Q}
def WW (D:DS) (f at_:Int) (s:Bytes):Int:= if ZZ D f≠0 then ZZ D f else if at_<0 then 1 else if 16777216<at_∨16777216 -at_<s.length then 6 else 0
def Jl (D:DS) (f at_:Int) (s:Bytes):DS:= if WW D f at_ s=0 then Y5 D f at_ s else D
def HU (F:Int→Bytes×Bytes) (p:Int×Int):Int→Bytes×Bytes:=
  if(F p.1).1.length≤64*p.2 then F else JN F p.1 ((F p.1).1,J2 (F p.1).2 (64*p.2).toNat (((F p.1).1.drop (64*p.2).toNat).take 64))
def Wn (keep:List Int):Nat→List (Int×Int)→(Int→Bytes×Bytes)→(Int→Bytes×Bytes)
  | _,[],F=>F
  | i,p::Q,F=>Wn keep (i+1) Q (if keep≠[]∧(keep.getD (i%keep.length) 0)%2=1 then HU F p else F)
def ZO (D:DS) (keep:List Int):DS:=
  if D.down then D else{D with down:=true,armed:=0,F:= fun k=>let x:=Wn keep 0 D.Q D.F k;(x.2,x.2),Q:=[]}
def Wy (D:DS) (f:Int) (s:Bytes):DS:={D with F:=JN D.F f (s,s),Q:=D.Q.filter fun p=>p.1≠f}
def Jn (D:DS):DS:= if JV D then ZO (Zx D) D.keep else Zx D
def WK (D:DS) (f at_:Int) (s:Bytes):Int:= if JV D then 9 else WW (Zx D) f at_ s
def XU (D:DS) (f at_:Int) (s:Bytes):DS:=let D1:=Jl (Zx D) f at_ s; if JV D then ZO D1 D.keep else D1
def ZC (D:DS) (f:Int):Int:= if ZZ (Jn D) f≠0 then ZZ (Jn D) f else if 0<(Jn D).lost then 10 else 0
def XD (D:DS) (f:Int):DS:= if ZZ (Jn D) f≠0 then Jn D else if 0<(Jn D).lost then{Jn D with lost:=(Jn D).lost -1}else Wy (Jn D) f ((Jn D).F f).1
def Wf (D:DS) (f at_ size:Int):Int:= if ZZ D f≠0 then ZZ D f else if at_<0∨size<0 then 1 else 0
def WG (D:DS) (f at_ size:Int):Bytes:= if Wf D f at_ size=0 then((D.F f).1.drop at_.toNat).take size.toNat else[]
structure DInv (D:DS):Prop where
  now: ∀k,(D.F k).1.length≤16777216
  last: ∀k,(D.F k).2.length≤16777216
  nodup:D.Q.Nodup
  secs: ∀p∈D.Q,(0≤p.1∧p.1<16)∧0≤p.2∧p.2≤262144
  lost:0≤D.lost∧D.lost≤9223372036854775807
  armed:0≤D.armed∧D.armed≤9223372036854775807
def Vv (x:Bytes×Bytes):Value:= .agg #[strV x.1,strV x.2]
def Z9 (Q:List (Int×Int)):List Value:=Q.flatMap fun p=>[intV p.1,intV p.2]
structure DL where
  bf:Nat
  bs:Nat
  qv:Value
def Ys (L:DL) (kp:Value) (D:DS):List Value:=[.map (some L.bf),L.qv,.map (some L.bs),intV D.lost,.bool D.down,intV D.armed,kp]
def Hn (g:Int→Option Value) (F:Int→Bytes×Bytes):Prop:= ∀k,(g k).getD (Vv ([],[]))=Vv (F k)
def J0 (b:Nat) (F:Int→Bytes×Bytes):Th:=S3 fun g:Int→Option Value=>starL [Yz (Hn g F),XE XY b g]
def YV (b:Nat) (Q:List (Int×Int)):Th:=S3 fun g:Int×Int→Option Value=>starL [Yz (∀p,g p= if p∈Q then some (.bool true)else none),XE Wq b g]
def RdI (v:Value) (l:List Int) (w:World):Prop:= ∃ao cap,v= .slice ao l.length cap∧l.length≤9223372036854775807∧ ∀i x,l[i]? =some x→ ∃b off,ao=some ⟨b,off,none⟩∧w.cell? ⟨b,off+i,none⟩=some (intV x)
def Zo (p:Nat) (kp:Value) (D:DS):Th:=S3 fun L:DL=>starL [Yz (DInv D),QR p (Ys L kp D),J0 L.bf D.F,XH L.qv D.Q.length 2 (Z9 D.Q),YV L.bs D.Q]
theorem WC {w:World} {p:Nat} {kp:Value} {D:DS} {As:List Th} (h:Sat w (Zo p kp D::As)): ∃L:DL,DInv D∧Sat w (QR p (Ys L kp D)::J0 L.bf D.F::XH L.qv D.Q.length 2 (Z9 D.Q)::YV L.bs D.Q::As):= by
  obtain⟨L,h⟩:=h.ex
  exact⟨L,h.flat.pure_elim⟩
theorem ZW {w:World} {p:Nat} {kp:Value} {D:DS} {As:List Th} (L:DL) (hi:DInv D) (h:Sat w (QR p (Ys L kp D)::J0 L.bf D.F::XH L.qv D.Q.length 2 (Z9 D.Q)::YV L.bs D.Q::As)):Sat w (Zo p kp D::As):=
  Sat.ex_intro L (Sat.fold (As:=[Yz (DInv D),QR p (Ys L kp D),J0 L.bf D.F,XH L.qv D.Q.length 2 (Z9 D.Q),YV L.bs D.Q]) (Sat.pure_intro hi h))
theorem JT {w:World} {b:Nat} {F:Int→Bytes×Bytes} {As:List Th} (h:Sat w (J0 b F::As)): ∃g,Hn g F∧Sat w (XE XY b g::As):= by
  obtain⟨L,h⟩:=h.ex
  exact⟨L,h.flat.pure_elim⟩
theorem Ji {w:World} {b:Nat} {F:Int→Bytes×Bytes} {As:List Th} (g:Int→Option Value) (hg:Hn g F) (h:Sat w (XE XY b g::As)):Sat w (J0 b F::As):=
  Sat.ex_intro g (Sat.fold (As:=[Yz (Hn g F),XE XY b g]) (Sat.pure_intro hg h))
theorem Ba {w:World} {b:Nat} {Q:List (Int×Int)} {As:List Th} (h:Sat w (YV b Q::As)): ∃g:Int×Int→Option Value,(∀p,g p= if p∈Q then some (.bool true)else none)∧Sat w (XE Wq b g::As):= by
  obtain⟨L,h⟩:=h.ex
  exact⟨L,h.flat.pure_elim⟩
theorem YK {w:World} {b:Nat} {Q:List (Int×Int)} {As:List Th} (g:Int×Int→Option Value) (hg: ∀p,g p= if p∈Q then some (.bool true)else none) (h:Sat w (XE Wq b g::As)):Sat w (YV b Q::As):=
  Sat.ex_intro g (Sat.fold (As:=[Yz (∀p,g p= if p∈Q then some (.bool true)else none),XE Wq b g]) (Sat.pure_intro hg h))
theorem Ts (a b:Bytes):Za (a++b)=Za a++Za b:= by simp [Za]
theorem St (a:Bytes) (k:Nat):(Za a).take k=Za (a.take k):= by simp [Za]
theorem Su (a:Bytes) (k:Nat):(Za a).drop k=Za (a.drop k):= by simp [Za]
theorem Ry (X t:Bytes) (a:Nat):XF (Za X) a (Za t)=Za (X.take a++t++X.drop (a+t.length)):= by
  simp [XF,Ts,St,Su,UY]
theorem S4 (m:Nat):(List.replicate m (Value.int .u8 0).cells.toList).flatten=Za (List.replicate m 0):= by
  have :(Value.int .u8 0).cells.toList=[.int .u8 0]:=rfl
  rw[this,flat1]; simp [Za]
def BV (s:Bytes) (m:Nat):Bytes:=s++List.replicate (m -s.length) 0
theorem put1 (s:Bytes) (m:Nat) (h:s.length≤m):XF (Za (List.replicate m 0)) 0 (Za (s.take m))=Za (BV s m):= by
  rw[Ry,List.take_of_length_le h]
  simp [BV]
theorem put2 (s t:Bytes) (a:Nat) (ht:t≠[]):(BV s (max s.length (a+t.length))).take a++t++(BV s (max s.length (a+t.length))).drop (a+t.length)=J2 s a t:= by
  unfold J2 BV
  rw[if_neg ht]
  congr 1
  · congr 1
    apply List.ext_getElem?
    intro i
    simp only[List.getElem?_take]
    by_cases hi:i<a
    · simp only[hi,if_true]
      by_cases h2:i<s.length
      · rw[List.getElem?_append_left h2,List.getElem?_append_left h2]
      · rw[List.getElem?_append_right (by omega),List.getElem?_append_right (by omega),List.getElem?_replicate,List.getElem?_replicate,if_pos (by omega),if_pos (by omega)]
    · simp [hi]
  · by_cases h:s.length≤a+t.length
    · rw[List.drop_eq_nil_of_le h,List.drop_eq_nil_of_le (by simp;omega)]
    · rw[show max s.length (a+t.length) -s.length=0 by omega]; simp
theorem Kc (s t:Bytes) (a:Nat) (ht:t≠[]):(J2 s a t).length=max s.length (a+t.length):= by
  rw[←put2 s t a ht]; simp [BV];omega
theorem Kb (s:Bytes) (a:Nat):J2 s a []=s:= by simp [J2]
theorem FZ {s t:Bytes} {a m:Nat} (h1:s.length≤m) (h2:a+t.length≤m):(J2 s a t).length≤m:= by
  by_cases ht:t=[]
  · subst ht; rw[Kb]; exact h1
  · rw[Kc s t a ht];omega
theorem QF:Ww prog 3=some false:= by kernel_rfl
theorem JG:Ww prog 4=some false:= by kernel_rfl
theorem Zr:Ww prog 9=some false:= by kernel_rfl
theorem GN:Ww prog 33=some false:= by kernel_rfl
theorem U3:Ww prog 116=some false:= by kernel_rfl
theorem B9:Ww prog 117=some false:= by kernel_rfl
theorem Kx:Ww prog 118=some false:= by kernel_rfl
theorem ag_120:Ww prog 120=some true:= by kernel_rfl
theorem IW:Ww prog 123=some true:= by kernel_rfl
theorem Hu:Ww prog 126=some true:= by kernel_rfl
theorem asz_120:Hj prog 120=true:= by kernel_rfl
theorem LL:Hj prog 123=true:= by kernel_rfl
theorem asz_126:Hj prog 126=true:= by kernel_rfl
theorem F6:QW prog 83=true:= by kernel_rfl
theorem cal_85:QW prog 85=true:= by kernel_rfl
theorem cal_86:QW prog 86=true:= by kernel_rfl
theorem cal_87:QW prog 87=true:= by kernel_rfl
theorem cal_91:QW prog 91=true:= by kernel_rfl
theorem I0:QW prog 92=true:= by kernel_rfl
theorem F5:QW prog 93=true:= by kernel_rfl
theorem cal_94:QW prog 94=true:= by kernel_rfl
theorem LA:QW prog 110=true:= by kernel_rfl
theorem cal_113:QW prog 113=true:= by kernel_rfl
theorem L9:QW prog 114=true:= by kernel_rfl
theorem cal_115:QW prog 115=true:= by kernel_rfl
theorem cal_116:QW prog 116=true:= by kernel_rfl
theorem cal_129:QW prog 129=true:= by kernel_rfl
theorem cal_130:QW prog 130=true:= by kernel_rfl
theorem Uv:Hg prog 33=some 1:= by kernel_rfl
theorem Nd:Hg prog 117=some 2:= by kernel_rfl
theorem JS:Xn prog 120 0=some 0:= by kernel_rfl
theorem HF:Xn prog 120 1=some 1:= by kernel_rfl
theorem Vu:Xn prog 120 2=some 2:= by kernel_rfl
theorem Gy:Xn prog 120 3=some 3:= by kernel_rfl
theorem Kk:Xn prog 120 4=some 4:= by kernel_rfl
theorem Vt:Xn prog 120 5=some 5:= by kernel_rfl
theorem ME:Xn prog 120 6=some 6:= by kernel_rfl
theorem Kj:Xn prog 123 0=some 0:= by kernel_rfl
theorem Gx:Xn prog 123 1=some 1:= by kernel_rfl
theorem Gw:Xn prog 126 0=some 0:= by kernel_rfl
theorem Ia:Xn prog 126 1=some 1:= by kernel_rfl
theorem PS:RG prog 123 0=some (0,none):= by kernel_rfl
theorem ifo_3:(prog.info? 3).map (fun i=>(i.zero,i.size,i.bytes))=some (some (.int .i64 0),1,8):= by kernel_rfl
theorem Lr:(prog.info? 5).map (fun i=>(i.zero,i.size,i.bytes))=some (some (.int .u8 0),1,1):= by kernel_rfl
theorem Ls:(prog.info? 126).map (fun i=>(i.zero,i.size,i.bytes))=some (some (.agg #[(.int .i64 0),(.int .i64 0)]),2,16):= by kernel_rfl
theorem ifz_3:(prog.info? 3).map (fun i=>(i.zero,i.size))=some (some (.int .i64 0),1):= by kernel_rfl
theorem Lq:(prog.info? 126).map (fun i=>(i.zero,i.size))=some (some (.agg #[(.int .i64 0),(.int .i64 0)]),2):= by kernel_rfl
theorem Wv:prog.follows .mixedOrders=true:= by kernel_rfl
theorem Lj:Vn prog 116=true:= by kernel_rfl
theorem Li:Vn prog 118=true:= by kernel_rfl
theorem SV:Zm prog 120 [0,2]=some [(0,1),(2,1)]:= by kernel_rfl
theorem Mn:Zm prog 123 [0,1]=some [(0,1),(1,1)]:= by kernel_rfl
theorem SU:Zm prog 126 [0,1]=some [(0,1),(1,1)]:= by kernel_rfl
theorem Ya:Wm prog 3=some 1:= by kernel_rfl
theorem Jd:Wm prog 4=some 1:= by kernel_rfl
theorem sz_5:Wm prog 5=some 1:= by kernel_rfl
theorem R2:Wm prog 9=some 1:= by kernel_rfl
theorem sz_33:Wm prog 33=some 1:= by kernel_rfl
theorem sz_116:Wm prog 116=some 1:= by kernel_rfl
theorem Co:Wm prog 117=some 1:= by kernel_rfl
theorem AN:Wm prog 118=some 1:= by kernel_rfl
theorem AM:Wm prog 120=some 7:= by kernel_rfl
theorem DO:Wm prog 123=some 2:= by kernel_rfl
theorem Jr:Wm prog 126=some 2:= by kernel_rfl
theorem zr_4:Z7 prog 4=some (some (.bool false)):= by kernel_rfl
theorem A7:Z7 prog 120=some (some (.agg #[(.map none),(.slice none 0 0),(.map none),(.int .i64 0),(.bool false),(.int .i64 0),(.slice none 0 0)])):= by kernel_rfl
theorem US:Z7 prog 123=some (some (.agg #[(.string ⟨#[]⟩),(.string ⟨#[]⟩)])):= by kernel_rfl
theorem GQ:Z7 prog 126=some (some (.agg #[(.int .i64 0),(.int .i64 0)])):= by kernel_rfl
theorem U2:Ww prog 76=some false:= by kernel_rfl
theorem LK:Hj prog 129=true:= by kernel_rfl
theorem Nr:QW prog 57=true:= by kernel_rfl
theorem B0:QW prog 88=true:= by kernel_rfl
theorem L8:QW prog 117=true:= by kernel_rfl
theorem cal_118:QW prog 118=true:= by kernel_rfl
theorem Ki:Xn prog 129 0=some 0:= by kernel_rfl
theorem Kh:Xn prog 129 1=some 1:= by kernel_rfl
theorem J7:Xn prog 129 2=some 2:= by kernel_rfl
theorem Y3:Xn prog 129 3=some 3:= by kernel_rfl
theorem Gv:Xn prog 129 4=some 4:= by kernel_rfl
theorem ifz_5:(prog.info? 5).map (fun i=>(i.zero,i.size))=some (some (.int .u8 0),1):= by kernel_rfl
theorem Mm:Zm prog 129 [0,1]=some [(0,1),(1,1)]:= by kernel_rfl
theorem A0:Z7 prog 129=some (some (.agg #[(.pointer none),(.int .i64 0),(.int .i64 0),(.string ⟨#[]⟩),(.bool false)])):= by kernel_rfl
theorem Av:Ww prog 5=some false:= by kernel_rfl
theorem WF:Ww prog 22=some false:= by kernel_rfl
theorem J9:Ww prog 24=some true:= by kernel_rfl
theorem ag_35:Ww prog 35=some true:= by kernel_rfl
theorem Jy:Ww prog 37=some false:= by kernel_rfl
theorem JX:Ww prog 38=some false:= by kernel_rfl
theorem Xv:Ww prog 39=some false:= by kernel_rfl
theorem GM:Ww prog 65=some true:= by kernel_rfl
theorem LR:Ww prog 77=some false:= by kernel_rfl
theorem Z3:Ww prog 78=some false:= by kernel_rfl
theorem UQ:Ww prog 79=some false:= by kernel_rfl
theorem HS:Ww prog 86=some false:= by kernel_rfl
theorem ZX:Ww prog 89=some false:= by kernel_rfl
theorem IV:Ww prog 94=some true:= by kernel_rfl
theorem MV:Ww prog 98=some false:= by kernel_rfl
theorem S0:Ww prog 99=some false:= by kernel_rfl
theorem IX:Ww prog 107=some true:= by kernel_rfl
theorem MW:Ww prog 113=some true:= by kernel_rfl
theorem FH:Ww prog 147=some false:= by kernel_rfl
theorem RJ:Hj prog 24=true:= by kernel_rfl
theorem asz_41:Hj prog 41=true:= by kernel_rfl
theorem N4:Hj prog 65=true:= by kernel_rfl
theorem IP:Hj prog 81=true:= by kernel_rfl
theorem asz_88:Hj prog 88=true:= by kernel_rfl
theorem N3:Hj prog 91=true:= by kernel_rfl
theorem U1:Hj prog 94=true:= by kernel_rfl
theorem LM:Hj prog 101=true:= by kernel_rfl
theorem N5:Hj prog 107=true:= by kernel_rfl
theorem GK:Hj prog 113=true:= by kernel_rfl
theorem asz_142:Hj prog 142=true:= by kernel_rfl
theorem cal_7:QW prog 7=true:= by kernel_rfl
theorem cal_8:QW prog 8=true:= by kernel_rfl
theorem cal_9:QW prog 9=true:= by kernel_rfl
theorem cal_10:QW prog 10=true:= by kernel_rfl
theorem cal_11:QW prog 11=true:= by kernel_rfl
theorem Nx:QW prog 12=true:= by kernel_rfl
theorem cal_13:QW prog 13=true:= by kernel_rfl
theorem Yv:QW prog 14=true:= by kernel_rfl
theorem Uz:QW prog 15=true:= by kernel_rfl
theorem IL:QW prog 16=true:= by kernel_rfl
theorem IK:QW prog 17=true:= by kernel_rfl
theorem RI:QW prog 18=true:= by kernel_rfl
theorem Nw:QW prog 19=true:= by kernel_rfl
theorem IJ:QW prog 20=true:= by kernel_rfl
theorem II:QW prog 21=true:= by kernel_rfl
theorem cal_23:QW prog 23=true:= by kernel_rfl
theorem Nv:QW prog 24=true:= by kernel_rfl
theorem cal_25:QW prog 25=true:= by kernel_rfl
theorem IH:QW prog 26=true:= by kernel_rfl
theorem Uy:QW prog 27=true:= by kernel_rfl
theorem Nu:QW prog 28=true:= by kernel_rfl
theorem IG:QW prog 29=true:= by kernel_rfl
theorem FB:QW prog 30=true:= by kernel_rfl
theorem FA:QW prog 31=true:= by kernel_rfl
theorem cal_32:QW prog 32=true:= by kernel_rfl
theorem cal_33:QW prog 33=true:= by kernel_rfl
theorem Nt:QW prog 34=true:= by kernel_rfl
theorem Kv:QW prog 35=true:= by kernel_rfl
theorem UX:QW prog 36=true:= by kernel_rfl
theorem HQ:QW prog 37=true:= by kernel_rfl
theorem cal_38:QW prog 38=true:= by kernel_rfl
theorem cal_39:QW prog 39=true:= by kernel_rfl
theorem IF:QW prog 40=true:= by kernel_rfl
theorem Yu:QW prog 41=true:= by kernel_rfl
theorem IE:QW prog 42=true:= by kernel_rfl
theorem Yt:QW prog 43=true:= by kernel_rfl
theorem Ns:QW prog 44=true:= by kernel_rfl
theorem ID:QW prog 45=true:= by kernel_rfl
theorem IC:QW prog 46=true:= by kernel_rfl
theorem IB:QW prog 47=true:= by kernel_rfl
theorem IA:QW prog 48=true:= by kernel_rfl
theorem I9:QW prog 49=true:= by kernel_rfl
theorem cal_50:QW prog 50=true:= by kernel_rfl
theorem I8:QW prog 51=true:= by kernel_rfl
theorem F9:QW prog 52=true:= by kernel_rfl
theorem I7:QW prog 53=true:= by kernel_rfl
theorem I6:QW prog 54=true:= by kernel_rfl
theorem cal_55:QW prog 55=true:= by kernel_rfl
theorem cal_56:QW prog 56=true:= by kernel_rfl
theorem I5:QW prog 58=true:= by kernel_rfl
theorem Ku:QW prog 59=true:= by kernel_rfl
theorem cal_60:QW prog 60=true:= by kernel_rfl
theorem Nq:QW prog 61=true:= by kernel_rfl
theorem cal_62:QW prog 62=true:= by kernel_rfl
theorem cal_63:QW prog 63=true:= by kernel_rfl
theorem Ja:QW prog 64=true:= by kernel_rfl
theorem Np:QW prog 65=true:= by kernel_rfl
theorem Nn:QW prog 66=true:= by kernel_rfl
theorem F8:QW prog 67=true:= by kernel_rfl
theorem Kt:QW prog 68=true:= by kernel_rfl
theorem I4:QW prog 69=true:= by kernel_rfl
theorem cal_70:QW prog 70=true:= by kernel_rfl
theorem cal_71:QW prog 71=true:= by kernel_rfl
theorem I3:QW prog 72=true:= by kernel_rfl
theorem cal_73:QW prog 73=true:= by kernel_rfl
theorem cal_74:QW prog 74=true:= by kernel_rfl
theorem cal_75:QW prog 75=true:= by kernel_rfl
theorem cal_76:QW prog 76=true:= by kernel_rfl
theorem cal_77:QW prog 77=true:= by kernel_rfl
theorem cal_78:QW prog 78=true:= by kernel_rfl
theorem F7:QW prog 79=true:= by kernel_rfl
theorem Ht:QW prog 80=true:= by kernel_rfl
theorem I2:QW prog 81=true:= by kernel_rfl
theorem cal_82:QW prog 82=true:= by kernel_rfl
theorem I1:QW prog 84=true:= by kernel_rfl
theorem cal_89:QW prog 89=true:= by kernel_rfl
theorem Ux:QW prog 90=true:= by kernel_rfl
theorem cal_95:QW prog 95=true:= by kernel_rfl
theorem cal_96:QW prog 96=true:= by kernel_rfl
theorem cal_97:QW prog 97=true:= by kernel_rfl
theorem cal_98:QW prog 98=true:= by kernel_rfl
theorem Iz:QW prog 99=true:= by kernel_rfl
theorem N2:QW prog 100=true:= by kernel_rfl
theorem Rf:QW prog 101=true:= by kernel_rfl
theorem cal_102:QW prog 102=true:= by kernel_rfl
theorem N1:QW prog 103=true:= by kernel_rfl
theorem LD:QW prog 104=true:= by kernel_rfl
theorem N0:QW prog 105=true:= by kernel_rfl
theorem LC:QW prog 106=true:= by kernel_rfl
theorem Nz:QW prog 107=true:= by kernel_rfl
theorem LB:QW prog 108=true:= by kernel_rfl
theorem cal_109:QW prog 109=true:= by kernel_rfl
theorem Ny:QW prog 112=true:= by kernel_rfl
theorem cal_119:QW prog 119=true:= by kernel_rfl
theorem cal_120:QW prog 120=true:= by kernel_rfl
theorem cal_121:QW prog 121=true:= by kernel_rfl
theorem cal_122:QW prog 122=true:= by kernel_rfl
theorem cal_123:QW prog 123=true:= by kernel_rfl
theorem cal_124:QW prog 124=true:= by kernel_rfl
theorem cal_125:QW prog 125=true:= by kernel_rfl
theorem cal_126:QW prog 126=true:= by kernel_rfl
theorem cal_127:QW prog 127=true:= by kernel_rfl
theorem cal_131:QW prog 131=true:= by kernel_rfl
theorem cal_137:QW prog 137=true:= by kernel_rfl
theorem cal_157:QW prog 157=true:= by kernel_rfl
theorem Vy:Hg prog 22=some 2:= by kernel_rfl
theorem Sh:Hg prog 25=some 6:= by kernel_rfl
theorem JU:Hg prog 38=some 1:= by kernel_rfl
theorem Sg:Hg prog 66=some 1:= by kernel_rfl
theorem es_86:Hg prog 86=some 2:= by kernel_rfl
theorem es_98:Hg prog 98=some 1:= by kernel_rfl
theorem Hf:Xn prog 24 0=some 0:= by kernel_rfl
theorem Zh:Xn prog 24 1=some 1:= by kernel_rfl
theorem KS:Xn prog 35 0=some 0:= by kernel_rfl
theorem Jp:Xn prog 35 1=some 1:= by kernel_rfl
theorem JJ:Xn prog 35 2=some 2:= by kernel_rfl
theorem KR:Xn prog 35 3=some 3:= by kernel_rfl
theorem KQ:Xn prog 35 4=some 4:= by kernel_rfl
theorem Gt:Xn prog 35 5=some 5:= by kernel_rfl
theorem ZV:Xn prog 41 0=some 0:= by kernel_rfl
theorem XN:Xn prog 41 1=some 1:= by kernel_rfl
theorem Yh:Xn prog 65 0=some 0:= by kernel_rfl
theorem UM:Xn prog 65 1=some 1:= by kernel_rfl
theorem HZ:Xn prog 81 0=some 0:= by kernel_rfl
theorem Dv:Xn prog 81 1=some 1:= by kernel_rfl
theorem Zv:Xn prog 81 2=some 2:= by kernel_rfl
theorem W5:Xn prog 81 3=some 3:= by kernel_rfl
theorem Xo:Xn prog 81 4=some 4:= by kernel_rfl
theorem Zc:Xn prog 81 5=some 5:= by kernel_rfl
theorem WU:Xn prog 81 6=some 6:= by kernel_rfl
theorem KP:Xn prog 81 7=some 7:= by kernel_rfl
theorem HY:Xn prog 81 8=some 8:= by kernel_rfl
theorem WJ:Xn prog 81 9=some 9:= by kernel_rfl
theorem Wb:Xn prog 88 0=some 0:= by kernel_rfl
theorem KO:Xn prog 88 1=some 1:= by kernel_rfl
theorem Gs:Xn prog 91 0=some 0:= by kernel_rfl
theorem UL:Xn prog 91 1=some 1:= by kernel_rfl
theorem ZF:Xn prog 91 2=some 2:= by kernel_rfl
theorem KN:Xn prog 94 0=some 0:= by kernel_rfl
theorem UK:Xn prog 94 1=some 1:= by kernel_rfl
theorem Gr:Xn prog 94 2=some 2:= by kernel_rfl
theorem CW:Xn prog 94 3=some 3:= by kernel_rfl
theorem G0:Xn prog 101 0=some 0:= by kernel_rfl
theorem Kl:Xn prog 101 1=some 1:= by kernel_rfl
theorem Gz:Xn prog 101 2=some 2:= by kernel_rfl
theorem HI:Xn prog 101 3=some 3:= by kernel_rfl
theorem PW:Xn prog 101 4=some 4:= by kernel_rfl
theorem J8:Xn prog 107 0=some 0:= by kernel_rfl
theorem ZB:Xn prog 107 1=some 1:= by kernel_rfl
theorem Wr:Xn prog 107 2=some 2:= by kernel_rfl
theorem Jw:Xn prog 107 3=some 3:= by kernel_rfl
theorem HH:Xn prog 107 4=some 4:= by kernel_rfl
theorem XJ:Xn prog 113 0=some 0:= by kernel_rfl
theorem HG:Xn prog 113 1=some 1:= by kernel_rfl
theorem JR:Xn prog 142 0=some 0:= by kernel_rfl
theorem PV:Xn prog 142 1=some 1:= by kernel_rfl
theorem Gu:Xn prog 149 0=some 0:= by kernel_rfl
theorem Vs:Xn prog 149 1=some 1:= by kernel_rfl
theorem fv_94_0:RG prog 94 0=some (0,none):= by kernel_rfl
theorem CV:RG prog 94 1=some (1,none):= by kernel_rfl
theorem fv_94_3:RG prog 94 3=some (3,none):= by kernel_rfl
theorem UI:(prog.info? 9).map (fun i=>(i.zero,i.size,i.bytes))=some (some (.string ⟨#[]⟩),1,16):= by kernel_rfl
theorem M6:(prog.info? 65).map (fun i=>(i.zero,i.size,i.bytes))=some (some (.agg #[(.int .i64 0),(.string ⟨#[]⟩)]),2,24):= by kernel_rfl
theorem KJ:(prog.info? 113).map (fun i=>(i.zero,i.size,i.bytes))=some (some (.agg #[(.int .i64 0),(.string ⟨#[]⟩)]),2,24):= by kernel_rfl
theorem JP:(prog.info? 9).map (fun i=>(i.zero,i.size))=some (some (.string ⟨#[]⟩),1):= by kernel_rfl
theorem ifz_37:(prog.info? 37).map (fun i=>(i.zero,i.size))=some (some (.pointer none),1):= by kernel_rfl
theorem Br:(prog.info? 65).map (fun i=>(i.zero,i.size))=some (some (.agg #[(.int .i64 0),(.string ⟨#[]⟩)]),2):= by kernel_rfl
theorem Gl:(prog.info? 113).map (fun i=>(i.zero,i.size))=some (some (.agg #[(.int .i64 0),(.string ⟨#[]⟩)]),2):= by kernel_rfl
theorem Ok:Zm prog 24 []=some []:= by kernel_rfl
theorem Dr:Zm prog 24 [0]=some [(0,1)]:= by kernel_rfl
theorem Es:Zm prog 24 [0,1]=some [(0,1),(1,1)]:= by kernel_rfl
theorem Er:Zm prog 41 [0,1]=some [(0,1),(1,1)]:= by kernel_rfl
theorem KC:Zm prog 65 [0,1]=some [(0,1),(1,1)]:= by kernel_rfl
theorem La:Zm prog 81 [0]=some [(0,1)]:= by kernel_rfl
theorem pl_88_:Zm prog 88 []=some []:= by kernel_rfl
theorem Kd:Zm prog 91 [0,1,2]=some [(0,1),(1,1),(2,1)]:= by kernel_rfl
theorem Ep:Zm prog 91 [0,2]=some [(0,1),(2,1)]:= by kernel_rfl
theorem YM:Zm prog 94 [0,1]=some [(0,1),(1,1)]:= by kernel_rfl
theorem BP:Zm prog 94 [0,1,2]=some [(0,1),(1,1),(2,1)]:= by kernel_rfl
theorem Eo:Zm prog 94 [1,3]=some [(1,1),(3,1)]:= by kernel_rfl
theorem Ge:Zm prog 101 [0,1,3]=some [(0,1),(1,1),(3,1)]:= by kernel_rfl
theorem SW:Zm prog 107 [0,1]=some [(0,1),(1,1)]:= by kernel_rfl
theorem Vk:Zm prog 107 [0,1,2,3,4]=some [(0,1),(1,1),(2,1),(3,1),(4,1)]:= by kernel_rfl
theorem pl_113_:Zm prog 113 []=some []:= by kernel_rfl
theorem V7:Zm prog 113 [0,1]=some [(0,1),(1,1)]:= by kernel_rfl
theorem Ol:Zm prog 142 [0]=some [(0,1)]:= by kernel_rfl
theorem NJ:Wm prog 22=some 1:= by kernel_rfl
theorem Wi:Wm prog 24=some 2:= by kernel_rfl
theorem sz_35:Wm prog 35=some 6:= by kernel_rfl
theorem Uk:Wm prog 65=some 2:= by kernel_rfl
theorem sz_77:Wm prog 77=some 1:= by kernel_rfl
theorem DN:Wm prog 78=some 1:= by kernel_rfl
theorem NI:Wm prog 79=some 1:= by kernel_rfl
theorem sz_81:Wm prog 81=some 10:= by kernel_rfl
theorem DM:Wm prog 86=some 1:= by kernel_rfl
theorem Vf:Wm prog 94=some 4:= by kernel_rfl
theorem sz_98:Wm prog 98=some 1:= by kernel_rfl
theorem SG:Wm prog 107=some 5:= by kernel_rfl
theorem W9:Wm prog 113=some 2:= by kernel_rfl
theorem sz_147:Wm prog 147=some 1:= by kernel_rfl
theorem zr_3:Z7 prog 3=some (some (.int .i64 0)):= by kernel_rfl
theorem zr_9:Z7 prog 9=some (some (.string ⟨#[]⟩)):= by kernel_rfl
theorem VK:Z7 prog 24=some (some (.agg #[(.string ⟨#[]⟩),(.slice none 0 0)])):= by kernel_rfl
theorem zr_41:Z7 prog 41=some (some (.agg #[(.slice none 0 0),(.pointer none)])):= by kernel_rfl
theorem Rn:Z7 prog 65=some (some (.agg #[(.int .i64 0),(.string ⟨#[]⟩)])):= by kernel_rfl
theorem zr_81:Z7 prog 81=some (some (.agg #[(.pointer none),(.pointer none),(.int .i64 0),(.int .i64 0),(.pointer none),(.bool false),(.bool false),(.int .i64 0),(.bool false),(.pointer none)])):= by kernel_rfl
theorem zr_88:Z7 prog 88=some (some (.agg #[(.slice none 0 0),(.bool false)])):= by kernel_rfl
theorem FM:Z7 prog 91=some (some (.agg #[(.string ⟨#[]⟩),(.int .i64 0),(.map none)])):= by kernel_rfl
theorem Wc:Z7 prog 94=some (some (.agg #[(.string ⟨#[]⟩),(.int .i64 0),(.int .i64 0),(.bool false)])):= by kernel_rfl
theorem A8:Z7 prog 101=some (some (.agg #[(.int .i64 0),(.map none),(.int .i64 0),(.map none),(.string ⟨#[]⟩)])):= by kernel_rfl
theorem Cg:Z7 prog 107=some (some (.agg #[(.int .i64 0),(.int .i64 0),(.int .i64 0),(.int .i64 0),(.string ⟨#[]⟩)])):= by kernel_rfl
theorem zr_108:Z7 prog 108=some (some .nilFunc):= by kernel_rfl
theorem Jk:Z7 prog 113=some (some (.agg #[(.int .i64 0),(.string ⟨#[]⟩)])):= by kernel_rfl
theorem zr_142:Z7 prog 142=some (some (.agg #[(.string ⟨#[]⟩),(.bool false)])):= by kernel_rfl
theorem Az:Z7 prog 149=some (some (.agg #[(.pointer none),(.slice none 0 0)])):= by kernel_rfl
def inC:RowC Int:=⟨fun x=>[intV x],1, by decide, fun _=>rfl, fun _=>rfl⟩
def RE:List (Int×Bytes×Bytes)→Int→Bytes×Bytes
  | [],_=>([],[])
  | x::l,f=> if x.1=f then x.2 else RE l f
structure RInv (l:List (Int×Bytes×Bytes)) (D:DS):Prop where
  inv:DInv D
  says: ∀k,RE l k=D.F k
  num: ∀x∈l,0≤x.1∧x.1<16
  nodup:(l.map (·.1)).Nodup
structure RL where
  fv:Value
  qv:Value
  l:List (Int×Bytes×Bytes)
theorem OV {l m:List (Int×Bytes×Bytes)} {f:Int} (h: ∀x∈l,x.1≠f):RE (l++m) f=RE m f:= by
  induction l with
  | nil=>rfl
  | cons x l ih=> rw[List.cons_append,RE,if_neg (h x (by simp)),ih fun y hy=>h y (by simp [hy])]
theorem PR {l:List (Int×Bytes×Bytes)} {f k:Int} (h:k≠f) (m:List (Int×Bytes×Bytes)) (hm:RE m k=([],[])):RE (l.filter (fun x=>decide (x.1≠f))++m) k=RE l k:= by
  induction l with
  | nil=> exact hm
  | cons x l ih=>
    by_cases e:x.1=f
    · rw[List.filter_cons_of_neg (by simp [e]),ih,RE,if_neg (by omega)]
    · rw[List.filter_cons_of_pos (by simp [e]),List.cons_append,RE,RE,ih]
def putR (l:List (Int×Bytes×Bytes)) (x:Int×Bytes×Bytes):List (Int×Bytes×Bytes):=l.filter (fun y=>decide (y.1≠x.1))++[x]
theorem El {l:List (Int×Bytes×Bytes)} {F:Int→Bytes×Bytes} (h: ∀k,RE l k=F k) (x:Int×Bytes×Bytes) (k:Int):RE (putR l x) k=JN F x.1 x.2 k:= by
  unfold putR JN
  by_cases e:k=x.1
  · subst e
    rw[OV (fun y hy=> by simpa using(List.mem_filter.1 hy).2),if_pos Qa]
    simp [RE]
  · rw[PR e [x] (by rw[RE,if_neg (Ne.symm e)];rfl),if_neg e]; exact h k
theorem RInv.put {l:List (Int×Bytes×Bytes)} {D:DS} (h:RInv l D) (k:Int) (a b:Bytes) (hk:0≤k∧k<16) (ha:a.length≤16777216) (hb:b.length≤16777216):RInv (putR l (k,a,b)) {D with F:=JN D.F k (a,b)}:= by
  refine⟨{h.inv with now:= fun j=> ?_,last:= fun j=> ?_},El h.says (k,a,b), fun x hx=> ?_, ?_⟩
  · simp only[JN];split
    · exact ha
    · exact h.inv.now j
  · simp only[JN];split
    · exact hb
    · exact h.inv.last j
  · rcases List.mem_append.1 hx with q | q
    · exact h.num x (List.mem_filter.1 q).1
    · simp at q; subst q; exact hk
  · unfold putR
    rw[List.map_append]
    refine List.nodup_append.2 ⟨(h.nodup.sublist (List.filter_sublist.map _)), by simp, ?_⟩
    intro x hx y hy e
    obtain⟨z,hz,rfl⟩:=List.mem_map.1 hx
    simp at hy
    have :=(List.mem_filter.1 hz).2
    simp at this
    exact this (e.trans hy)
theorem RInv.count {l:List (Int×Bytes×Bytes)} {D:DS} (h:RInv l D):l.length≤16:= by
  have hs: ∀x∈(l.map (·.1)).map Int.toNat,x∈List.range 16:= by
    intro x hx
    obtain⟨y,hy,rfl⟩:=List.mem_map.1 hx
    obtain⟨z,hz,rfl⟩:=List.mem_map.1 hy
    have :=h.num z hz
    simp;omega
  have hm:((l.map (·.1)).map Int.toNat).Nodup:= by
    refine List.pairwise_map.2 (h.nodup.imp_of_mem ?_)
    intro a b ha hb hne e
    obtain⟨z,hz,rfl⟩:=List.mem_map.1 ha
    obtain⟨y,hy,rfl⟩:=List.mem_map.1 hb
    have :=h.num z hz; have :=h.num y hy
    exact hne (by omega)
  have :=List.Nodup.length_le_of_subset hm hs
  simpa using this
theorem RInv.upd {l:List (Int×Bytes×Bytes)} {D D':DS} (h:RInv l D) (hF:D'.F=D.F) (hi:DInv D'):RInv l D':=⟨hi, fun k=> by rw[hF]; exact h.says k,h.num,h.nodup⟩
end Go.Proofs.YtiibgheijbbmaaaGreatDoor
namespace Go.Proofs.YtiibgheijbbmaaaGreatDoor.M
open Go.RowKit Proofs.Tryz
section
variable {P:Program} {n:Nat} {ops:Array Oper} {Q:Exit→Act→World→Prop} {rest:List Oper} {L:Env} {w:World} {d:Nat} {ty:TypeId} {pos:String} {aft:Array Edge} {As:List Th}
theorem Yw {dst:Option Nat} {x:Operand} {f:Nat} {fs:List Value} {args:List Operand} {vs:List Value} {ts:Array TypeId} {R:Ending→World→Prop} (hx:look L x=some (.func (.func f) fs.toArray #[])) (hf:QW P f=true) (ha:J4 L args=some vs) (hc:Calls P f (fs++vs).toArray w R) (hd:(match dst with | some d=>Nat.blt d n | none=>true)=true)
    (hk: ∀e w',R e w'→ ∃v,e= .returned v∧wl P n ops Q rest (pd dst v L) w'):wl P n ops Q (⟨dst,.call ⟨.value x,args.toArray,ts⟩,ty,pos,aft,none⟩::rest) L w:= by
  unfold wl
  intro a hfr
  refine wpList_plain Qa fun K hK=> ?_
  unfold Oper.wp
  have he:=hfr.evals ha
  have hr:(execOp a.eval ⟨dst,.call ⟨.value x,args.toArray,ts⟩,ty,pos,aft,none⟩).run P w= .ok (.enter f (fs++vs).toArray) w:= by
    simp only[execOp,resolve,hfr.eval hx,Deferred.ofValue,invoke]
    simp [he,Re hf]
  rw[hr]
  refine Calls.mono hc fun e w' hR=> ?_
  obtain⟨v,rfl,h⟩:=hk e w' hR
  unfold wl at h
  exact hK _ _ (h _ (hfr.put dst v hd))
theorem Nb {f:Nat} {fs:List Operand} {vs:List Value} (hx:J4 L fs=some vs):Ev P L w ⟨some d,.makeFunc (.func f) fs.toArray #[],ty,pos,aft,none⟩ (.func (.func f) vs.toArray #[]):= fun ρ hρ=> by
  have :fs.map ρ=vs:= by
    induction fs generalizing vs with
    | nil=> simp [J4]at hx; subst hx;rfl
    | cons y ys ih=>
      simp only[J4]at hx
      cases h1:look L y with
      | none=> simp [h1]at hx
      | some u=>
        cases h2:J4 L ys with
        | none=> simp [h1,h2]at hx
        | some us=> simp [h1,h2]at hx; subst hx; simp [hρ _ _ h1,ih h2]
  simp [execOp,Instr.makeFunc,this]
theorem Wj {f:Nat} {fs:List Operand} {vs:List Value} (hx:J4 L fs=some vs) (hd:Nat.blt d n=true) (hk:wl P n ops Q rest ((d,.func (.func f) vs.toArray #[])::L) w):wl P n ops Q (⟨some d,.makeFunc (.func f) fs.toArray #[],ty,pos,aft,none⟩::rest) L w:=
  Xw hd (Nb hx) hk
end
theorem RD (l:List Int):inC.cells l=l.map intV:= by
  induction l with
  | nil=>rfl
  | cons a l ih=> simp only[RowC.cells,List.flatMap_cons,List.map_cons]at ih⊢; rw[ih];rfl
def R8 (b:Nat):RowC Nat:=⟨fun o=>[ptrV b o],1, by decide, fun _=>rfl, fun _=>rfl⟩
