/- Rows of elements: owned slices and slices that are read, by a codec of the element. Conditions: each rule's own hypotheses. -/
import Derived.Test.YtkgjmhcdacidoaaGreatDoorMap
import Derived.Sort.EncStr
import Derived.Sort.Grow
namespace Go.Proofs.YtkgjmhcdacidoaaGreatDoor.M
open Go.RowKit
structure RowC (α:Type) where
  enc:α→List Value
  size:Nat
  pos:0<size
  len: ∀a,(enc a).length=size
  one: ∀a,QV (enc a)=true
def RowC.cells {α:Type} (C:RowC α) (l:List α):List Value:=l.flatMap C.enc
section
variable {α:Type} {C:RowC α} {l l2:List α} {a:α} {j:Nat}
theorem RowC.cells_len (C:RowC α) (l:List α):(C.cells l).length=l.length*C.size:= by
  induction l with
  | nil=> simp [RowC.cells]
  | cons a l ih=> simp only[RowC.cells,List.flatMap_cons,List.length_append,C.len,List.length_cons]at ih⊢; rw[ih,Nat.add_mul];omega
theorem RowC.cells_one (C:RowC α) (l:List α):QV (C.cells l)=true:=DT (by
  intro v hv
  obtain⟨a,_,h⟩:=List.mem_flatMap.1 hv
  exact WA (C.one a) v h)
theorem RowC.cells_app (C:RowC α) (l l2:List α):C.cells l++C.cells l2=C.cells (l++l2):= by simp [RowC.cells]
theorem RowC.cells_at: ∀{l:List α} {j:Nat},l[j]? =some a→((C.cells l).drop (j*C.size)).take C.size=C.enc a
  | [],j,h=> by simp at h
  | b::l,0,h=> by
    simp at h; subst h
    rw[Nat.zero_mul,List.drop_zero]
    show(C.enc b++C.cells l).take C.size=_
    rw[←C.len b,List.take_left]
  | b::l,j+1,h=> by
    have e:(j+1)*C.size=(C.enc b).length+j*C.size:= by rw[C.len,Nat.add_mul];omega
    show((C.enc b++C.cells l).drop _).take _=_
    rw[e,←List.drop_drop,List.drop_left]
    exact RowC.cells_at (by simpa using h)
theorem RowC.cells_get {o:Nat} {u:Value} (h:l[j]? =some a) (ho:(C.enc a)[o]? =some u):(C.cells l)[j*C.size+o]? =some u:= by
  have h1:=RowC.cells_at (C:=C) h
  rw[←h1,List.getElem?_take]at ho
  split at ho
  · rw[List.getElem?_drop]at ho; exact ho
  · cases ho
theorem RowC.cells_set {X:List Value} (hX:X=C.enc a): ∀{l:List α} {j:Nat},j<l.length→Xz (C.cells l) (j*C.size) X=C.cells (l.set j a)
  | [],j,h=> by simp at h
  | b::l,0,h=> by
    subst hX
    rw[Nat.zero_mul]
    show Xz (C.enc b++C.cells l) 0 (C.enc a)=C.enc a++C.cells l
    unfold Xz
    rw[Nat.zero_add,C.len,←C.len b,List.drop_left];rfl
  | b::l,j+1,h=> by
    have e:(j+1)*C.size=(C.enc b).length+j*C.size:= by rw[C.len,Nat.add_mul];omega
    show Xz (C.enc b++C.cells l) _ _=C.enc b++C.cells (l.set j a)
    rw[e,Vk,RowC.cells_set hX (by simpa using h)]
theorem RowC.cells_take (C:RowC α): ∀(l:List α) (i:Nat),(C.cells l).take (i*C.size)=C.cells (l.take i)
  | [],i=> by simp [RowC.cells]
  | b::l,0=> by simp [RowC.cells]
  | b::l,i+1=> by
    have e:(i+1)*C.size=(C.enc b).length+i*C.size:= by rw[C.len,Nat.add_mul];omega
    show(C.enc b++C.cells l).take _=C.enc b++C.cells (l.take i)
    rw[e,List.take_length_add_append,RowC.cells_take C l i]
end
abbrev rowT {α:Type} (C:RowC α) (v:Value) (l:List α):Th:=W6 v l.length C.size (C.cells l)
theorem Sat.row_cast {α:Type} {C:RowC α} {w:World} {As:List Th} {v:Value} {m size:Nat} {xs:List Value} {l:List α} (h:Sat w (W6 v m size xs::As)) (hm:m=l.length) (hs:size=C.size) (hx:xs=C.cells l):Sat w (rowT C v l::As):= by subst hm hs hx; exact h
def LA (n:Nat) (is:List Nat):List Bool:=(List.range n).map (is.contains ·)
theorem Sat.pick {w:World} {As:List Th} (h:Sat w As) (is:List Nat) (hm:Bh As.length is (LA As.length is)=true):Sat w (Hc As is):= by
  have h1:=h.split is _ hm
  have h2:=h1.drop (Hc As is).length (A:=starL (Uy (LA As.length is) As)) (by simp)
  rw[List.eraseIdx_append_of_length_le (Nat.le_refl _),Nat.sub_self]at h2
  simpa using h2
theorem Sat.row_nil {α:Type} (C:RowC α) {w:World} {As:List Th} (h:Sat w As):Sat w (rowT C (.slice none 0 0) []::As):=
  h.new (Only.refl [] w) (A:=W6 (.slice none 0 0) 0 C.size []) (F':= fun k=>k∈([]:List Nat)) ⟨[],rfl,Own.nil w C.size⟩ (by simp)
def RdL {α:Type} (C:RowC α) (v:Value) (l:List α) (w:World):Prop:= ∃ao cap,v= .slice ao l.length cap∧l.length≤9223372036854775807∧ ∀(i:Nat) (a:α),l[i]? =some a→ ∃b off,ao=some ⟨b,off,none⟩∧ ∀(j:Nat) (u:Value),(C.enc a)[j]? =some u→w.cell? ⟨b,off+i*C.size+j,none⟩=some u
section
variable {α:Type} {C:RowC α} {l:List α} {w:World} {v:Value}
theorem RdL.shape (h:RdL C v l w): ∃ao cap,v= .slice ao l.length cap∧l.length≤9223372036854775807:= by obtain⟨ao,cap,h1,h2,_⟩:=h; exact⟨ao,cap,h1,h2⟩
theorem RdL.get {ao:Option Addr} {n cap i:Nat} {a:α} (h:RdL C (.slice ao n cap) l w) (ha:l[i]? =some a): ∃b off,ao=some ⟨b,off,none⟩∧ ∀(j:Nat) (u:Value),(C.enc a)[j]? =some u→w.cell? ⟨b,off+i*C.size+j,none⟩=some u:= by
  obtain⟨ao',cap',h1,_,h3⟩:=h
  cases h1
  exact h3 i a ha
theorem RdL.nil (C:RowC α) (w:World):RdL C (.slice none 0 0) [] w:=⟨none,0,rfl, by simp, by simp⟩
theorem RdL.lenOf {P:Program} (h:RdL C v l w): ∀w1,(Builtin.lenOf v).run P w1= .ok l.length w1:= by
  obtain⟨ao,cap,rfl,_⟩:=h.shape
  exact TD _ _ _
theorem RdL.isNil {n cap:Nat} (h:RdL C (.slice none n cap) l w):l=[]:= by
  cases l with
  | nil=>rfl
  | cons x l=> obtain⟨b,off,h1,_⟩:=h.get (i:=0) (a:=x) rfl; cases h1
theorem RdL.first {P:Program} (h:RdL C v l w): ∀w1:World,w1.heap=w.heap→(Builtin.firstCells C.size l.length v).run P w1= .ok (C.cells l).toArray w1:= by
  obtain⟨ao,cap,rfl,_⟩:=h.shape
  intro w1 hw
  cases hl:l with
  | nil=> cases ao<;> simp [Builtin.firstCells,RowC.cells,loadCells,loadCellsFrom]
  | cons x l'=>
    obtain⟨b,off,rfl,_⟩:=h.get (i:=0) (a:=x) (by rw[hl];rfl)
    rw[←hl]
    simp only[Builtin.firstCells]
    have :=run_loadCells_list (P:=P) w1 ⟨b,off,none⟩ (C.cells l) (fun j v hv=> by
      rw[ZL]
      have hjl:=(XL hv).1
      rw[C.cells_len]at hjl
      have hq:j/ C.size<l.length:=Nat.div_lt_of_lt_mul (by rw[Nat.mul_comm]; exact hjl)
      have ha:l[j/ C.size]? =some l[j/ C.size]:=Zd hq
      obtain⟨b2,o2,e,hc⟩:=h.get ha
      cases e
      have hr:=Nat.mod_lt j C.pos
      have hm:j/ C.size*C.size+j%C.size=j:= by have :=Nat.div_add_mod j C.size; rw[Nat.mul_comm]; exact this
      have hu:(C.enc l[j/ C.size])[j%C.size]? =some v:= by
        have h1:=RowC.cells_at (C:=C) ha
        rw[←h1,List.getElem?_take,if_pos hr,List.getElem?_drop,hm]; exact hv
      have :=hc _ _ hu
      rw[World.cell?_of_block (w:=w) (by rw[hw])]
      rw[←this,Nat.add_assoc,hm])
    rw[C.cells_len]at this
    exact this
theorem Sat.rd {As:List Th} (hS:Sat w As) (i:Nat) (hi:As[i]? =some (rowT C v l)) (hl:l.length≤9223372036854775807):RdL C v l w:= by
  obtain⟨ao,cap,rfl,_⟩:=hS.own_shape i hi
  refine⟨ao,cap,rfl,hl, fun k a ha=> ?_⟩
  obtain⟨b,cap',hv,_⟩:=hS.own_at i hi (by have :=(XL ha).1;omega)
  cases hv
  exact⟨b,0,rfl, fun j u hu=> by rw[Nat.zero_add]; exact hS.ocell i hi U (RowC.cells_get ha hu)⟩
theorem YD {v:Value} {l:List α} (hl:l.length≤9223372036854775807):Ent (rowT C v l) (RdL C v l):= fun {w G} h=>
  Sat.rd (As:=[rowT C v l]) (w:=w) ⟨G,G, fun _=>False, by simp, fun _ _ h=>h,h,rfl⟩ 0 U hl
end
section
variable {P:Program} {n:Nat} {ops:Array Oper} {Q:Exit→Act→World→Prop} {rest:List Oper} {L:Env} {w:World} {d:Nat} {ty:TypeId} {pos:String} {aft:Array Edge}
variable {α:Type} {C:RowC α} {l:List α} {v:Value} {a:α} {As:List Th}
theorem Xg (C:RowC α) (i j:Nat) (hS:Sat w As) {x y:Operand} {t:Nat} {k:IntKind} {q:Int} (hi:As[i]? =some (rowT C v l)) (hx:look L x=some v) (hy:look L y=some (.int k q)) (hq:q=(j:Int)) (ha:l[j]? =some a) (hs:Ya P t=some C.size) (hd:Nat.blt d n=true)
    (hk: ∀b cap,v= .slice (some ⟨b,0,none⟩) l.length cap→wl P n ops Q rest ((d,ptrV b (j*C.size))::L) w):wl P n ops Q (⟨some d,.indexAddr t x y,ty,pos,aft,none⟩::rest) L w:=
  PW i j hS hi hx hy hq (XL ha).1 hs hd hk
theorem ZG (i j:Nat) (hS:Sat w As) {x:Operand} {t b cap m:Nat} {vs:List Value} (hi:As[i]? =some (rowT C v l)) (hv:v= .slice (some ⟨b,0,none⟩) m cap) (hx:look L x=some (ptrV b (j*C.size))) (ha:l[j]? =some a) (hg:Z5 P t=some true) (hs:ZO P t=some C.size) (hvs:C.enc a=vs) (hd:Nat.blt d n=true)
    (hk:wl P n ops Q rest ((d,.agg vs.toArray)::L) w):wl P n ops Q (⟨some d,.load t x,ty,pos,aft,none⟩::rest) L w:= by
  subst hvs
  exact FB i hS hi hv hx hg hs (RowC.cells_at ha) (C.len a) hd hk
theorem XY (i j o:Nat) (hS:Sat w As) {x:Operand} {t b cap m q:Nat} {u:Value} (hi:As[i]? =some (rowT C v l)) (hv:v= .slice (some ⟨b,0,none⟩) m cap) (hx:look L x=some (ptrV b q)) (hq:q=j*C.size+o) (ha:l[j]? =some a) (hg:Z5 P t=some false) (hu:(C.enc a)[o]? =some u) (hd:Nat.blt d n=true)
    (hk:wl P n ops Q rest ((d,u)::L) w):wl P n ops Q (⟨some d,.load t x,ty,pos,aft,none⟩::rest) L w:= by
  subst hq
  exact Qo hx hg (hS.ocell i hi hv (RowC.cells_get ha hu)) hd hk
theorem W9 (C:RowC α) (i j o:Nat) (hS:Sat w As) {x:Operand} {t b cap m:Nat} {u:Value} {a:α} {l:List α} (hi:As[i]? =some (rowT C (.slice (some ⟨b,0,none⟩) m cap) l)) (ha:l[j]? =some a) (hg:Z5 P t=some false) (hx:look L x=some (ptrV b (0+j*C.size+o))) (hu:(C.enc a)[o]? =some u):Ev P L w ⟨some d,.load t x,ty,pos,aft,none⟩ u:= by
  refine Qm hx hg ?_
  rw[Nat.zero_add]
  exact hS.ocell i hi U (RowC.cells_get ha hu)
theorem Wh (i j:Nat) (a':α) (hS:Sat w As) {x y:Operand} {t b cap m':Nat} {u:Value} (hi:As[i]? =some (rowT C v l)) (hv:v= .slice (some ⟨b,0,none⟩) m' cap) (hx:look L x=some (ptrV b (j*C.size))) (hy:look L y=some u) (hs:ZO P t=some C.size) (hu:u.cells.toList=C.enc a') (hj:j<l.length)
    (hk: ∀w',Sat w' (As.set i (rowT C v (l.set j a')))→wl P n ops Q rest L w'):wl P n ops Q (⟨none,.store t x y,ty,pos,aft,none⟩::rest) L w:= by
  have hfit:j*C.size+C.size≤(C.cells l).length:= by
    rw[C.cells_len]
    have :=Nat.mul_le_mul_right C.size (show j+1≤l.length from hj)
    rw[Nat.add_mul]at this;omega
  refine BX i hS hi hv hx hy hs (by rw[←Array.length_toList,hu,C.len]) (by rw[hu]; exact C.one a') hfit (RowC.cells_set hu hj) ?_
  intro w' h
  refine hk w' ?_
  show Sat w' (As.set i (W6 v (l.set j a').length C.size (C.cells (l.set j a'))))
  rw[List.length_set]
  exact h
theorem Je (i j o:Nat) (a':α) (hS:Sat w As) {x y:Operand} {t b cap m' q:Nat} {u:Value} (hi:As[i]? =some (rowT C v l)) (hv:v= .slice (some ⟨b,0,none⟩) m' cap) (hx:look L x=some (ptrV b q)) (hq:q=j*C.size+o) (hy:look L y=some u) (hs:ZO P t=some 1) (ha:l[j]? =some a) (h1:u.cells.toList=[u]) (ho:o<C.size) (hu:(C.enc a).set o u=C.enc a') (h1':u.oneCell'=true)
    (hk: ∀w',Sat w' (As.set i (rowT C v (l.set j a')))→wl P n ops Q rest L w'):wl P n ops Q (⟨none,.store t x y,ty,pos,aft,none⟩::rest) L w:= by
  subst hq
  have hj:=(XL ha).1
  have hfit:j*C.size+C.size≤(C.cells l).length:= by
    rw[C.cells_len]
    have :=Nat.mul_le_mul_right C.size (show j+1≤l.length from hj)
    rw[Nat.add_mul]at this;omega
  have e:Xz (C.cells l) (j*C.size+o) u.cells.toList=C.cells (l.set j a'):= by
    rw[h1,←RowC.cells_set (C:=C) hu hj]
    have hat:=RowC.cells_at (C:=C) ha
    have hl:=C.len a
    generalize hX:C.cells l=X at hat hfit⊢
    apply List.ext_getElem?
    intro k
    have hA: ∀k,k<C.size→(C.enc a)[k]? =X[j*C.size+k]? := by
      intro k hk
      rw[←hat,List.getElem?_take,if_pos hk,List.getElem?_drop]
    simp only[Xz,List.length_cons,List.length_nil,List.length_set,hl]
    have hT:(X.take (j*C.size)).length=j*C.size:= by rw[List.length_take];omega
    have hT2:(X.take (j*C.size+o)).length=j*C.size+o:= by rw[List.length_take];omega
    by_cases h2:k<j*C.size
    · rw[List.append_assoc,List.getElem?_append_left (by omega),List.append_assoc,List.getElem?_append_left (by omega),List.getElem?_take,List.getElem?_take,if_pos (by omega),if_pos h2]
    · by_cases h3:k<j*C.size+C.size
      · rw[List.append_assoc (X.take (j*C.size)),List.getElem?_append_right (l₁:=X.take (j*C.size)) (by omega),hT,List.getElem?_append_left (l₁:=(C.enc a).set o u) (by simp [hl];omega),List.getElem?_set]
        by_cases h4:o=k -j*C.size
        · rw[if_pos h4,if_pos (by omega),List.append_assoc,List.getElem?_append_right (by omega),hT2, show k -(j*C.size+o)=0 by omega];rfl
        · rw[if_neg h4,hA _ (by omega), show j*C.size+(k -j*C.size)=k by omega]
          by_cases h5:k<j*C.size+o
          · rw[List.append_assoc,List.getElem?_append_left (by omega),List.getElem?_take,if_pos h5]
          · rw[List.append_assoc,List.getElem?_append_right (by omega),hT2,List.getElem?_append_right (by simp;omega),List.getElem?_drop]
            congr 1; simp;omega
      · rw[List.append_assoc,List.getElem?_append_right (by omega),hT2,List.getElem?_append_right (by simp;omega),List.getElem?_drop,List.append_assoc,List.getElem?_append_right (by omega),hT,List.getElem?_append_right (by simp [hl];omega),List.getElem?_drop]
        congr 1; simp [hl];omega
  refine BX i hS hi hv hx hy hs (by rw[←Array.length_toList,h1];rfl) (by rw[h1]; simp [QV,h1']) (by omega) e ?_
  intro w' h
  refine hk w' ?_
  show Sat w' (As.set i (W6 v (l.set j a').length C.size (C.cells (l.set j a'))))
  rw[List.length_set]
  exact h
theorem ZV (C:RowC α) (l:List α) (hS:Sat w As) {t e len:Nat} {z:Value} {parts:List (Nat×Operand)} {vs:List Value} (hx:W8 L (parts.map (·.2))=some vs) (hu:P.underlying t=some (.slice e)) (hi:(P.info? e).map (fun i=>(i.zero,i.size))=some (some z,C.size)) (hlen:Nat.ble (len*C.size) 1000=true) (hzs:z.cells.size=C.size)
    (hok:Ju (len*C.size) ((parts.map (·.1)).map fun i=>(i*C.size,C.size)) vs=true) (hl:l.length=len) (he:Wu (List.replicate len z.cells.toList).flatten ((parts.map (·.1)).map fun i=>(i*C.size,C.size)) vs=C.cells l) (hd:Nat.blt d n=true)
    (hk: ∀b w',Sat w' (rowT C (.slice (some ⟨b,0,none⟩) len len) l::As)→wl P n ops Q rest ((d,.slice (some ⟨b,0,none⟩) len len)::L) w'):wl P n ops Q (⟨some d,.buildSlice t len parts.toArray,ty,pos,aft,none⟩::rest) L w:= by
  refine BP hS hx hu hi hlen hzs hok hd ?_
  intro b w' h
  exact hk b w' (h.row_cast hl.symm U he)
theorem Jf (C:RowC α) (i:Nat) {l2:List α} (hS:Sat w As) {t t2 e bytes:Nat} {s x:Operand} {z xv:Value} {d2:TypeDesc} (hi:As[i]? =some (rowT C v l)) (hs:look L s=some v) (hx:look L x=some xv) (hr:RdL C xv l2 w) (hu:P.underlying t=some (.slice e)) (hu2:P.underlying t2=some d2) (hd2: ∀k,d2≠ .int k)
    (hif:(P.info? e).map (fun i=>(i.zero,i.size,i.bytes))=some (some z,C.size,bytes)) (hz:z.cells.size=C.size) (hb:(l.length+l2.length)*bytes≤140737488355328) (hd:Nat.blt d n=true) (hm:l.length+l2.length≤9223372036854775807)
    (hk: ∀v' w',Sat w' (As.set i (rowT C v' (l++l2)))→wl P n ops Q rest ((d,v')::L) w'):wl P n ops Q (⟨some d,.call ⟨.builtin .append, #[s,x], #[t,t2]⟩,ty,pos,aft,none⟩::rest) L w:= by
  refine Sc i hS hi hs hx hu hu2 hd2 hif hz C.pos hr.lenOf hr.first (C.cells_len l2) (C.cells_one l2) hb hm hd ?_
  intro v' w' h
  refine hk v' w' ?_
  show Sat w' (As.set i (W6 v' (l++l2).length C.size (C.cells (l++l2))))
  rw[List.length_append,←C.cells_app]
  exact h
end
def Rj (tmps:Array Value):ResultVar→Sem Value
  | .tmp t=>pure (tmps.getD t undef)
  | .cell a t=>do loadVar t (←asAddr (tmps.getD a undef))
def Ul (P:Program) (n:Nat) (L:Env) (w:World) (r:ResultVar) (v:Value):Prop:= ∀a,Fr n L a→(Rj a.tmps r).run P w= .ok v w
section
variable {P:Program} {n:Nat} {L:Env} {w:World} {Q:Exit→Act→World→Prop}
theorem Vl {t:Nat} {v:Value} (h:Xm L t=some v):Ul P n L w (.tmp t) v:= fun a ha=> by
  have :=ha.get t v h; simp [Rj,this]
theorem Tr {x t b o:Nat} {v:Value} (h:Xm L x=some (ptrV b o)) (ha:Z5 P t=some false) (hc:w.cell? ⟨b,o,none⟩=some v):Ul P n L w (.cell x t) v:= fun a hf=> by
  have :=hf.get x _ h; simp [Rj,this,asAddr,loadVar,VT ha,load,Sem.run,hc]
theorem Tq {x t b o m:Nat} {cs vs:List Value} (h:Xm L x=some (ptrV b o)) (ha:Z5 P t=some true) (hs:ZO P t=some m) (hb:Blk w b cs) (hm:o+m≤cs.length) (hvs:(cs.drop o).take m=vs):Ul P n L w (.cell x t) (.agg vs.toArray):= fun a hf=> by
  subst hvs
  have :=hf.get x _ h; simp [Rj,this,asAddr,loadVar,HK ha,Zm hs,WP hb o m hm]
theorem HW (fn:Func) (tmps:Array Value):results fn tmps=(do let vs←fn.results.mapM (Rj tmps);pure (if h:vs.size=1 then vs[0]else .tuple vs)):= by
  have e:(Rj tmps)=(fun | .tmp t=>pure (tmps.getD t undef) | .cell a t=>do loadVar t (←asAddr (tmps.getD a undef)):ResultVar→Sem Value):= by
    funext r; cases r<;>rfl
  rw[e];rfl
theorem finR2 {fn:Func} {R:Ending→World→Prop} {r r2:ResultVar} {v v2:Value} {e:Exit} (he:e= .normal∨e= .ret) (hf:fn.results= #[r,r2]) (hv:Ul P n L w r v) (hv2:Ul P n L w r2 v2) (h:R (.returned (.tuple #[v,v2])) w):qs n (bodyPost P fn R) e L w:=
  Bv he (fun a ha=> by rw[HW,hf]; simp [hv a ha,hv2 a ha]) h
theorem Ec {fn:Func} {R:Ending→World→Prop} {r r2 r3:ResultVar} {v v2 v3:Value} {e:Exit} (he:e= .normal∨e= .ret) (hf:fn.results= #[r,r2,r3]) (hv:Ul P n L w r v) (hv2:Ul P n L w r2 v2) (hv3:Ul P n L w r3 v3) (h:R (.returned (.tuple #[v,v2,v3])) w):qs n (bodyPost P fn R) e L w:=
  Bv he (fun a ha=> by rw[HW,hf]; simp [hv a ha,hv2 a ha,hv3 a ha]) h
end
def byC:RowC UInt8:=⟨fun c=>[.int .u8 (c.toNat:Int)],1, by decide, fun _=>rfl, fun _=>rfl⟩
theorem Vf (l:List UInt8):byC.cells l=Ze l:= by
  induction l with
  | nil=>rfl
  | cons c l ih=> show[_]++byC.cells l=_; rw[ih];rfl
section
variable {P:Program} {n:Nat} {ops:Array Oper} {Q:Exit→Act→World→Prop} {rest:List Oper} {L:Env} {w:World} {d:Nat} {ty:TypeId} {pos:String} {aft:Array Edge} {As:List Th}
theorem R3 (hS:Sat w As) {x:Operand} {sT dT e:Nat} {s:List UInt8} (hx:look L x=some (strV s)) (hs:P.underlying sT=some .string) (hd:P.underlying dT=some (.slice e)) (he:P.underlying e=some (.int .u8)) (hdd:Nat.blt d n=true)
    (hk: ∀v w',Sat w' (rowT byC v s::As)→wl P n ops Q rest ((d,v)::L) w'):wl P n ops Q (⟨some d,.convert sT dT x,ty,pos,aft,none⟩::rest) L w:= by
  refine XG U hdd (fun a ha=>N2 sT dT x U (ha.eval hx) hs hd he) ?_
  rintro v w' ⟨cap,hc,rfl,hb,ho,hsz⟩
  have hl:(⟨s.toArray⟩:ByteArray).size=s.length:= by simp [ByteArray.size]
  rw[hl]at hc hb⊢
  have e1:(⟨s.toArray⟩:ByteArray).data.toList=s:=rfl
  rw[e1]at hb
  refine hk _ _ (hS.new ho (F':= fun k=>k∈[w.heap.size]) (A:=W6 _ _ _ _) ⟨[w.heap.size],rfl,HZ (sp:=Ze (List.replicate (cap -s.length) 0)) ?_ (byC.cells_len s) hc ?_⟩ (fun k hk=> by simp at hk;omega))
  · rw[Vf];simpa [Ze]using hb
  · rw[Vf]
    have :byC.size=1:=rfl
    rw[this,List.length_append,H1,H1,List.length_replicate];omega
theorem DF (i:Nat) (hS:Sat w As) {x:Operand} {sT dT e:Nat} {v:Value} {l:List UInt8} (hi:As[i]? =some (rowT byC v l)) (hx:look L x=some v) (hs:P.underlying sT=some (.slice e)) (he:P.underlying e=some (.int .u8)) (hd:P.underlying dT=some .string):Ev P L w ⟨some d,.convert sT dT x,ty,pos,aft,none⟩ (strV l):= fun ρ hρ=> by
  obtain⟨foot,hown⟩:=hS.own i hi
  obtain⟨hl,⟨rfl,h0,rfl⟩ | ⟨b,cap,sp,rfl,hc,hb,hlen,rfl⟩⟩:=hown
  · have hl0:l=[]:=List.eq_nil_of_length_eq_zero h0
    subst hl0
    simp [execOp,hρ _ _ hx,run_convert_bytes_string w sT dT e none 0 0 hs he hd,Conv.bytesToString]
    rfl
  · refine ev_strB i hS l hi U hx hs he hd ?_ U ρ hρ
    rw[List.drop_zero,Vf,List.take_of_length_le (by rw[H1]; exact Nat.le_refl _)]
end
theorem Ev.gd {P:Program} {L:Env} {w:World} {d:Option Nat} {op:Op} {ty:TypeId} {pos:String} {aft:Array Edge} {gd:Option (Nat×Bool)} {v:Value} (h:Ev P L w ⟨d,op,ty,pos,aft,none⟩ v):Ev P L w ⟨d,op,ty,pos,aft,gd⟩ v:=h
def RdX {α:Type} (enc:α→List Value) (size:Nat) (φ:α→World→Prop) (v:Value) (l:List α) (w:World):Prop:= ∃ao cap,v= .slice ao l.length cap∧l.length≤9223372036854775807∧ ∀(i:Nat) (a:α),l[i]? =some a→
  (∃b off,ao=some ⟨b,off,none⟩∧ ∀(j:Nat) (u:Value),(enc a)[j]? =some u→w.cell? ⟨b,off+i*size+j,none⟩=some u)∧φ a w
section
variable {α:Type} {enc:α→List Value} {size:Nat} {φ:α→World→Prop} {l:List α} {w:World} {v:Value}
theorem RdX.shape (h:RdX enc size φ v l w): ∃ao cap,v= .slice ao l.length cap∧l.length≤9223372036854775807:= by obtain⟨ao,cap,h1,h2,_⟩:=h; exact⟨ao,cap,h1,h2⟩
theorem RdX.get {ao:Option Addr} {n cap i:Nat} {a:α} (h:RdX enc size φ (.slice ao n cap) l w) (ha:l[i]? =some a):
    (∃b off,ao=some ⟨b,off,none⟩∧ ∀(j:Nat) (u:Value),(enc a)[j]? =some u→w.cell? ⟨b,off+i*size+j,none⟩=some u)∧φ a w:= by
  obtain⟨ao',cap',h1,_,h3⟩:=h
  cases h1
  exact h3 i a ha
theorem RdX.cells {b off n cap i:Nat} {a:α} (h:RdX enc size φ (.slice (some ⟨b,off,none⟩) n cap) l w) (ha:l[i]? =some a): ∀(j:Nat) (u:Value),(enc a)[j]? =some u→w.cell? ⟨b,off+i*size+j,none⟩=some u:= by
  obtain⟨⟨b2,o2,e,hc⟩,_⟩:=h.get ha
  cases e; exact hc
end
def Zl (s:List UInt8):Value:=strV s
theorem FR {s t:List UInt8} (h:strV s=strV t):s=t:= by
  simp only[strV,Value.string.injEq,ByteArray.mk.injEq]at h
  simpa using h
theorem SD {P:Program} {kt:TypeId} (hu:P.underlying kt=some .string):KeyOk P kt Zl where
  inj:= fun a b h=>FR h
  bits:= fun a=>MapKept.sameBits_self (d:= .string) (by simp [MapKept.IsKey,Zl,strV]) _
  check:= fun e a w=>MapKept.run_checkKey hu (by simp [MapKept.IsKey,Zl,strV]) e 9999
  find:= fun a l w h=> by
    rcases MapKept.findNow_spec (d:= .string) (k:=Zl a) (by simp [MapKept.IsKey,Zl,strV]) l 0 (fun x hx=> by obtain⟨b,hb⟩:=h x hx; rw[hb]; simp [MapKept.IsKey,Zl,strV])with⟨h1,h2⟩ | ⟨j,e,h1,h2,h3⟩
    · exact .inr ⟨h2,MapKept.run_findKey hu h1⟩
    · refine .inl ⟨j,e,h2,h3, ?_⟩
      rw[Nat.zero_add]at h1
      exact MapKept.run_findKey hu h1
def Card {κ:Type} (f:κ→Option Value) (n:Nat):Prop:= ∃ks:List κ,ks.Nodup∧ks.length=n∧ ∀k,f k≠none↔k∈ks
theorem Card.zero {κ:Type} {f:κ→Option Value} {n:Nat} (h:Card f n):n=0↔ ∀k,f k=none:= by
  obtain⟨ks,_,h2,h3⟩:=h
  constructor
  · intro h0 k
    have :ks=[]:=List.eq_nil_of_length_eq_zero (by omega)
    subst this
    by_cases hq:f k=none
    · exact hq
    · exact absurd ((h3 k).1 hq) (by simp)
  · intro h
    cases ks with
    | nil=>simpa using h2.symm
    | cons k ks=> exact absurd (h k) ((h3 k).2 (by simp))
theorem Card.same {κ:Type} {f g:κ→Option Value} {n m:Nat} (h:Card f n) (h':Card g m) (e: ∀k,f k=none↔g k=none):n=m:= by
  obtain⟨ks,h1,h2,h3⟩:=h
  obtain⟨js,g1,g2,g3⟩:=h'
  have s1: ∀x∈ks,x∈js:= fun x hx=>(g3 x).1 fun q=>((h3 x).2 hx) ((e x).2 q)
  have s2: ∀x∈js,x∈ks:= fun x hx=>(h3 x).1 fun q=>((g3 x).2 hx) ((e x).1 q)
  have l1:=List.Nodup.length_le_of_subset h1 s1
  have l2:=List.Nodup.length_le_of_subset g1 s2
  omega
theorem MapAt.card {κ:Type} {kv:κ→Value} {w:World} {b:Nat} {es:Array MapEntry} {clock:Nat} {f:κ→Option Value} (h:MapAt kv w b es clock) (hinj: ∀a b,kv a=kv b→a=b) (hr:Reads kv es f):Card f es.size:= by
  have hk: ∀(l:List MapEntry),(∀x∈l,∃a,x.key=kv a)→ ∃ks:List κ,l.map (·.key)=ks.map kv:= by
    intro l
    induction l with
    | nil=> intro _; exact⟨[],rfl⟩
    | cons x l ih=>
      intro hl
      obtain⟨a,ha⟩:=hl x (by simp)
      obtain⟨ks,hks⟩:=ih fun y hy=>hl y (by simp [hy])
      exact⟨a::ks, by simp [ha,hks]⟩
  obtain⟨ks,hks⟩:=hk es.toList h.keys
  refine⟨ks, ?_, ?_, fun k=> ?_⟩
  · have hp:(es.toList.map (·.key)).Nodup:=h.stamped.2.2
    rw[hks,List.Nodup,List.pairwise_map]at hp
    exact hp.imp fun hne e=>hne (by rw[e])
  · have :=congrArg List.length hks
    simpa using this.symm
  · constructor
    · intro hne
      cases hq:f k with
      | none=> exact absurd hq hne
      | some v=>
        obtain⟨e,he,hke,_⟩:=(hr k v).1 hq
        have :kv k∈ks.map kv:= by rw[←hks,←hke]; exact List.mem_map.2 ⟨e,he,rfl⟩
        obtain⟨j,hj,hjk⟩:=List.mem_map.1 this
        rw[←hinj _ _ hjk]; exact hj
    · intro hm
      have :kv k∈es.toList.map (·.key):= by rw[hks]; exact List.mem_map.2 ⟨k,hm,rfl⟩
      obtain⟨e,he,hke⟩:=List.mem_map.1 this
      rw[(hr k e.val).2 ⟨e,he,hke,rfl⟩]; simp
section
variable {κ:Type} {kv:κ→Value}
variable {P:Program} {n:Nat} {ops:Array Oper} {Q:Exit→Act→World→Prop} {rest:List Oper} {L:Env} {w:World} {d:Nat} {ty:TypeId} {pos:String} {aft:Array Edge} {As:List Th}
theorem WG {mt t2 kt et:TypeId} {x y:Operand} {b:Nat} {f:κ→Option Value} {k:κ} (i:Nat) (hS:Sat w As) (K:KeyOk P kt kv) (hm:P.underlying mt=some (.map kt et)) (hi:As[i]? =some (Q6 kv b f)) (hx:look L x=some (.map (some b))) (hy:look L y=some (kv k)) {dst:Option Nat} (hd:dOk n dst=true)
    (hk: ∀w',Sat w' (As.set i (Q6 kv b (upd f k none)))→wl P n ops Q rest (pd dst (.tuple #[]) L) w'):wl P n ops Q (⟨dst,.call ⟨.builtin .delete, #[x,y], #[mt,t2]⟩,ty,pos,aft,none⟩::rest) L w:= by
  obtain⟨es,c,h1,h2⟩:=hS.map i hi
  refine XG U (by cases dst<;> exact hd) (fun a ha=>Cj mt t2 x y U K hm h1 (ha.eval hx) (ha.eval hy)) ?_
  rintro _ w' ⟨rfl,es',hes,h3,h4,_⟩
  refine hk w' (hS.map_set i hi h3 ?_ h4)
  intro j u
  by_cases hj:j=k
  · subst hj
    rw[Z0]
    constructor
    · intro e; cases e
    · rintro⟨e,he,hke,_⟩; exact absurd hke ((hes e).1 he).2
  · rw[Wp hj,h2 j u]
    constructor
    · rintro⟨e,he,hke,hv⟩
      exact⟨e,(hes e).2 ⟨he, fun q=>hj (K.inj _ _ (hke.symm.trans q))⟩,hke,hv⟩
    · rintro⟨e,he,hke,hv⟩
      exact⟨e,((hes e).1 he).1,hke,hv⟩
theorem ev_lenM {t kt et:TypeId} {x:Operand} {b:Nat} {f:κ→Option Value} {m:Nat} (i:Nat) (hS:Sat w As) (hm:P.underlying t=some (.map kt et)) (hinj: ∀a b,kv a=kv b→a=b) (hi:As[i]? =some (Q6 kv b f)) (hx:look L x=some (.map (some b))) (hc:Card f m):Ev P L w ⟨some d,.call ⟨.builtin .len, #[x], #[t]⟩,ty,pos,aft,none⟩ (.int .i64 (m:Int)):= fun ρ hρ=> by
  obtain⟨es,c,h1,h2⟩:=hS.map i hi
  have e:m=es.size:=hc.same (h1.card hinj h2) fun _=>Iff.rfl
  subst e
  simp [execOp,hρ _ _ hx,resolve,invoke,builtin,Builtin.len_,run_underlying hm,MapKept.run_getObj_map h1.blk,goInt]
theorem wl_lenM {t kt et:TypeId} {x:Operand} {b:Nat} {f:κ→Option Value} (i:Nat) (hS:Sat w As) (hm:P.underlying t=some (.map kt et)) (hinj: ∀a b,kv a=kv b→a=b) (hi:As[i]? =some (Q6 kv b f)) (hx:look L x=some (.map (some b))) (hd:Nat.blt d n=true)
    (hk: ∀m:Nat,Card f m→wl P n ops Q rest ((d,.int .i64 (m:Int))::L) w):wl P n ops Q (⟨some d,.call ⟨.builtin .len, #[x], #[t]⟩,ty,pos,aft,none⟩::rest) L w:= by
  obtain⟨es,c,h1,h2⟩:=hS.map i hi
  have hc:=h1.card hinj h2
  exact Xv hd (ev_lenM i hS hm hinj hi hx hc) (hk _ hc)
end
def Y3 (c:UInt8):Value:= .int .u8 (c.toNat:Int)
section
variable {P:Program} {n:Nat} {ops:Array Oper} {Q:Exit→Act→World→Prop} {rest:List Oper} {L:Env} {w:World} {d:Nat} {ty:TypeId} {pos:String} {aft:Array Edge} {t t2:TypeId} {x y:Operand} {a b:Int} {yk:IntKind}
theorem SQ {sT dT:TypeId} {ds:TypeDesc} {c:UInt8} (hs:P.underlying sT=some ds) (ht:P.underlying dT=some (.int .i64)) (hx:look L x=some (.int .u8 (c.toNat:Int))):Ev P L w ⟨some d,.convert sT dT x,ty,pos,aft,none⟩ (.int .i64 (c.toNat:Int)):=
  DH hs ht hx (by have :=c.toNat_lt; exact V5 (by omega) (by omega))
theorem PZ {sT dT:TypeId} {ds:TypeDesc} {c:UInt8} (hs:P.underlying sT=some ds) (ht:P.underlying dT=some (.int .i64)) (hx:look L x=some (.int .u8 (c.toNat:Int))) (hd:Nat.blt d n=true) (hk:wl P n ops Q rest ((d,.int .i64 (c.toNat:Int))::L) w):wl P n ops Q (⟨some d,.convert sT dT x,ty,pos,aft,none⟩::rest) L w:=Xv hd (SQ hs ht hx) hk
theorem wrap_u8 (m:Nat):IntKind.u8.wrap (m:Int)=((UInt8.ofNat m).toNat:Int):= by
  simp [IntKind.wrap,IntKind.signed,IntKind.bits]
theorem Ca {sT dT:TypeId} {ds:TypeDesc} {k:IntKind} {a:Int} (m:Nat) (hs:P.underlying sT=some ds) (ht:P.underlying dT=some (.int .u8)) (hx:look L x=some (.int k a)) (ha:a=(m:Int)):Ev P L w ⟨some d,.convert sT dT x,ty,pos,aft,none⟩ (.int .u8 ((UInt8.ofNat m).toNat:Int)):=
  DH hs ht hx (by rw[ha]; exact wrap_u8 m)
theorem R4 {sT dT:TypeId} {ds:TypeDesc} {k:IntKind} {a:Int} (m:Nat) (hs:P.underlying sT=some ds) (ht:P.underlying dT=some (.int .u8)) (hx:look L x=some (.int k a)) (ha:a=(m:Int)) (hd:Nat.blt d n=true) (hk:wl P n ops Q rest ((d,.int .u8 ((UInt8.ofNat m).toNat:Int))::L) w):wl P n ops Q (⟨some d,.convert sT dT x,ty,pos,aft,none⟩::rest) L w:=Xv hd (Ca m hs ht hx ha) hk
end
end Go.Proofs.YtkgjmhcdacidoaaGreatDoor.M
namespace Go.Proofs.YtkgjmhcdacidoaaGreatDoor
open Go.RowKit M
abbrev Bs:=List UInt8
structure WS where
  cells:Bs→Bs
  objs:Bs→Int→Option Bs
  logs:Bs→Bs
  time:Int
def CJ:Bs:=List.replicate 64 0
def Lw (o:Option Bs):Bs:=o.getD CJ
structure PagesOk (O:Bs→Int→Option Bs):Prop where
  ok: ∀n p s,O n p=some s→s.length=64∧s≠CJ∧0≤p∧p<256
theorem PagesOk.len {O:Bs→Int→Option Bs} (h:PagesOk O) (n:Bs) (p:Int):(Lw (O n p)).length=64:= by
  unfold Lw
  cases hq:O n p with
  | none=>rfl
  | some s=> exact(h.ok n p s hq).1
structure ObjL (L:List (Bs×Nat)) (O:Bs→Int→Option Bs):Prop where
  nodup:(L.map (·.1)).Nodup
  has: ∀n,n∈L.map (·.1)↔ ∃p,O n p≠none
section
variable {w:World} {As:List Th}
theorem big_out {Xs:List Th} {i:Nat} {A:Th} (h:Sat w (starL Xs::As)) (hi:Xs[i]? =some A):Sat w (A::starL (Xs.eraseIdx i)::As):= by
  have h1:=h.flat.perm ((D0 hi).append_right As)
  have h2:Sat w ([A]++(Xs.eraseIdx i++As)):= by simpa using h1
  have h3:=(h2.perm List.perm_append_comm)
  rw[List.append_assoc]at h3
  exact(h3.fold.perm (List.Perm.cons _ List.perm_append_comm)).perm (List.Perm.swap _ _ _)
theorem big_in {Xs:List Th} {i:Nat} {A:Th} (h:Sat w (A::starL Xs::As)):Sat w (starL (A::Xs)::As):= by
  have h1:=(h.perm (List.Perm.swap _ _ _)).flat
  exact(h1.perm List.perm_middle).fold (As:=A::Xs)
theorem ET {Xs Ys:List Th} (h:Sat w (starL Xs::As)) (hp:Xs.Perm Ys):Sat w (starL Ys::As):=(h.flat.perm (hp.append_right As)).fold
end
def setO (O:Bs→Int→Option Bs) (n:Bs) (p:Int) (s:Bs):Bs→Int→Option Bs:= fun m q=> if m=n∧q=p then(if s=CJ then none else some s)else O m q
theorem PagesOk.set {O:Bs→Int→Option Bs} (h:PagesOk O) {n:Bs} {p:Int} {s:Bs} (hs:s.length=64) (hp:0≤p∧p<256):PagesOk (setO O n p s):= by
  refine⟨fun m q t ht=> ?_⟩
  unfold setO at ht
  split at ht
  · rename_i hc
    split at ht
    · cases ht
    · rename_i hz; cases ht; exact⟨hs,hz, by omega, by omega⟩
  · exact h.ok m q t ht
end Go.Proofs.YtkgjmhcdacidoaaGreatDoor
namespace Go.Proofs.YtkgjmhcdacidoaaGreatDoor.M
open Go.RowKit Go.Sort
def stC:RowC (List UInt8):=⟨fun s=>[strV s],1, by decide, fun _=>rfl, fun _=>rfl⟩
theorem Rf (l:List (List UInt8)):stC.cells l=l.map strV:= by induction l with | nil=>rfl | cons a l ih=> simp only[RowC.cells,List.flatMap_cons,List.map_cons]at ih⊢; rw[ih];rfl
theorem Sat.belowAll {w w':World} {As:List Th} (h:Sat w As) (hb:RowKit.Below w.heap.size w w'):Sat w' As:=h.only ⟨hb.os,hb.tape,hb.output,hb.size, fun k hk _=>hb.block k hk⟩
theorem Cr {P:Program} {f:Nat} {args:Array Value} {w:World} {v:Value} {As:List Th} (hS:Sat w As) (h:Calls P f args w fun e w'=>e= .returned v∧RowKit.Below w.heap.size w w'):Calls P f args w (Ret fun u w'=>u=v∧Sat w' As):=
  h.mono fun e w' ⟨h1,h2⟩=>⟨v,h1,rfl,hS.belowAll h2⟩
def Wl (l:List (List UInt8)):List (List UInt8):=l.mergeSort fun x y=>decide (x≤y)
theorem GQ (l:List (List UInt8)):(Wl l).Perm l:=List.mergeSort_perm _ _
theorem YQ (l:List (List UInt8)):(Wl l).length=l.length:=(GQ l).length_eq
theorem Mm (d xs:List (List UInt8)) (sp:List Value) (h:d.length=xs.length):(putCells encStr 0 d.toArray (xs.map strV++sp).toArray)=(d.map strV++sp).toArray:= by
  apply Array.ext_getElem?
  intro k
  unfold putCells
  simp only[Array.getElem?_mapIdx,List.getElem?_toArray,Nat.zero_le,true_and,Nat.zero_add,Nat.sub_zero,List.size_toArray]
  by_cases hk:k<d.length
  · rw[List.getElem?_append_left (by simpa [←h]using hk),List.getElem?_append_left (by simpa using hk)]
    simp [hk,h▸hk,encStr,strV]
  · rw[List.getElem?_append_right (by simp;omega),List.getElem?_append_right (by simp;omega)]
    have hk': ¬k<xs.length:= by omega
    simp only[List.length_map,h,hk',if_false,Option.map_id']
theorem N7 {P:Program} {f:Nat}
    (hsome: ∀(blk off cap:Nat) (ss:List (List UInt8)) (w:World),Holds encStr w blk off ss.toArray→blk<w.heap.size→ss.length<4611686018427387904→Calls P f #[.slice (some ⟨blk,off,none⟩) ss.length cap] w fun e w'=>e= .returned (.tuple #[])∧ ∃n os,w'=grow (putRow encStr (Go.Sort.ahead w n) blk off (ss.mergeSort fun x y=>decide (x≤y)).toArray) os)
    (hnone: ∀(p:Option Addr) (cap:Nat) (w:World),Calls P f #[.slice p 0 cap] w fun e w'=>e= .returned (.tuple #[])∧w'=w)
    {w:World} {v:Value} {l:List (List UInt8)} {As:List Th} (hS:Sat w (rowT stC v l::As)) (hl:l.length<4611686018427387904):Calls P f #[v] w (Ret fun u w'=>u= .tuple #[]∧Sat w' (rowT stC v (Wl l)::As)):= by
  obtain⟨foot,hlen,h⟩:=hS.own 0 rfl
  rcases h with⟨rfl,hn,hf⟩ | ⟨b,cap,sp,rfl,hcap,hb,hsz,hf⟩
  · have :l=[]:=List.eq_nil_of_length_eq_zero hn
    subst this
    exact(hnone none 0 w).mono fun e w' ⟨h1,h2⟩=>⟨_,h1,rfl, by rw[h2];simpa [Wl]using hS⟩
  · have hH:Holds encStr w b 0 l.toArray:= fun j hj=> by
      have hj':j<l.length:= by simpa using hj
      rw[Rf]at hb
      refine⟨?_, ?_⟩
      · rw[Nat.zero_add]
        refine hb.cell ?_
        rw[List.getElem?_append_left (by simpa using hj')]
        simp [hj',encStr,strV]
      · exact hb.free _ (by simp;omega)
    refine(hsome b 0 cap l w hH hb.lt hl).mono fun e w' ⟨h1,n,os,h2⟩=>⟨_,h1,rfl, ?_⟩
    have hlt:=hb.lt
    have hheap: ∀k,k<w.heap.size→k≠b→w'.heap[k]? =w.heap[k]? := fun k hk hne=> by
      rw[h2,heap_grow_old _ _ (by simpa using hk)]
      simp only[putRow,mapBlock,heap_ahead,Array.getElem?_modify]
      rw[if_neg (fun q=>hne q.symm)]
    obtain⟨T,lo,hi,hc,hfz⟩:=hb
    have hnew:w'.heap[b]? =some (.cells ((Wl l).map strV++sp).toArray T (lo,hi)):= by
      rw[h2,heap_grow_old _ _ (by simpa using hlt)]
      simp only[putRow,mapBlock,heap_ahead,Array.getElem?_modify,if_pos,hc,Option.map_some,onCells,Rf]
      rw[show(l.mergeSort fun x y=>decide (x≤y))=Wl l from rfl,Mm _ _ _ (YQ l)]
    have ho:Only [b] w w':= by
      refine⟨?_, ?_, ?_, ?_, fun k hk hn=>hheap k hk (by simpa using hn)⟩
      · rw[h2];rfl
      · rw[h2];rfl
      · rw[h2];rfl
      · rw[h2]; simp
    have hfin:=hS.own_set (w':=w') 0 U (v':= .slice (some ⟨b,0,none⟩) l.length cap) (n':=l.length) (size':=1) (xs':=stC.cells (Wl l)) (fun foot' g=> by
      obtain⟨_,g⟩:=g
      rcases g with⟨g0,_⟩ | ⟨b',cap',sp',g0,g1,g2,g3,g4⟩
      · cases g0
      · simp only[Value.slice.injEq,Option.some.injEq,Addr.mk.injEq,and_true,true_and]at g0
        obtain⟨rfl,rfl⟩:=g0
        refine⟨[b],⟨?_,.inr ⟨b,cap,sp,U,hcap,⟨T,lo,hi, ?_, ?_⟩, ?_,U⟩⟩, ?_, ?_⟩
        · rw[stC.cells_len,YQ];rfl
        · rw[Rf]; exact hnew
        · rcases hfz with q | q
          · exact .inl q
          · refine .inr ?_
            simp only[List.length_append,stC.cells_len,YQ]at q⊢; exact q
        · simp only[List.length_append,stC.cells_len,YQ]at hsz⊢; exact hsz
        · rw[g4]; exact ho
        · rw[g4]; intro k hk; exact .inl hk)
    have e:(Wl l).length=l.length:=YQ l
    show Sat w' (W6 _ (Wl l).length 1 _::As)
    rw[e]; exact hfin
