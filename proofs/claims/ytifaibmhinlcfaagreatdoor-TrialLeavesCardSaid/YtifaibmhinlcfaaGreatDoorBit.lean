/- Rules for shifts and for | of numbers whose bits lie apart. Conditions: each rule's own hypotheses. -/
import Derived.Test.YtifaibmhinlcfaaGreatDoorOp4
import Derived.Sort.EncStr
import Derived.Sort.Grow
namespace Go.Proofs.YtifaibmhinlcfaaGreatDoor.M
open Go.RowKit Proofs.Tryz
variable {c:UInt8} {dT sT:TypeId} {ds:TypeDesc} {k:IntKind}
section
variable {P:Program} {n:Nat} {ops:Array Oper} {Q:Exit→Act→World→Prop} {rest:List Oper} {L:Env} {w:World} {d:Nat} {ty:TypeId} {pos:String} {aft:Array Edge} {t t2:TypeId} {x y:Operand} {a b:Int} {yk:IntKind}
theorem I7 (a:P.underlying sT=some ds) (b:P.underlying dT=some (.int .i64)) (e:look L x=some (.int .u8 (c.toNat:Int))):Ev P L w ⟨some d,.convert sT dT x,ty,pos,aft,none⟩ (.int .i64 (c.toNat:Int)):=
  Ny a b e (by have :=c.toNat_lt;exact VP (by omega) (by omega))
theorem Ow (a:P.underlying sT=some ds) (b:P.underlying dT=some (.int .i64)) (e:look L x=some (.int .u8 (c.toNat:Int))) (hd:Nat.blt d n=true) (f:wl P n ops Q rest ((d,.int .i64 (c.toNat:Int))::L) w):wl P n ops Q (⟨some d,.convert sT dT x,ty,pos,aft,none⟩::rest) L w:=Xp hd (I7 a b e) f
theorem wrap_u8 (m:Nat):IntKind.u8.wrap (m:Int)=((UInt8.ofNat m).toNat:Int):=by
  simp [IntKind.wrap,IntKind.signed,IntKind.bits]
theorem Kr {a:Int} (m:Nat) (b:P.underlying sT=some ds) (c:P.underlying dT=some (.int .u8)) (e:look L x=some (.int k a)) (f:a=(m:Int)):Ev P L w ⟨some d,.convert sT dT x,ty,pos,aft,none⟩ (.int .u8 ((UInt8.ofNat m).toNat:Int)):=
  Ny b c e (by rw[f];exact wrap_u8 m)
theorem VT {a:Int} (m:Nat) (b:P.underlying sT=some ds) (c:P.underlying dT=some (.int .u8)) (e:look L x=some (.int k a)) (f:a=(m:Int)) (hd:Nat.blt d n=true) (g:wl P n ops Q rest ((d,.int .u8 ((UInt8.ofNat m).toNat:Int))::L) w):wl P n ops Q (⟨some d,.convert sT dT x,ty,pos,aft,none⟩::rest) L w:=Xp hd (Kr m b c e f) g
end
end Go.Proofs.YtifaibmhinlcfaaGreatDoor.M
namespace Go.Proofs.YtifaibmhinlcfaaGreatDoor
open Go.RowKit M Proofs.Tryz
variable {A:Th} {Xs:List Th} {b i m p:Nat}
abbrev Bs:=List UInt8
variable {L:List (Bs×Nat)} {O:Bs→Int→Option Bs} {c:Bs→Bs} {k n:Bs}
structure WS where
  cells:Bs→Bs
  objs:Bs→Int→Option Bs
  logs:Bs→Bs
  time:Int
variable {W:WS}
def Wz:Bs:=List.replicate 64 0
def Jl (s:Bs):Value:= .agg (s.map XV).toArray
def XD (c:Bs->Bs) (k:Bs):Option Value:= if c k=[]then none else some (strV (c k))
def WJ (o:Int->Option Bs) (p:Int):Option Value:=(o p).map Jl
def J7 (o:Option Bs):Bs:=o.getD Wz
structure PagesOk (O:Bs→Int→Option Bs):Prop where
  ok: ∀n p s,O n p=some s→s.length=64∧s≠Wz∧0≤p∧p<256
theorem PagesOk.len (h:PagesOk O) (n:Bs) (p:Int):(J7 (O n p)).length=64:=by
  unfold J7;cases a:O n p with
  | none=>rfl
  | some s=> exact(h.ok n p s a).1
def Yk (L:List (Bs×Nat)) (n:Bs):Option Nat:=(L.find? λx=>decide (x.1=n)).map (·.2)
structure ObjL (L:List (Bs×Nat)) (O:Bs→Int→Option Bs):Prop where
  nodup:(L.map (·.1)).Nodup
  has: ∀n,n∈L.map (·.1)↔ ∃p,O n p≠none
def Z2 (L:List (Bs×Nat)) (n:Bs):Option Value:=(Yk L n).map λm=> .map (some m)
def Yc (O:Bs->Int->Option Bs) (x:Bs×Nat):Th:=Q4 QY x.2 (WJ (O x.1))
def GA (b:Nat) (O:Bs->Int->Option Bs):Th:=Cp λL:List (Bs×Nat)=>starL [WH (ObjL L O),Q4 Xo b (Z2 L),starL (L.map (Yc O))]
structure WL where
  bc:Nat
  bo:Nat
  bl:Nat
def JW (L:WL) (t:Int):List Value:=[.map (some L.bc),.map (some L.bo),.map (some L.bl),intV t]
def Xv (p:Nat) (W:WS):Th:=Cp λL:WL=>starL [WH (PagesOk W.objs),Q6 p (JW L W.time),Q4 Xo L.bc (XD W.cells),GA L.bo W.objs,Q4 Xo L.bl (XD W.logs)]
section
variable {w:World} {As:List Th}
theorem ZJ (h:Sat w (Xv p W::As)): ∃L:WL,PagesOk W.objs/\Sat w (Q6 p (JW L W.time)::Q4 Xo L.bc (XD W.cells)::GA L.bo W.objs::Q4 Xo L.bl (XD W.logs)::As):=by
  obtain⟨L,h⟩:=h.ex;exact⟨L,h.flat.pure_elim⟩
theorem ZY (L:WL) (hi:PagesOk W.objs) (h:Sat w (Q6 p (JW L W.time)::Q4 Xo L.bc (XD W.cells)::GA L.bo W.objs::Q4 Xo L.bl (XD W.logs)::As)):Sat w (Xv p W::As):=
  Sat.ex_intro L (Sat.fold (As:=[WH (PagesOk W.objs),Q6 p (JW L W.time),Q4 Xo L.bc (XD W.cells),GA L.bo W.objs,Q4 Xo L.bl (XD W.logs)]) (Sat.pure_intro hi h))
theorem Ua (h:Sat w (GA b O::As)): ∃L,ObjL L O/\Sat w (Q4 Xo b (Z2 L)::starL (L.map (Yc O))::As):=by
  obtain⟨L,h⟩:=h.ex;exact⟨L,h.flat.pure_elim⟩
theorem MX (L:List (Bs×Nat)) (hi:ObjL L O) (h:Sat w (Q4 Xo b (Z2 L)::starL (L.map (Yc O))::As)):Sat w (GA b O::As):=
  Sat.ex_intro L (Sat.fold (As:=[WH (ObjL L O),Q4 Xo b (Z2 L),starL (L.map (Yc O))]) (Sat.pure_intro hi h))
theorem Ri (h:Sat w (starL Xs::As)) (hi:Xs[i]? =some A):Sat w (A::starL (Xs.eraseIdx i)::As):=by
  have b:=h.flat.perm ((Nf hi).append_right As);have c:Sat w ([A]++(Xs.eraseIdx i++As)):=by simpa using b
  have a:=(c.perm List.perm_append_comm);rw[List.append_assoc]at a;exact(a.fold.perm (List.Perm.cons _ List.perm_append_comm)).perm (List.Perm.swap _ _ _)
theorem LY {i:Nat} (h:Sat w (A::starL Xs::As)):Sat w (starL (A::Xs)::As):=by
  have a:=(h.perm (List.Perm.swap _ _ _)).flat;exact(a.perm List.perm_middle).fold (As:=A::Xs)
theorem FC {Ys:List Th} (h:Sat w (starL Xs::As)) (a:Xs.Perm Ys):Sat w (starL Ys::As):=(h.flat.perm (a.append_right As)).fold
end
theorem N0 {α β:Type} (f:α->β): ∀(L:List α) (i:Nat),(L.map f).eraseIdx i=(L.eraseIdx i).map f
  | [],i=>by simp
  | x::L,0=>rfl
  | x::L,i+1=>by rw[List.map_cons,List.eraseIdx_cons_succ,List.eraseIdx_cons_succ,List.map_cons,N0 f L i]
theorem UX (h:Yk L n=some m): ∃i:Nat,L[i]? =some (n,m):=by
  unfold Yk at h;obtain⟨x,a,rfl⟩:=Option.map_eq_some_iff.1 h;have b:=List.find?_some a;have c:=List.mem_of_find?_eq_some a;simp at b;obtain⟨i,hi⟩:=List.mem_iff_getElem?.1 c;exact⟨i,by rw[hi,<-b]⟩
theorem Y4:Yk L n=none↔n∉L.map (·.1):=by
  unfold Yk;rw[Option.map_eq_none_iff,List.find?_eq_none];simp;constructor
  · intro h x d;exact h _ _ d U
  · intro h a b c e;subst e;exact h b c
theorem PY (a:(L.map (·.1)).Nodup) (h:(n,m)∈L):Yk L n=some m:=by
  induction L with
  | nil=> cases h
  | cons x L ih=>
    unfold Yk;rw[List.find?_cons];rcases List.mem_cons.1 h with rfl | b
    · simp
    · have c:x.1≠n:=by
        rintro rfl;simp only[List.map_cons,List.nodup_cons]at a;exact a.1 (List.mem_map.2 ⟨_,b,U⟩)
      simp only[c,decide_false];exact ih (by simp at a;exact a.2) b
theorem V5 (k:Bs):Yk ((n,m)::L) k= if k=n then some m else Yk L k:=by
  unfold Yk;rw[List.find?_cons];by_cases h:n=k
  · subst h;simp
  · simp [h,Ne.symm h]
theorem K7 (d:(L.map (·.1)).Nodup) (hi:L[i]? =some (n,m)) (k:Bs):Yk (L.eraseIdx i) k= if k=n then none else Yk L k:=by
  induction L generalizing i with
  | nil=> simp at hi
  | cons x L ih=>
    simp only[List.map_cons,List.nodup_cons]at d;cases i with
    | zero=>
      simp at hi;subst hi;rw[List.eraseIdx_cons_zero,V5];split
      · rename_i h;subst h;exact Y4.2 d.1
      · rfl
    | succ i=>
      rw[List.eraseIdx_cons_succ];obtain⟨a,b⟩:=x;rw[V5,V5,ih d.2 (by simpa using hi)];have c:n∈L.map (·.1):=List.mem_map.2 ⟨(n,m),List.mem_of_getElem? (by simpa using hi),rfl⟩;by_cases f:k=a
      · subst f;have :k≠n:= λe=>d.1 (by rw[e];exact c);simp [this]
      · simp [f]
theorem Sj {O':Bs->Int->Option Bs} (a:(L.map (·.1)).Nodup) (hi:L[i]? =some (n,m)) (c: ∀k,k≠n->O' k=O k):(L.map (Yc O)).eraseIdx i=(L.eraseIdx i).map (Yc O'):=by
  rw[N0];apply List.map_congr_left;intro x d
  have :x.1≠n:=by
    intro e;have b:=PY (L:=L.eraseIdx i) (a.sublist ((List.eraseIdx_sublist L i).map _)) (n:=n) (m:=x.2) (by rw[<-e];exact d);rw[K7 a hi]at b;simp at b
  unfold Yc;rw[c _ this]
theorem If {x:Bs×Nat} (hi:L[i]? =some x) (f:Bs×Nat->Th):(f x::(L.eraseIdx i).map f).Perm (L.map f):=by
  induction L generalizing i with
  | nil=> simp at hi
  | cons y L ih=>
    cases i with
    | zero=> simp at hi;subst hi;exact .refl _
    | succ i=>
      rw[List.eraseIdx_cons_succ,List.map_cons,List.map_cons];exact(List.Perm.swap _ _ _).trans ((ih (by simpa using hi)).cons _)
def Um (c:Bs->Bs) (k v:Bs):Bs->Bs:= λj=> if j=k then v else c j
theorem TL {v:Bs} (h:v≠[]):upd (XD c) k (some (strV v))=XD (Um c k v):=by
  funext j;by_cases a:j=k
  · subst a;rw[XR];simp [XD,Um,h]
  · rw[ZG a];simp [XD,Um,a]
theorem LS:upd (XD c) k none=XD (Um c k []):=by
  funext j;by_cases a:j=k
  · subst a;rw[XR];simp [XD,Um]
  · rw[ZG a];simp [XD,Um,a]
theorem Gd (c:Bs->Bs) (k:Bs):(XD c k).getD (strV [])=strV (c k):=by
  unfold XD;split
  · rename_i h;rw[h];rfl
  · rfl
def RG (O:Bs->Int->Option Bs) (n:Bs) (p:Int) (s:Bs):Bs->Int->Option Bs:= λm q=> if m=n/\q=p then(if s=Wz then none else some s)else O m q
def Hq (W:WS) (n:Bs) (i:Int):UInt8:= if 0<=i/\i<16384 then(J7 (W.objs n (i/ 64))).getD (i%64).toNat 0 else 0
theorem RP (o:Int->Option Bs) (p:Int):(WJ o p).getD (Jl Wz)=Jl (J7 (o p)):=by
  unfold WJ J7;cases o p<;>rfl
theorem PagesOk.set (h:PagesOk O) {p:Int} {s:Bs} (b:s.length=64) (d:0<=p/\p<256):PagesOk (RG O n p s):=by
  refine⟨λm q t a=> ?_⟩;unfold RG at a;split at a
  · rename_i e;split at a
    · cases a
    · rename_i c;cases a;exact⟨b,c,by omega,by omega⟩
  · exact h.ok m q t a
end Go.Proofs.YtifaibmhinlcfaaGreatDoor
namespace Go.Proofs.YtifaibmhinlcfaaGreatDoor.M
open Go.RowKit Go.Sort Proofs.Tryz
variable {As:List Th} {P:Program} {v:Value} {w:World}
def stC:RowC (List UInt8):=⟨λs=>[strV s],1,by decide,λ_=>rfl,λ_=>rfl⟩
theorem B6 (l:List (List UInt8)):stC.cells l=l.map strV:=by induction l with | nil=>rfl | cons a l ih=> simp only[RowC.cells,List.flatMap_cons,List.map_cons]at ih⊢;rw[ih];rfl
theorem Sat.belowAll {w':World} (h:Sat w As) (a:RowKit.Below w.heap.size w w'):Sat w' As:=h.only ⟨a.os,a.tape,a.output,a.size,λk b _=>a.block k b⟩
theorem FA {f:Nat} {args:Array Value} (a:Sat w As) (h:Calls P f args w λe w'=>e= .returned v/\RowKit.Below w.heap.size w w'):Calls P f args w (Ret λu w'=>u=v/\Sat w' As):=
  h.mono λe w' ⟨b,c⟩=>⟨v,b,rfl,a.belowAll c⟩
def Wk (l:List (List UInt8)):List (List UInt8):=l.mergeSort λx y=>decide (x<=y)
theorem Y1 (l:List (List UInt8)):(Wk l).Perm l:=List.mergeSort_perm _ _
theorem Hc (l:List (List UInt8)):(Wk l).length=l.length:=(Y1 l).length_eq
theorem NV (d xs:List (List UInt8)) (sp:List Value) (h:d.length=xs.length):(putCells encStr 0 d.toArray (xs.map strV++sp).toArray)=(d.map strV++sp).toArray:=by
  apply Array.ext_getElem?;intro k;unfold putCells;simp only[Array.getElem?_mapIdx,List.getElem?_toArray,Nat.zero_le,true_and,Nat.zero_add,Nat.sub_zero,List.size_toArray];by_cases a:k<d.length
  · rw[List.getElem?_append_left (by simpa [<-h]using a),List.getElem?_append_left (by simpa using a)];simp [a,h▸a,encStr,strV]
  · rw[List.getElem?_append_right (by simp;omega),List.getElem?_append_right (by simp;omega)];have b: ¬k<xs.length:=by omega
    simp only[List.length_map,h,b,if_false,Option.map_id']
theorem TM {f:Nat}
    (c: ∀(blk off cap:Nat) (ss:List (List UInt8)) (w:World),Holds encStr w blk off ss.toArray->blk<w.heap.size->ss.length<4611686018427387904->Calls P f #[.slice (some ⟨blk,off,none⟩) ss.length cap] w λe w'=>e= .returned (.tuple #[])/\ ∃n os,w'=grow (putRow encStr (Go.Sort.ahead w n) blk off (ss.mergeSort λx y=>decide (x<=y)).toArray) os)
    (d: ∀(p:Option Addr) (cap:Nat) (w:World),Calls P f #[.slice p 0 cap] w λe w'=>e= .returned (.tuple #[])/\w'=w)
    {l:List (List UInt8)} (C:Sat w (rowT stC v l::As)) (K:l.length<4611686018427387904):Calls P f #[v] w (Ret λu w'=>u= .tuple #[]/\Sat w' (rowT stC v (Wk l)::As)):=by
  obtain⟨foot,I,h⟩:=C.own 0 rfl;rcases h with⟨rfl,D,L⟩ | ⟨b,cap,sp,rfl,o,m,r,L⟩
  · have :l=[]:=List.eq_nil_of_length_eq_zero D;subst this;exact(d none 0 w).mono λe w' ⟨E,a⟩=>⟨_,E,rfl,by rw[a];simpa [Wk]using C⟩
  · have M:Holds encStr w b 0 l.toArray:= λj N=>by
      have s:j<l.length:=by simpa using N
      rw[B6]at m;refine⟨?_, ?_⟩
      · rw[Nat.zero_add];refine m.cell ?_;rw[List.getElem?_append_left (by simpa using s)];simp [s,encStr,strV]
      · exact m.free _ (by simp;omega)
    refine(c b 0 cap l w M m.lt K).mono λe w' ⟨E,n,os,a⟩=>⟨_,E,rfl, ?_⟩;have F:=m.lt
    have i: ∀k,k<w.heap.size->k≠b->w'.heap[k]? =w.heap[k]? := λk t G=>by
      rw[a,heap_grow_old _ _ (by simpa using t)];simp only[putRow,mapBlock,heap_ahead,Array.getElem?_modify];rw[if_neg (λq=>G q.symm)]
    obtain⟨T,lo,hi,O,H⟩:=m
    have z:w'.heap[b]? =some (.cells ((Wk l).map strV++sp).toArray T (lo,hi)):=by
      rw[a,heap_grow_old _ _ (by simpa using F)];simp only[putRow,mapBlock,heap_ahead,Array.getElem?_modify,if_pos,O,Option.map_some,onCells,B6];rw[show(l.mergeSort λx y=>decide (x<=y))=Wk l from rfl,NV _ _ _ (Hc l)]
    have Q:Only [b] w w':=by
      refine⟨?_, ?_, ?_, ?_,λk t D=>i k t (by simpa using D)⟩
      · rw[a];rfl
      · rw[a];rfl
      · rw[a];rfl
      · rw[a];simp
    have A:=C.own_set (w':=w') 0 U (v':= .slice (some ⟨b,0,none⟩) l.length cap) (n':=l.length) (size':=1) (xs':=stC.cells (Wk l)) (λfoot' g=>by
      obtain⟨_,g⟩:=g;rcases g with⟨B,_⟩ | ⟨b',cap',sp',B,g1,g2,g3,J⟩
      · cases B
      · simp only[Value.slice.injEq,Option.some.injEq,Addr.mk.injEq,and_true,true_and]at B;obtain⟨rfl,rfl⟩:=B;refine⟨[b],⟨?_,.inr ⟨b,cap,sp,U,o,⟨T,lo,hi, ?_, ?_⟩, ?_,U⟩⟩, ?_, ?_⟩
        · rw[stC.cells_len,Hc];rfl
        · rw[B6];exact z
        · rcases H with q | q
          · exact .inl q
          · refine .inr ?_;simp only[List.length_append,stC.cells_len,Hc]at q⊢;exact q
        · simp only[List.length_append,stC.cells_len,Hc]at r⊢;exact r
        · rw[J];exact Q
        · rw[J];intro k t;exact .inl t)
    have e:(Wk l).length=l.length:=Hc l;show Sat w' (Jk _ (Wk l).length 1 _::As);rw[e];exact A
end Go.Proofs.YtifaibmhinlcfaaGreatDoor.M
namespace Go.Proofs.YtifaibmhinlcfaaGreatDoor
open Go.RowKit M Proofs.Tryz
theorem QL:Z0 prog 3=some false:=by kernel_rfl
theorem VM:Z0 prog 4=some false:=by kernel_rfl
theorem ag_5:Z0 prog 5=some false:=by kernel_rfl
theorem XT:Z0 prog 9=some false:=by kernel_rfl
theorem J0:Z0 prog 24=some false:=by kernel_rfl
theorem Xr:Z0 prog 27=some false:=by kernel_rfl
theorem Bn:Z0 prog 46=some false:=by kernel_rfl
theorem JX:Z0 prog 61=some false:=by kernel_rfl
theorem Bm:Z0 prog 62=some false:=by kernel_rfl
theorem ZZ:Z0 prog 74=some false:=by kernel_rfl
theorem ag_76:Z0 prog 76=some true:=by kernel_rfl
theorem YX:Z0 prog 77=some false:=by kernel_rfl
theorem Va:Z0 prog 78=some false:=by kernel_rfl
theorem Dz:Z0 prog 79=some false:=by kernel_rfl
theorem Oh:Z0 prog 80=some false:=by kernel_rfl
theorem R3:Z0 prog 83=some false:=by kernel_rfl
theorem Eb:Z0 prog 122=some false:=by kernel_rfl
theorem V8:Z0 prog 123=some false:=by kernel_rfl
theorem Gh:Z0 prog 140=some false:=by kernel_rfl
theorem J9:Z0 prog 141=some false:=by kernel_rfl
theorem qgj:Z0 prog 142=some false:=by kernel_rfl
theorem Jv:Z0 prog 145=some false:=by kernel_rfl
theorem Db:Z0 prog 146=some false:=by kernel_rfl
theorem Xu:Z0 prog 151=some true:=by kernel_rfl
theorem Ju:Z0 prog 152=some false:=by kernel_rfl
theorem qgi:Z0 prog 163=some false:=by kernel_rfl
theorem V7:Z0 prog 176=some false:=by kernel_rfl
theorem J8:Z0 prog 181=some false:=by kernel_rfl
theorem Da:Z0 prog 187=some true:=by kernel_rfl
theorem ag_252:Z0 prog 252=some true:=by kernel_rfl
theorem qgh:Z0 prog 281=some true:=by kernel_rfl
theorem asz_64:JF prog 64=true:=by kernel_rfl
theorem K6:JF prog 76=true:=by kernel_rfl
theorem asz_82:JF prog 82=true:=by kernel_rfl
theorem asz_144:JF prog 144=true:=by kernel_rfl
theorem asz_148:JF prog 148=true:=by kernel_rfl
theorem Vz:JF prog 151=true:=by kernel_rfl
theorem asz_158:JF prog 158=true:=by kernel_rfl
theorem asz_178:JF prog 178=true:=by kernel_rfl
theorem asz_180:JF prog 180=true:=by kernel_rfl
theorem asz_183:JF prog 183=true:=by kernel_rfl
theorem asz_252:JF prog 252=true:=by kernel_rfl
theorem PX:JF prog 281=true:=by kernel_rfl
theorem TO:Q8 prog 12=true:=by kernel_rfl
theorem PD:Q8 prog 30=true:=by kernel_rfl
theorem cal_31:Q8 prog 31=true:=by kernel_rfl
theorem cal_55:Q8 prog 55=true:=by kernel_rfl
theorem cal_56:Q8 prog 56=true:=by kernel_rfl
theorem cal_57:Q8 prog 57=true:=by kernel_rfl
theorem cal_76:Q8 prog 76=true:=by kernel_rfl
theorem cal_77:Q8 prog 77=true:=by kernel_rfl
theorem cal_78:Q8 prog 78=true:=by kernel_rfl
theorem qfj:Q8 prog 80=true:=by kernel_rfl
theorem Gf:Q8 prog 81=true:=by kernel_rfl
theorem qfi:Q8 prog 82=true:=by kernel_rfl
theorem TN:Q8 prog 85=true:=by kernel_rfl
theorem P7:Q8 prog 86=true:=by kernel_rfl
theorem cal_90:Q8 prog 90=true:=by kernel_rfl
theorem qfg:Q8 prog 91=true:=by kernel_rfl
theorem P6:Q8 prog 95=true:=by kernel_rfl
theorem Ge:Q8 prog 96=true:=by kernel_rfl
theorem qfe:Q8 prog 97=true:=by kernel_rfl
theorem qfd:Q8 prog 98=true:=by kernel_rfl
theorem Rg:Q8 prog 101=true:=by kernel_rfl
theorem AY:Q8 prog 102=true:=by kernel_rfl
theorem HD:Q8 prog 103=true:=by kernel_rfl
theorem PR:Q8 prog 106=true:=by kernel_rfl
theorem cal_107:Q8 prog 107=true:=by kernel_rfl
theorem AV:Q8 prog 108=true:=by kernel_rfl
theorem AU:Q8 prog 109=true:=by kernel_rfl
theorem AT:Q8 prog 110=true:=by kernel_rfl
theorem Bd:Q8 prog 111=true:=by kernel_rfl
theorem AS:Q8 prog 112=true:=by kernel_rfl
theorem AQ:Q8 prog 117=true:=by kernel_rfl
theorem Mk:Q8 prog 118=true:=by kernel_rfl
theorem AP:Q8 prog 119=true:=by kernel_rfl
theorem cal_120:Q8 prog 120=true:=by kernel_rfl
theorem cal_124:Q8 prog 124=true:=by kernel_rfl
theorem AO:Q8 prog 127=true:=by kernel_rfl
theorem Mj:Q8 prog 128=true:=by kernel_rfl
theorem cal_131:Q8 prog 131=true:=by kernel_rfl
theorem Vy:Q8 prog 132=true:=by kernel_rfl
theorem Bc:Q8 prog 133=true:=by kernel_rfl
theorem Yh:Q8 prog 134=true:=by kernel_rfl
theorem Bb:Q8 prog 135=true:=by kernel_rfl
theorem cal_136:Q8 prog 136=true:=by kernel_rfl
theorem AN:Q8 prog 137=true:=by kernel_rfl
theorem cal_143:Q8 prog 143=true:=by kernel_rfl
theorem AL:Q8 prog 144=true:=by kernel_rfl
theorem cal_145:Q8 prog 145=true:=by kernel_rfl
theorem AK:Q8 prog 147=true:=by kernel_rfl
theorem AJ:Q8 prog 148=true:=by kernel_rfl
theorem AI:Q8 prog 149=true:=by kernel_rfl
theorem AH:Q8 prog 150=true:=by kernel_rfl
theorem PP:Q8 prog 151=true:=by kernel_rfl
theorem Ba:Q8 prog 152=true:=by kernel_rfl
theorem cal_153:Q8 prog 153=true:=by kernel_rfl
theorem AG:Q8 prog 154=true:=by kernel_rfl
theorem AF:Q8 prog 155=true:=by kernel_rfl
theorem Vx:Q8 prog 156=true:=by kernel_rfl
theorem AE:Q8 prog 157=true:=by kernel_rfl
theorem cal_182:Q8 prog 182=true:=by kernel_rfl
theorem cal_184:Q8 prog 184=true:=by kernel_rfl
theorem cal_185:Q8 prog 185=true:=by kernel_rfl
theorem PN:Q8 prog 186=true:=by kernel_rfl
theorem PM:Q8 prog 187=true:=by kernel_rfl
theorem AD:Q8 prog 188=true:=by kernel_rfl
theorem Mi:Q8 prog 189=true:=by kernel_rfl
theorem cal_190:Q8 prog 190=true:=by kernel_rfl
theorem PL:Q8 prog 191=true:=by kernel_rfl
theorem Rf:Q8 prog 192=true:=by kernel_rfl
theorem GZ:Q8 prog 193=true:=by kernel_rfl
theorem GY:Q8 prog 194=true:=by kernel_rfl
theorem Mh:Q8 prog 195=true:=by kernel_rfl
theorem AC:Q8 prog 197=true:=by kernel_rfl
theorem AB:Q8 prog 198=true:=by kernel_rfl
theorem cal_199:Q8 prog 199=true:=by kernel_rfl
theorem cal_202:Q8 prog 202=true:=by kernel_rfl
theorem PK:Q8 prog 204=true:=by kernel_rfl
theorem cal_205:Q8 prog 205=true:=by kernel_rfl
theorem cal_206:Q8 prog 206=true:=by kernel_rfl
theorem AA:Q8 prog 216=true:=by kernel_rfl
theorem PJ:Q8 prog 217=true:=by kernel_rfl
theorem A9:Q8 prog 218=true:=by kernel_rfl
theorem A7:Q8 prog 219=true:=by kernel_rfl
theorem A6:Q8 prog 220=true:=by kernel_rfl
theorem cal_221:Q8 prog 221=true:=by kernel_rfl
theorem cal_222:Q8 prog 222=true:=by kernel_rfl
theorem Az:Q8 prog 223=true:=by kernel_rfl
theorem cal_224:Q8 prog 224=true:=by kernel_rfl
theorem cal_227:Q8 prog 227=true:=by kernel_rfl
theorem cal_228:Q8 prog 228=true:=by kernel_rfl
theorem PH:Q8 prog 229=true:=by kernel_rfl
theorem cal_232:Q8 prog 232=true:=by kernel_rfl
theorem cal_233:Q8 prog 233=true:=by kernel_rfl
theorem cal_234:Q8 prog 234=true:=by kernel_rfl
theorem cal_235:Q8 prog 235=true:=by kernel_rfl
theorem cal_236:Q8 prog 236=true:=by kernel_rfl
theorem GX:Q8 prog 237=true:=by kernel_rfl
theorem cal_238:Q8 prog 238=true:=by kernel_rfl
theorem Ay:Q8 prog 239=true:=by kernel_rfl
theorem PF:Q8 prog 240=true:=by kernel_rfl
theorem PE:Q8 prog 241=true:=by kernel_rfl
theorem cal_250:Q8 prog 250=true:=by kernel_rfl
theorem Ax:Q8 prog 251=true:=by kernel_rfl
theorem cal_252:Q8 prog 252=true:=by kernel_rfl
theorem cal_253:Q8 prog 253=true:=by kernel_rfl
theorem cal_254:Q8 prog 254=true:=by kernel_rfl
theorem cal_255:Q8 prog 255=true:=by kernel_rfl
theorem cal_259:Q8 prog 259=true:=by kernel_rfl
theorem WZ:Yn prog 24=some 1:=by kernel_rfl
theorem VF:Yn prog 83=some 1:=by kernel_rfl
theorem qel:Yn prog 123=some 1:=by kernel_rfl
theorem Ku:Yn prog 163=some 2:=by kernel_rfl
theorem Kt:Yn prog 176=some 65:=by kernel_rfl
theorem Hz:Yn prog 181=some 4:=by kernel_rfl
theorem DY:QS prog 64 0=some 0:=by kernel_rfl
theorem Ux:QS prog 64 1=some 1:=by kernel_rfl
theorem Ae:QS prog 64 2=some 2:=by kernel_rfl
theorem DX:QS prog 64 3=some 3:=by kernel_rfl
theorem YP:QS prog 76 0=some 0:=by kernel_rfl
theorem Uv:QS prog 76 1=some 1:=by kernel_rfl
theorem H9:QS prog 76 2=some 2:=by kernel_rfl
theorem Pq:QS prog 76 3=some 3:=by kernel_rfl
theorem Zg:QS prog 82 0=some 0:=by kernel_rfl
theorem Vs:QS prog 82 1=some 1:=by kernel_rfl
theorem JD:QS prog 82 2=some 2:=by kernel_rfl
theorem Yg:QS prog 82 3=some 3:=by kernel_rfl
theorem Uu:QS prog 82 4=some 4:=by kernel_rfl
theorem DW:QS prog 82 5=some 5:=by kernel_rfl
theorem fo_82_6:QS prog 82 6=some 6:=by kernel_rfl
theorem Ab:QS prog 82 7=some 7:=by kernel_rfl
theorem Pp:QS prog 82 8=some 8:=by kernel_rfl
theorem Aa:QS prog 82 9=some 9:=by kernel_rfl
theorem GP:QS prog 125 0=some 0:=by kernel_rfl
theorem YS:QS prog 125 1=some 1:=by kernel_rfl
theorem XC:QS prog 144 0=some 0:=by kernel_rfl
theorem UN:QS prog 144 1=some 1:=by kernel_rfl
theorem Wv:QS prog 144 2=some 2:=by kernel_rfl
theorem Fg:QS prog 144 4=some 4:=by kernel_rfl
theorem JR:QS prog 148 0=some 0:=by kernel_rfl
theorem Wu:QS prog 148 1=some 1:=by kernel_rfl
theorem Ko:QS prog 148 2=some 2:=by kernel_rfl
theorem YR:QS prog 151 0=some 0:=by kernel_rfl
theorem GN:QS prog 151 1=some 1:=by kernel_rfl
theorem GM:QS prog 158 0=some 0:=by kernel_rfl
theorem WP:QS prog 158 1=some 1:=by kernel_rfl
theorem Yx:QS prog 158 2=some 2:=by kernel_rfl
theorem Wt:QS prog 158 3=some 3:=by kernel_rfl
theorem YQ:QS prog 178 0=some 0:=by kernel_rfl
theorem GL:QS prog 178 1=some 1:=by kernel_rfl
theorem Ug:QS prog 180 0=some 0:=by kernel_rfl
theorem UM:QS prog 180 1=some 1:=by kernel_rfl
theorem Fe:QS prog 180 2=some 2:=by kernel_rfl
theorem Fc:QS prog 180 3=some 3:=by kernel_rfl
theorem Wd:QS prog 183 0=some 0:=by kernel_rfl
theorem Ho:QS prog 183 1=some 1:=by kernel_rfl
theorem GK:QS prog 183 2=some 2:=by kernel_rfl
theorem Kn:QS prog 183 3=some 3:=by kernel_rfl
theorem Tn:QS prog 183 4=some 4:=by kernel_rfl
theorem Tm:QS prog 252 0=some 0:=by kernel_rfl
theorem GJ:QS prog 252 1=some 1:=by kernel_rfl
theorem GI:QS prog 281 0=some 0:=by kernel_rfl
theorem UL:QS prog 281 1=some 1:=by kernel_rfl
theorem Tl:QS prog 281 2=some 2:=by kernel_rfl
theorem GH:QS prog 281 3=some 3:=by kernel_rfl
theorem DT:Vu prog 76 0=some (0,none):=by kernel_rfl
theorem EX:Vu prog 76 3=some (3,none):=by kernel_rfl
theorem H0:(prog.info? 3).map (λi=>(i.zero,i.size,i.bytes))=some (some (.int .i64 0),1,8):=by kernel_rfl
theorem ifo_5:(prog.info? 5).map (λi=>(i.zero,i.size,i.bytes))=some (some (.int .u8 0),1,1):=by kernel_rfl
theorem qdy:(prog.info? 9).map (λi=>(i.zero,i.size,i.bytes))=some (some (.string ⟨#[]⟩),1,16):=by kernel_rfl
theorem ifo_151:(prog.info? 151).map (λi=>(i.zero,i.size,i.bytes))=some (some (.agg #[(.string ⟨#[]⟩),(.int .i64 0)]),2,24):=by kernel_rfl
theorem ifo_252:(prog.info? 252).map (λi=>(i.zero,i.size,i.bytes))=some (some (.agg #[(.bool false),(.int .u8 0),(.int .u8 0),(.int .u8 0),(.int .u8 0),(.int .u8 0),(.int .u8 0),(.int .u8 0),(.int .u8 0),(.int .u8 0),(.int .u8 0),(.int .u8 0),(.int .u8 0),(.int .u8 0),(.int .u8 0),(.int .u8 0),(.int .u8 0),(.int .u8 0),(.int .u8 0),(.int .u8 0),(.int .u8 0),(.int .u8 0),(.int .u8 0),(.int .u8 0),(.int .u8 0),(.int .u8 0),(.int .u8 0),(.int .u8 0),(.int .u8 0),(.int .u8 0),(.int .u8 0),(.int .u8 0),(.int .u8 0),(.int .u8 0),(.int .u8 0),(.int .u8 0),(.int .u8 0),(.int .u8 0),(.int .u8 0),(.int .u8 0),(.int .u8 0),(.int .u8 0),(.int .u8 0),(.int .u8 0),(.int .u8 0),(.int .u8 0),(.int .u8 0),(.int .u8 0),(.int .u8 0),(.int .u8 0),(.int .u8 0),(.int .u8 0),(.int .u8 0),(.int .u8 0),(.int .u8 0),(.int .u8 0),(.int .u8 0),(.int .u8 0),(.int .u8 0),(.int .u8 0),(.int .u8 0),(.int .u8 0),(.int .u8 0),(.int .u8 0),(.int .u8 0)]),65,65):=by kernel_rfl
theorem ifo_281:(prog.info? 281).map (λi=>(i.zero,i.size,i.bytes))=some (some (.agg #[(.bool false),(.bool false),(.bool false),(.int .i64 0)]),4,16):=by kernel_rfl
theorem Uf:(prog.info? 3).map (λi=>(i.zero,i.size))=some (some (.int .i64 0),1):=by kernel_rfl
theorem ifz_5:(prog.info? 5).map (λi=>(i.zero,i.size))=some (some (.int .u8 0),1):=by kernel_rfl
theorem ifz_9:(prog.info? 9).map (λi=>(i.zero,i.size))=some (some (.string ⟨#[]⟩),1):=by kernel_rfl
theorem ifz_151:(prog.info? 151).map (λi=>(i.zero,i.size))=some (some (.agg #[(.string ⟨#[]⟩),(.int .i64 0)]),2):=by kernel_rfl
theorem Z9:prog.follows .mixedOrders=true:=by kernel_rfl
theorem EF:YH prog 188=true:=by kernel_rfl
theorem SB:XZ prog 64 [0,1,2]=some [(0,1),(1,1),(2,1)]:=by kernel_rfl
theorem JO:XZ prog 76 [0,1,2]=some [(0,1),(1,1),(2,1)]:=by kernel_rfl
theorem SA:XZ prog 76 [0,1,3]=some [(0,1),(1,1),(3,1)]:=by kernel_rfl
theorem VJ:XZ prog 82 [0,1,3,4,5,6,7,8]=some [(0,1),(1,1),(3,1),(4,1),(5,1),(6,1),(7,1),(8,1)]:=by kernel_rfl
theorem MQ:XZ prog 144 [0,1,2,4]=some [(0,1),(1,1),(2,1),(4,1)]:=by kernel_rfl
theorem NZ:XZ prog 148 [0,1,2]=some [(0,1),(1,1),(2,1)]:=by kernel_rfl
theorem E9:XZ prog 151 []=some []:=by kernel_rfl
theorem HY:XZ prog 151 [0,1]=some [(0,1),(1,1)]:=by kernel_rfl
theorem Lw:XZ prog 158 [0,1]=some [(0,1),(1,1)]:=by kernel_rfl
theorem qcg:XZ prog 178 [0]=some [(0,1)]:=by kernel_rfl
theorem qcf:XZ prog 180 [0]=some [(0,1)]:=by kernel_rfl
theorem MP:XZ prog 183 [0,2,3,4]=some [(0,1),(2,1),(3,1),(4,1)]:=by kernel_rfl
theorem qce:XZ prog 252 [0]=some [(0,1)]:=by kernel_rfl
theorem pl_281_:XZ prog 281 []=some []:=by kernel_rfl
theorem MO:XZ prog 281 [0,3]=some [(0,1),(3,1)]:=by kernel_rfl
theorem YD:ZQ prog 3=some 1:=by kernel_rfl
theorem Cj:ZQ prog 4=some 1:=by kernel_rfl
theorem VH:ZQ prog 5=some 1:=by kernel_rfl
theorem sz_9:ZQ prog 9=some 1:=by kernel_rfl
theorem Gw:ZQ prog 24=some 1:=by kernel_rfl
theorem W9:ZQ prog 46=some 1:=by kernel_rfl
theorem HV:ZQ prog 76=some 4:=by kernel_rfl
theorem sz_77:ZQ prog 77=some 1:=by kernel_rfl
theorem sz_83:ZQ prog 83=some 1:=by kernel_rfl
theorem sz_122:ZQ prog 122=some 1:=by kernel_rfl
theorem qbj:ZQ prog 123=some 1:=by kernel_rfl
theorem Xb:ZQ prog 151=some 2:=by kernel_rfl
theorem Kb:ZQ prog 152=some 1:=by kernel_rfl
theorem sz_163:ZQ prog 163=some 1:=by kernel_rfl
theorem Ka:ZQ prog 187=some 64:=by kernel_rfl
theorem qbh:ZQ prog 252=some 65:=by kernel_rfl
theorem RC:ZQ prog 281=some 4:=by kernel_rfl
theorem Ul:XE prog 3=some (some (.int .i64 0)):=by kernel_rfl
theorem zr_4:XE prog 4=some (some (.bool false)):=by kernel_rfl
theorem zr_5:XE prog 5=some (some (.int .u8 0)):=by kernel_rfl
theorem R5:XE prog 9=some (some (.string ⟨#[]⟩)):=by kernel_rfl
theorem zr_24:XE prog 24=some (some (.slice none 0 0)):=by kernel_rfl
theorem zr_46:XE prog 46=some (some (.int .i64 0)):=by kernel_rfl
theorem zr_64:XE prog 64=some (some (.agg #[(.map none),(.map none),(.map none),(.int .i64 0)])):=by kernel_rfl
theorem Zt:XE prog 76=some (some (.agg #[(.int .i64 0),(.int .i64 0),(.int .i64 0),(.string ⟨#[]⟩)])):=by kernel_rfl
theorem zr_82:XE prog 82=some (some (.agg #[(.map none),(.map none),(.slice none 0 0),(.pointer none),(.pointer none),(.pointer none),(.int .i64 0),(.int .i64 0),(.int .i64 0),(.slice none 0 0)])):=by kernel_rfl
theorem FP:XE prog 125=some (some (.agg #[(.pointer none),(.slice none 0 0)])):=by kernel_rfl
theorem YY:XE prog 139=some (some (.pointer none)):=by kernel_rfl
theorem zr_144:XE prog 144=some (some (.agg #[(.pointer none),(.map none),(.map none),(.int .i64 0),(.map none)])):=by kernel_rfl
theorem zr_148:XE prog 148=some (some (.agg #[(.int .i64 0),(.map none),(.map none)])):=by kernel_rfl
theorem Wo:XE prog 151=some (some (.agg #[(.string ⟨#[]⟩),(.int .i64 0)])):=by kernel_rfl
theorem zr_158:XE prog 158=some (some (.agg #[(.int .i64 0),(.int .i64 0),(.int .u64 0),(.int .u64 0)])):=by kernel_rfl
theorem Ht:XE prog 159=some (some (.pointer none)):=by kernel_rfl
theorem zr_178:XE prog 178=some (some (.agg #[(.slice none 0 0),(.int .i64 0)])):=by kernel_rfl
theorem zr_180:XE prog 180=some (some (.agg #[(.slice none 0 0),(.int .i64 0),(.int .i64 0),(.int .i64 0)])):=by kernel_rfl
theorem zr_183:XE prog 183=some (some (.agg #[(.slice none 0 0),(.int .i64 0),(.map none),(.map none),(.map none)])):=by kernel_rfl
theorem VO:XE prog 188=some (some (.map none)):=by kernel_rfl
theorem zr_252:XE prog 252=some (some (.agg #[(.bool false),(.int .u8 0),(.int .u8 0),(.int .u8 0),(.int .u8 0),(.int .u8 0),(.int .u8 0),(.int .u8 0),(.int .u8 0),(.int .u8 0),(.int .u8 0),(.int .u8 0),(.int .u8 0),(.int .u8 0),(.int .u8 0),(.int .u8 0),(.int .u8 0),(.int .u8 0),(.int .u8 0),(.int .u8 0),(.int .u8 0),(.int .u8 0),(.int .u8 0),(.int .u8 0),(.int .u8 0),(.int .u8 0),(.int .u8 0),(.int .u8 0),(.int .u8 0),(.int .u8 0),(.int .u8 0),(.int .u8 0),(.int .u8 0),(.int .u8 0),(.int .u8 0),(.int .u8 0),(.int .u8 0),(.int .u8 0),(.int .u8 0),(.int .u8 0),(.int .u8 0),(.int .u8 0),(.int .u8 0),(.int .u8 0),(.int .u8 0),(.int .u8 0),(.int .u8 0),(.int .u8 0),(.int .u8 0),(.int .u8 0),(.int .u8 0),(.int .u8 0),(.int .u8 0),(.int .u8 0),(.int .u8 0),(.int .u8 0),(.int .u8 0),(.int .u8 0),(.int .u8 0),(.int .u8 0),(.int .u8 0),(.int .u8 0),(.int .u8 0),(.int .u8 0),(.int .u8 0)])):=by kernel_rfl
theorem Mm:XE prog 281=some (some (.agg #[(.bool false),(.bool false),(.bool false),(.int .i64 0)])):=by kernel_rfl
abbrev Bytes:=List UInt8
variable {l:List (Int×Bytes×Bytes)}
structure DS where
  F:Int→Bytes×Bytes
  Q:List (Int×Int)
  lost:Int
  down:Bool
  armed:Int
  keep:List Int
variable {D:DS}
def qb6 (F:Int->Bytes×Bytes) (f:Int) (x:Bytes×Bytes):Int->Bytes×Bytes:= λk=> if k=f then x else F k
structure DInv (D:DS):Prop where
  now: ∀k,(D.F k).1.length≤16777216
  last: ∀k,(D.F k).2.length≤16777216
  nodup:D.Q.Nodup
  secs: ∀p∈D.Q,(0≤p.1∧p.1<16)∧0≤p.2∧p.2≤262144
  lost:0≤D.lost∧D.lost≤9223372036854775807
  armed:0≤D.armed∧D.armed≤9223372036854775807
structure DL where
  bf:Nat
  bs:Nat
  qv:Value
def setT (b:Nat) (Q:List (Int×Int)):Th:=Cp λg:Int×Int->Option Value=>starL [WH (∀p,g p= if p∈Q then some (.bool true)else none),Q4 pairK b g]
def inC:RowC Int:=⟨λx=>[intV x],1,by decide,λ_=>rfl,λ_=>rfl⟩
def RW:List (Int×Bytes×Bytes)->Int->Bytes×Bytes
  | [],_=>([],[])
  | x::l,f=> if x.1=f then x.2 else RW l f
structure RInv (l:List (Int×Bytes×Bytes)) (D:DS):Prop where
  inv:DInv D
  says: ∀k,RW l k=D.F k
  num: ∀x∈l,0≤x.1∧x.1<16
  nodup:(l.map (·.1)).Nodup
structure RL where
  fv:Value
  qv:Value
  l:List (Int×Bytes×Bytes)
theorem qd5 {m:List (Int×Bytes×Bytes)} {f:Int} (h: ∀x∈l,x.1≠f):RW (l++m) f=RW m f:=by
  induction l with
  | nil=>rfl
  | cons x l ih=> rw[List.cons_append,RW,if_neg (h x (by simp)),ih λy a=>h y (by simp [a])]
theorem SX {f k:Int} (h:k≠f) (m:List (Int×Bytes×Bytes)) (a:RW m k=([],[])):RW (l.filter (λx=>decide (x.1≠f))++m) k=RW l k:=by
  induction l with
  | nil=> exact a
  | cons x l ih=>
    by_cases e:x.1=f
    · rw[List.filter_cons_of_neg (by simp [e]),ih,RW,if_neg (by omega)]
    · rw[List.filter_cons_of_pos (by simp [e]),List.cons_append,RW,RW,ih]
def putR (l:List (Int×Bytes×Bytes)) (x:Int×Bytes×Bytes):List (Int×Bytes×Bytes):=l.filter (λy=>decide (y.1≠x.1))++[x]
theorem OV {F:Int->Bytes×Bytes} (h: ∀k,RW l k=F k) (x:Int×Bytes×Bytes) (k:Int):RW (putR l x) k=qb6 F x.1 x.2 k:=by
  unfold putR qb6;by_cases e:k=x.1
  · subst e;rw[qd5 (λy a=>by simpa using(List.mem_filter.1 a).2),if_pos U];simp [RW]
  · rw[SX e [x] (by rw[RW,if_neg (Ne.symm e)];rfl),if_neg e];exact h k
theorem RInv.put (h:RInv l D) (k:Int) (a b:Bytes) (f:0<=k/\k<16) (g:a.length<=16777216) (i:b.length<=16777216):RInv (putR l (k,a,b)) {D with F:=qb6 D.F k (a,b)}:=by
  refine⟨{h.inv with now:= λj=> ?_,last:= λj=> ?_},OV h.says (k,a,b),λx c=> ?_, ?_⟩
  · simp only[qb6];split
    · exact g
    · exact h.inv.now j
  · simp only[qb6];split
    · exact i
    · exact h.inv.last j
  · rcases List.mem_append.1 c with q | q
    · exact h.num x (List.mem_filter.1 q).1
    · simp at q;subst q;exact f
  · unfold putR;rw[List.map_append];refine List.nodup_append.2 ⟨(h.nodup.sublist (List.filter_sublist.map _)),by simp, ?_⟩;intro x c y d e;obtain⟨z,m,rfl⟩:=List.mem_map.1 c;simp at d;have :=(List.mem_filter.1 m).2;simp at this;exact this (e.trans d)
theorem RInv.count (h:RInv l D):l.length<=16:=by
  have g: ∀x∈(l.map (·.1)).map Int.toNat,x∈List.range 16:=by
    intro x i;obtain⟨y,c,rfl⟩:=List.mem_map.1 i;obtain⟨z,d,rfl⟩:=List.mem_map.1 c;have :=h.num z d;simp;omega
  have j:((l.map (·.1)).map Int.toNat).Nodup:=by
    refine List.pairwise_map.2 (h.nodup.imp_of_mem ?_);intro a b k m f e;obtain⟨z,d,rfl⟩:=List.mem_map.1 k;obtain⟨y,c,rfl⟩:=List.mem_map.1 m;have :=h.num z d;have :=h.num y c;exact f (by omega)
  have :=List.Nodup.length_le_of_subset j g
  simpa using this
theorem RInv.upd {D':DS} (h:RInv l D) (a:D'.F=D.F) (hi:DInv D'):RInv l D':=⟨hi,λk=>by rw[a];exact h.says k,h.num,h.nodup⟩
end Go.Proofs.YtifaibmhinlcfaaGreatDoor
namespace Go.Proofs.YtifaibmhinlcfaaGreatDoor.M
open Go.RowKit Proofs.Tryz
variable {A B b cap e m o t:Nat} {a:Option Addr} {hi lo:Option Operand} {x:Operand}
section
variable {P:Program} {n:Nat} {ops:Array Oper} {Q:Exit→Act→World→Prop} {rest:List Oper} {L:Env} {w:World} {d:Nat} {ty:TypeId} {pos:String} {aft:Array Edge} {As:List Th}
theorem Dh {N sz:Nat} (a:P.underlying t=some (.array N e)) (c:Nat.blt 0 N=true) (f:look L x=some (ptrV b o)) (g:ZQ P e=some sz) (hd:Nat.blt d n=true) (h:wl P n ops Q rest ((d,.slice (some ⟨b,o,none⟩) N N)::L) w):wl P n ops Q (⟨some d,.slice t x none none none,ty,pos,aft,none⟩::rest) L w:=
  Xp hd (λρ i=>by
    have j: ∀w,(sizeOf e).run P w= .ok sz w:= λw=>Zp g w;have k: ¬N=0:=by simp at c;omega
    simp [execOp,i _ _ f,Instr.sliceAt,run_underlying a,Instr.sureAddr,Instr.sliceBounds,j,k];simp [Addr.add]) h
end
theorem RU (l:List Int):inC.cells l=l.map intV:=by
  induction l with
  | nil=>rfl
  | cons a l ih=> simp only[RowC.cells,List.flatMap_cons,List.map_cons]at ih⊢;rw[ih];rfl
def U9 (sz:Nat) (v:Value) (A B:Nat):Value:= match v with
  | .slice a _ cap=> .slice (if cap=A then a else a.map λp=>p.add (A*sz)) (B -A) (cap -A)
  | v=>v
section
variable {P:Program} {n:Nat} {ops:Array Oper} {Q:Exit→Act→World→Prop} {rest:List Oper} {L:Env} {w:World} {d:Nat} {ty:TypeId} {pos:String} {aft:Array Edge}
theorem ev_view {sz:Nat} (A B:Nat) (g:P.underlying t=some (.slice e)) (h:ZQ P e=some sz) (i:look L x=some (.slice a m cap)) (b:bndL L lo 0 A) (c:bndL L hi m B) (j:A<=B) (k:B<=cap):
    Ev P L w ⟨some d,.slice t x lo hi none,ty,pos,aft,none⟩ (U9 sz (.slice a m cap) A B):= λρ f=>by
  have l:=RJ (P:=P) true m cap _ _ A B (b.val f) (c.val f) j k w;simp only[execOp,f _ _ i];simp [Instr.sliceAt,Instr.slice,run_underlying g,l,Zp h,U9]
theorem DC {sz:Nat} (A B:Nat) (f:P.underlying t=some (.slice e)) (g:ZQ P e=some sz) (h:look L x=some (.slice a m cap)) (b:bndL L lo 0 A) (c:bndL L hi m B) (i:A<=B) (j:B<=cap) (hd:Nat.blt d n=true)
    (k:wl P n ops Q rest ((d,U9 sz (.slice a m cap) A B)::L) w):wl P n ops Q (⟨some d,.slice t x lo hi none,ty,pos,aft,none⟩::rest) L w:=Xp hd (ev_view A B f g h b c i j) k
end
theorem CE {sz:Nat} (h:A<cap):U9 sz (.slice (some ⟨b,o,none⟩) m cap) A B= .slice (some ⟨b,o+A*sz,none⟩) (B -A) (cap -A):=by
  unfold U9;dsimp only;rw[if_neg (by omega),Option.map_some,Wx]
section
variable {α:Type} {C:RowC α} {l:List α} {w:World}
theorem RdL.view (h:RdL C (.slice a m cap) l w) (n:m<=cap) (o:A<=B) (p:B<=l.length):RdL C (U9 C.size (.slice a m cap) A B) ((l.take B).drop A) w:=by
  obtain⟨ao,cap',e,q,f⟩:=h;cases e;have g:((l.take B).drop A).length=B -A:=by rw[List.length_drop,List.length_take];omega
  refine⟨_,_,by rw[g];rfl,by omega,λi x d=> ?_⟩;have hi:=(Za d).1;rw[List.getElem?_drop,List.getElem?_take,if_pos (by omega)]at d;obtain⟨b,off,rfl,c⟩:=f _ _ d;refine⟨b,off+A*C.size,by rw[if_neg (by omega),Option.map_some,Wx],λj u k=> ?_⟩;have :=c j u k;rw[Nat.add_mul]at this;rw[show off+A*C.size+i*C.size+j=off+(A*C.size+i*C.size)+j by omega];exact this
theorem Fk (b:l.length<=9223372036854775807) (c:A<=B) (d:B<=l.length) (e:l.length<=cap):Ent (rowT C (.slice a l.length cap) l) (RdL C (U9 C.size (.slice a l.length cap) A B) ((l.take B).drop A)):= λh=>(Ja b h).view e c d
theorem RdL.at_ {off i:Nat} {a:α} (h:RdL C (.slice (some ⟨b,off,none⟩) m cap) l w) (c:l[i]? =some a): ∀(j:Nat) (u:Value),(C.enc a)[j]? =some u->w.cell? ⟨b,off+i*C.size+j,none⟩=some u:=by
  obtain⟨b',off',e,d⟩:=h.get c;cases e;exact d
end
