/- A small logic of memory over whatever program: rows of cells ('Blk'), what a step may have changed ('Only'), and laws for the operations on many cells. Conditions: each law's own hypotheses. -/
import Derived.Test.YtifaibmhinlcfaaGreatDoorRows
import Derived.WalkKit
import Derived.WalkSpells
import Derived.WalkLawsBesides
import Derived.BigQuiet
namespace Go.Proofs.YtifaibmhinlcfaaGreatDoor.M
open Go.RowKit
variable {B N N' b bytes cap i m n off size:Nat} {F' S foot:List Nat} {Fs:List (List Nat)} {Q:Exit→Act→World→Prop} {R:Value→World→Prop} {W w w':World} {a:Act} {cs news vs xs:List Value} {d2:TypeDesc} {e t t2 ty:TypeId} {o:Oper} {p:Prop} {s:ByteArray} {v xv z:Value} {α:Type} {φ ψ:World→Prop}
theorem Zl (h:p):Hid p:=h
def Blk (w:World) (b:Nat) (cs:List Value):Prop:=
  ∃T lo hi,w.heap[b]? =some (.cells cs.toArray T (lo,hi))/\(hi<=lo\/cs.length<=lo)
theorem Blk.lt (h:Blk w b cs):b<w.heap.size:=by
  obtain⟨T,lo,hi,h,_⟩:=h;exact(Array.getElem?_eq_some_iff.1 h).1
theorem Blk.cell {w:World} {b o:Nat} {cs:List Value} {v:Value} (h:Blk w b cs) (a:cs[o]? =some v):w.cell? ⟨b,o,none⟩=some v:=by
  obtain⟨T,lo,hi,h,_⟩:=h;simp [World.cell?,h,a]
theorem Blk.free (h:Blk w b cs) (o:Nat) (a:o<cs.length):w.frozen? ⟨b,o,none⟩=false:=by
  obtain⟨T,lo,hi,h,c⟩:=h;simp only[World.frozen?,h];simp;omega
theorem Blk.congr (h:Blk w b cs) (e:w'.heap[b]? =w.heap[b]?):Blk w' b cs:=by
  unfold Blk;rw[e];exact h
theorem Blk.drew (h:Blk w b cs):Blk w.drew b cs:=h
theorem Blk.set (h:Blk w b cs) (o:Nat) (v:Value):Blk (w.setCell ⟨b,o,none⟩ v) b (cs.set o v):=by
  obtain⟨T,lo,hi,h,a⟩:=h;refine⟨T,lo,hi, ?_,by simpa using a⟩;simp [World.setCell,Array.getElem?_modify,h]
theorem Blk.other (h:Blk w b cs) {a:Addr} (c:b≠a.block) (v:Value):Blk (w.setCell a v) b cs:=
  h.congr (Below.heap_setCell _ _ _ _ c)
theorem Blk.alloc (h:Blk w b cs) (o:Obj):Blk (w.alloc o) b cs:=
  h.congr (Below.heap_alloc _ _ _ h.lt)
theorem Blk.new (w:World) (cs:List Value) (T:TypeId):Blk (w.alloc (.cells cs.toArray T)) w.heap.size cs:=
  ⟨T,0,0,heap_alloc_new _ _,.inl (Nat.le_refl _)⟩
theorem Blk.new' (w:World) (cs:Array Value) (T:TypeId):Blk (w.alloc (.cells cs T)) w.heap.size cs.toList:=
  ⟨T,0,0,by rw[heap_alloc_new],.inl (Nat.le_refl _)⟩
structure Only (S:List Nat) (w w':World):Prop where
  os:w'.os=w.os
  tape:w'.tape=w.tape
  output:w'.output=w.output
  size:w.heap.size≤w'.heap.size
  block: ∀k,k<w.heap.size→k∉S→w'.heap[k]? =w.heap[k]?
theorem Only.refl (S:List Nat) (w:World):Only S w w:=⟨rfl,rfl,rfl,Nat.le_refl _,λ_ _ _=>rfl⟩
theorem Only.trans {S S':List Nat} {a b c:World} (h:Only S a b) (k:Only S' b c) (f: ∀x∈S',x∈S\/a.heap.size<=x):Only S a c:=
  ⟨k.os.trans h.os,k.tape.trans h.tape,k.output.trans h.output,Nat.le_trans h.size k.size,λi hi d=>
    (k.block i (Nat.lt_of_lt_of_le hi h.size) (λg=>by rcases f i g with e | e;exact d e;omega)).trans (h.block i hi d)⟩
theorem Only.trans1 {a b c:World} (h:Only S a b) (k:Only S b c):Only S a c:=h.trans k (λ_ d=> .inl d)
theorem Only.mono {S':List Nat} {a b:World} (h:Only S a b) (c: ∀x∈S,x∈S'):Only S' a b:=
  ⟨h.os,h.tape,h.output,h.size,λi hi d=>h.block i hi (λe=>d (c i e))⟩
theorem Only.drew {a:World} (h:Only S a w):Only S a w.drew:=⟨h.os,h.tape,h.output,h.size,h.block⟩
theorem Only.alloc {a:World} (h:Only S a w) (o:Obj):Only S a (w.alloc o):=
  h.trans (S':=[]) ⟨rfl,rfl,rfl,by simp,λk b _=>Below.heap_alloc _ _ _ b⟩ (λ_ c=>by cases c)
theorem Only.setCell {S:List Nat} {a w:World} (h:Only S a w) {p:Addr} (c:p.block∈S\/a.heap.size<=p.block) (u:Value):Only S a (w.setCell p u):=
  h.trans (S':=[p.block]) ⟨rfl,rfl,rfl,by simp [World.setCell],λk _ d=>Below.heap_setCell _ _ _ _ (by simpa using d)⟩
    (λx b=>by simp only[List.mem_singleton]at b;subst b;exact c)
theorem Only.below (h:Only [] w w'):Below w.heap.size w w':=
  ⟨h.os,h.tape,h.output,h.size,λk a=>h.block k a (by simp)⟩
theorem Only.belowB (a:Below B W w) (h:Only S w w') (b: ∀x∈S,B<=x) (d:B<=w.heap.size):Below B W w':=
  a.trans ⟨h.os,h.tape,h.output,h.size,λk e=>h.block k (by omega) (λc=>by have :=b k c;omega)⟩
theorem Only.blk (h:Only S w w') (a:Blk w b cs) (c:b∉S):Blk w' b cs:=
  a.congr (h.block b a.lt c)
theorem Only.cell {S:List Nat} {w w':World} {b o:Nat} (h:Only S w w') (a:b<w.heap.size) (c:b∉S):w'.cell? ⟨b,o,none⟩=w.cell? ⟨b,o,none⟩:=
  World.cell?_of_block (w:=w) (h.block b a c)
structure Apart (B N:Nat) (Fs:List (List Nat)):Prop where
  lo: ∀F∈Fs,∀k∈F,B≤k
  hi: ∀F∈Fs,∀k∈F,k<N
  dis: ∀(i j:Nat) (F G:List Nat),i≠j→Fs[i]? =some F→Fs[j]? =some G→ ∀k∈F,k∉G
theorem Apart.grow (h:Apart B N Fs) (a:N<=N'):Apart B N' Fs:=
  ⟨h.lo,λF b k c=>Nat.lt_of_lt_of_le (h.hi F b k c) a,h.dis⟩
theorem Apart.nil (B N:Nat):Apart B N []:=⟨by simp,by simp,by simp⟩
theorem Apart.upd (h:Apart B N Fs) (i:Nat) {F:List Nat} (hi:Fs[i]? =some F) (n: ∀k∈F',k∈F\/N<=k) (r: ∀k∈F',k<N') (s:N<=N') (t:B<=N):Apart B N' (Fs.set i F'):=by
  have l:F∈Fs:=List.mem_of_getElem? hi;have m:=(List.getElem?_eq_some_iff.1 hi).1;refine⟨λG c k d=> ?_,λG c k d=> ?_,λa b G K e c g k d f=> ?_⟩
  · rcases List.mem_or_eq_of_mem_set c with o | rfl
    · exact h.lo G o k d
    · rcases n k d with j | j
      · exact h.lo F l k j
      · omega
  · rcases List.mem_or_eq_of_mem_set c with o | rfl
    · have :=h.hi G o k d;omega
    · exact r k d
  · rw[List.getElem?_set]at c g;by_cases p:i=a
    · subst p;rw[if_pos rfl,if_pos m]at c;rw[if_neg e]at g;cases c;rcases n k d with j | j
      · exact h.dis i b F K e hi g k j f
      · have :=h.hi K (List.mem_of_getElem? g) k f;omega
    · rw[if_neg p]at c;by_cases q:i=b
      · subst q;rw[if_pos rfl,if_pos m]at g;cases g;rcases n k f with j | j
        · exact h.dis a i G F e c hi k d j
        · have :=h.hi G (List.mem_of_getElem? c) k d;omega
      · rw[if_neg q]at g;exact h.dis a b G K e c g k d f
theorem Apart.add (h:Apart B N Fs) (l: ∀k∈F',N<=k) (p: ∀k∈F',k<N') (r:N<=N') (s:B<=N):Apart B N' (Fs++[F']):=by
  refine⟨λG d k e=> ?_,λG d k e=> ?_,λa b G K m d f k e g=> ?_⟩
  · rcases List.mem_append.1 d with c | c
    · exact h.lo G c k e
    · simp only[List.mem_singleton]at c;subst c;have :=l k e;omega
  · rcases List.mem_append.1 d with c | c
    · have :=h.hi G c k e;omega
    · simp only[List.mem_singleton]at c;subst c;exact p k e
  · by_cases q:a<Fs.length
    · rw[List.getElem?_append_left q]at d;by_cases n:b<Fs.length
      · rw[List.getElem?_append_left n]at f;exact h.dis a b G K m d f k e g
      · rw[List.getElem?_append_right (by omega)]at f;have i:=List.mem_of_getElem? f;simp only[List.mem_singleton]at i;subst i;have c:=h.hi G (List.mem_of_getElem? d) k e;have o:=l k g;omega
    · rw[List.getElem?_append_right (by omega)]at d;have j:=List.mem_of_getElem? d;simp only[List.mem_singleton]at j;subst j;by_cases n:b<Fs.length
      · rw[List.getElem?_append_left n]at f;have c:=h.hi K (List.mem_of_getElem? f) k g;have o:=l k e;omega
      · have c:=(List.getElem?_eq_some_iff.1 d).1;rw[List.getElem?_append_right (by omega)]at f;have o:=(List.getElem?_eq_some_iff.1 f).1;simp at c o;omega
def X6 (cs:List Value) (o:Nat) (vs:List Value):List Value:=cs.take o++vs++cs.drop (o+vs.length)
theorem J2 {o:Nat} (h:o+vs.length<=cs.length):(X6 cs o vs).length=cs.length:=by
  simp [X6];omega
theorem Y0 {A B:List Value} {o:Nat} (h:o+vs.length<=A.length):X6 (A++B) o vs=X6 A o vs++B:=by
  unfold X6;rw[List.take_append_of_le_length (by omega),List.drop_append_of_le_length (by omega)];simp [List.append_assoc]
theorem Rm {A B:List Value} {o:Nat}:X6 (A++B) (A.length+o) vs=A++X6 B o vs:=by
  unfold X6;rw[List.take_length_add_append,Nat.add_assoc,List.drop_length_add_append];simp [List.append_assoc]
section
variable {P:Program}
theorem Wx (g o i:Nat):(⟨g,o,none⟩:Addr).add i=⟨g,o+i,none⟩:=by unfold Addr.add;split<;>simp_all
theorem JB (h:Blk w b cs) (off n:Nat) (d:off+n<=cs.length):
    (loadCells ⟨b,off,none⟩ n).run P w= .ok ((cs.drop off).take n).toArray w:=by
  have c:((cs.drop off).take n).length=n:=by simp;omega
  have :=run_loadCells_list (P:=P) w ⟨b,off,none⟩ ((cs.drop off).take n) (λj v a=>by
    rw[Wx];refine h.cell ?_;rw[List.getElem?_take]at a;split at a
    · rw[List.getElem?_drop]at a;exact a
    · cases a)
  rw[c]at this;exact this
theorem Wg: ∀(vs:List Value) (i:Nat) (cs:List Value) (w:World) (b off:Nat),Blk w b cs->off+i+vs.length<=cs.length->(∀v∈vs,v.oneCell'=true)->
    ∃w',(storeCells ⟨b,off,none⟩ vs i).run P w= .ok () w'/\Blk w' b (X6 cs (off+i) vs)/\Only [b] w w'/\w'.heap.size=w.heap.size
  | [],i,cs,w,b,off,c,_,_=>⟨w,rfl,by simpa [X6]using c,Only.refl _ _,rfl⟩
  | v::rest,i,cs,w,b,off,c,f,l=>by
    have hi:off+i<cs.length:=by simp at f;omega
    have a:=c.cell (o:=off+i) (List.getElem?_eq_getElem hi);have d:=c.free (off+i) hi
    have g:(store ((⟨b,off,none⟩:Addr).add i) v).run P w= .ok () (w.setCell ⟨b,off+i,none⟩ v):=by
      rw[Wx,run_store P w _ v _ (l v (by simp)),a];simp [d]
    obtain⟨w',m,h,j,k⟩:=Wg rest (i+1) (cs.set (off+i) v) (w.setCell ⟨b,off+i,none⟩ v) b off (c.set _ _) (by simp at f⊢;omega) (λx n=>l x (by simp [n]));refine⟨w', ?_, ?_, ?_,by rw[k];simp [World.setCell]⟩
    · simp only[storeCells,Sem.run_bind,g,Result.andThen_ok,m]
    · have e:=list_seg_step cs (off+i) v rest (by simp at f⊢;omega)
      have p:X6 (cs.set (off+i) v) (off+(i+1)) rest=X6 cs (off+i) (v::rest):=by
        unfold X6;rw[<-Nat.add_assoc];simpa using e
      rwa [p]at h
    · exact((Only.refl [b] w).setCell (.inl (by simp)) v).trans1 j
def does (P:Program) (o:Oper) (a:Act) (w:World) (R:Value->World->Prop):Prop:=
  ∃v w',((execOp a.eval o).run P w= .ok (.value v) w'\/((execOp a.eval o).run P w= .ok .skip w'/\v=undef))/\R v w'
theorem does.mono {R':Value->World->Prop} (h:does P o a w R) (b: ∀v w',R v w'->R' v w'):does P o a w R':=by
  obtain⟨v,w',c,d⟩:=h;exact⟨v,w',c,b v w' d⟩
theorem wp_does {K:Act->World->Prop} 
    (h:does P o a w R) (c: ∀v w',R v w'->K (a.put o.dst v) w'):o.wp P a w K Q:=by
  obtain⟨v,w',b,d⟩:=h;unfold Oper.wp;rcases b with b | ⟨b,rfl⟩
  · rw[b];exact c v w' d
  · rw[b];exact c _ w' d
theorem VQ {ops:Array Oper} {rest:List Oper} (b:o.guard=none)
    (h:does P o a w R) (c: ∀v w',R v w'->wpList P ops Q rest (a.put o.dst v) w'):wpList P ops Q (o::rest) a w:=
  wpList_plain b λ_ d=>wp_does h (λv w' e=>d _ _ (c v w' e))
def HE:TypeDesc->Bool | .struct _ | .array _ _=>true | _=>false
theorem OP {d:TypeDesc} (a:P.underlying t=some d) (hd:HE d=true) (w:World):(isAgg t).run P w= .ok true w:=by
  unfold isAgg;rw[Sem.run_bind,run_underlying a w];cases d<;>simp_all [HE]
theorem Zp (hi:(P.info? t).map (·.size)=some n) (w:World):(sizeOf t).run P w= .ok n w:=by
  cases a:P.info? t with
  | none=> simp [a]at hi
  | some i => have :i.size=n:=by simpa [a]using hi
              simp [sizeOf,typeInfo,a,this]
theorem LK (ty:TypeId) (x y:Operand) (g:o.op= .store ty x y) (h:a.eval x= .pointer (some ⟨b,off,none⟩))
    {vs:Array Value} (i:a.eval y= .agg vs) (j:Blk w b cs) (hi:(P.info? ty).map (·.size)=some n) (c:vs.size=n) (p:off+n<=cs.length)
    (k: ∀v∈vs.toList,v.oneCell'=true):
    does P o a w (λv w'=>v=undef/\Blk w' b (X6 cs off vs.toList)/\Only [b] w w'/\w'.heap.size=w.heap.size):=by
  obtain⟨w',l,d,e,f⟩:=Wg (P:=P) vs.toList 0 cs w b off j (by simp [c];omega) k;refine⟨_,w',.inr ⟨?_,rfl⟩,rfl,d,e,f⟩;have m:((Value.agg vs).cells.size≠n)=False:=by simp [Value.cells,c]
  simp [execOp,g,h,i,Instr.storeAt,Instr.sureAddr,storeVar,Zp hi,Value.cells,c,l]
theorem Yf (z:Array Value): ∀n,(madeCells z (n*z.size)).toList=(List.replicate n z.toList).flatten:=by
  intro n;apply List.ext_getElem?;intro j;simp only[madeCells,Array.toList_map,Array.toList_range,List.getElem?_map]
  induction n generalizing j with
  | zero=> simp
  | succ n ih=>
    rw[List.replicate_succ,List.flatten_cons];by_cases c:z.size=0
    · have :z= #[]:=by simpa using c
      subst this;have d: ∀n:Nat,(List.replicate n ([]:List Value)).flatten=[]:= λn=>by induction n<;>simp_all [List.replicate_succ]
      simp [d]
    · by_cases b:j<z.size
      · rw[List.getElem?_append_left (by simpa using b),List.getElem?_range (by rw[Nat.add_mul];omega)];simp [Nat.mod_eq_of_lt b,b]
      · rw[List.getElem?_append_right (by simpa using b)];have :=ih (j -z.toList.length);rw[<-this];simp only[Array.length_toList];by_cases a:j<(n+1)*z.size
        · rw[List.getElem?_range a,List.getElem?_range (by rw[Nat.add_mul]at a;omega)];simp only[Option.map_some];rw[Nat.mod_eq_sub_mod (by omega)]
        · rw[List.getElem?_eq_none (by simpa using a),List.getElem?_eq_none (by simp;rw[Nat.add_mul]at a;omega)]
theorem II (t:TypeId) (l c:Operand) (p:o.op= .makeSlice t l c) {kl kc:IntKind} {L C:Int} (q:a.eval l= .int kl L) (r:a.eval c= .int kc C)
    (s:L=(n:Int)) (u:C=(m:Int)) (x:n<=m) (y:P.underlying t=some (.slice e)) (hi:(P.info? e).map (λi=>(i.zero,i.size,i.bytes))=some (some z,size,bytes)) (k:z.cells.size=size)
    (B:bytes*m<=281474976710656) (D:m<=9223372036854775807):
    does P o a w (λv w'=>v= .slice (some ⟨w.heap.size,0,none⟩) n m/\Blk w' w.heap.size (List.replicate m z.cells.toList).flatten/\Only [] w w'/\w'.heap.size=w.heap.size+1):=by
  obtain⟨i,d,f,b,g⟩:=info_parts hi;subst s u
  have j:(i.bytes:Int)*(m:Int)<=281474976710656:=by
    rw[g];have h:((bytes*m:Nat):Int)<=281474976710656:=by omega
    rwa [Int.natCast_mul]at h
  have A:=run_make (P:=P) w t e i z y d f kl kc n m (by omega) (by omega) j (by omega);refine⟨.slice (some ⟨w.heap.size,0,none⟩) n m,w.alloc (.cells (madeCells z.cells (m*i.size)) e),.inl (by simp [execOp,p,q,r,A]),rfl, ?_,(Only.refl _ _).alloc _,by simp⟩;have :=Blk.new' w (madeCells z.cells (m*i.size)) e;rw[b,<-k,Yf]at this;rw[b,<-k];exact this
def Zw (l:List UInt8):List Value:=l.map λc=> .int .u8 (c.toNat:Int)
theorem U8 (l:List UInt8):(Zw l).length=l.length:=by simp [Zw]
theorem LX (l:List UInt8): ∀v∈Zw l,v.oneCell'=true:=by
  intro v a;simp only[Zw,List.mem_map]at a;obtain⟨c,_,rfl⟩:=a;rfl
theorem TR (l:List UInt8) (j:Nat):(Zw l)[j]? =l[j]?.map λc=> .int .u8 (c.toNat:Int):=by simp [Zw]
theorem Cs (dT sT:TypeId) (d x:Operand) (k:o.op= .call {callee:= .builtin .copy,args:= #[d,x],argTypes:= #[dT,sT]})
    {dLen dCap:Nat} (hd:a.eval d= .slice (some ⟨b,off,none⟩) dLen dCap) (l:a.eval x= .string s) (m:Blk w b cs) 
    (n:P.underlying dT=some (.slice e)) (hi:(P.info? e).map (·.size)=some 1) (c:off+min s.size dLen<=cs.length):
    does P o a w (λv w'=>v= .int .i64 ((min s.size dLen:Nat):Int)/\Blk w' b (X6 cs off (Zw (s.data.toList.take dLen)))/\Only [b] w w'/\w'.heap.size=w.heap.size):=by
  have f:s.data.size=s.size:=rfl;have g:(Zw (s.data.toList.take dLen)).length=min s.size dLen:=by simp [Zw,f,Nat.min_comm]
  obtain⟨w',p,h,i,j⟩:=Wg (P:=P) (Zw (s.data.toList.take dLen)) 0 cs w b off m (by rw[g];simpa using c) (LX _);refine⟨.int .i64 ((min s.size dLen:Nat):Int),w',.inl ?_,rfl,h,i,j⟩
  have q:((s.extract 0 (min s.size dLen)).data.map λb=>Value.int .u8 (b.toNat:Int)).toList=Zw (s.data.toList.take dLen):=by
    simp [Zw,ByteArray.extract,ByteArray.copySlice,f];omega
  have r:(Builtin.firstCells 1 (Nat.min s.size dLen) (.string s)).run P w= .ok (Zw (s.data.toList.take dLen)).toArray w:=by
    simp only[Builtin.firstCells,Sem.run_pure];rw[<-q,Array.toArray_toList]
  simp [execOp,k,hd,l,resolve,invoke,builtin,Builtin.copy_,run_underlying n,Zp hi,Builtin.lenOf,r,p,goInt]
theorem LO (t:TypeId) (x:Operand) (m:o.op= .call {callee:= .builtin .clear,args:= #[x],argTypes:= #[t]})
    (p:a.eval x= .slice (some ⟨b,off,none⟩) n cap) (q:Blk w b cs) 
    (r:P.underlying t=some (.slice e)) (hi:(P.info? e).map (λi=>i.zero)=some (some z)) (s: ∀v∈z.cells.toList,v.oneCell'=true) (c:off+n*z.cells.size<=cs.length):
    does P o a w (λv w'=>v= .tuple #[]/\Blk w' b (X6 cs off (List.replicate n z.cells.toList).flatten)/\Only [b] w w'/\w'.heap.size=w.heap.size):=by
  cases n with
  | zero=>
    refine⟨.tuple #[],w,.inl ?_,rfl,by simpa [X6]using q,Only.refl _ _,rfl⟩;simp [execOp,m,p,resolve,invoke,builtin,Builtin.clear_,run_underlying r]
  | succ n=>
    have u:(zeroValue e).run P w= .ok z w:=by
      cases g:P.info? e with
      | none=> simp [g]at hi
      | some i => have :i.zero=some z:=by simpa [g]using hi
                  simp [zeroValue,typeInfo,g,this]
    have y:(Builtin.zeroCells z.cells (n+1)).toList=(List.replicate (n+1) z.cells.toList).flatten:=Yf _ _;have d:(List.replicate (n+1) z.cells.toList).flatten.length=(n+1)*z.cells.size:=by simp
    obtain⟨w',A,h,j,k⟩:=Wg (P:=P) (List.replicate (n+1) z.cells.toList).flatten 0 cs w b off q (by rw[d];simpa using c)
      (λv f=>by
        simp only[List.mem_flatten,List.mem_replicate]at f;obtain⟨l,⟨_,rfl⟩,f⟩:=f;exact s v f)
    refine⟨.tuple #[],w',.inl ?_,rfl,h,j,k⟩;simp [execOp,m,p,resolve,invoke,builtin,Builtin.clear_,run_underlying r,u,y,A]
theorem LP (src dst:TypeId) (x:Operand) (d:o.op= .convert src dst x) (f:a.eval x= .string s) 
    (g:P.underlying src=some .string) (hd:P.underlying dst=some (.slice e)) (h:P.underlying e=some (.int .u8)):
    does P o a w (λv w'=> ∃cap,s.size<=cap/\v= .slice (some ⟨w.heap.size,0,none⟩) s.size cap/\Blk w' w.heap.size (Zw (s.data.toList++List.replicate (cap -s.size) 0))/\Only [] w w'/\w'.heap.size=w.heap.size+1):=by
  have i:=run_bytes_of_string (P:=P) w src dst e s g hd h;have j:s.data.size=s.size:=rfl;have c:s.size<=grownCap w s.size 0 e:=grownCap_ge w s.size 0 e;refine⟨_,_,.inl (by simp only[execOp,d,f];rw[Sem.run_bind,i];rfl),grownCap w s.size 0 e,c,rfl, ?_,((Only.refl _ _).drew).alloc _,by simp⟩
  have b:bytesRow s (grownCap w s.size 0 e)=(Zw (s.data.toList++List.replicate (grownCap w s.size 0 e -s.size) 0)).toArray:=by
    apply Array.ext';simp [bytesRow,Zw]
  refine⟨e,(bytesRow s (grownCap w s.size 0 e)).size,(bytesRow s (grownCap w s.size 0 e)).size+1, ?_,.inr ?_⟩
  · rw[<-b];exact heap_alloc_new _ _
  · rw[b];simp
def Own (w:World) (v:Value) (n size:Nat) (xs:List Value) (foot:List Nat):Prop:=
  xs.length=n*size/\
  ((v= .slice none 0 0/\n=0/\foot=[])\/
   ∃b cap sp,v= .slice (some ⟨b,0,none⟩) n cap/\n<=cap/\Blk w b (xs++sp)/\(xs++sp).length=cap*size/\foot=[b])
theorem Own.nil (w:World) (size:Nat):Own w (.slice none 0 0) 0 size [] []:=⟨by simp,.inl ⟨rfl,rfl,rfl⟩⟩
theorem Own.lt {w:World} {v:Value} {n size:Nat} {xs:List Value} {foot:List Nat} (h:Own w v n size xs foot): ∀k∈foot,k<w.heap.size:=by
  obtain⟨_,⟨_,_,rfl⟩ | ⟨b,cap,sp,_,_,c,_,rfl⟩⟩:=h
  · intro k a;cases a
  · intro k a;simp only[List.mem_singleton]at a;subst a;exact c.lt
theorem Own.congr {w w':World} {v:Value} {n size:Nat} {xs:List Value} {foot:List Nat} (h:Own w v n size xs foot) (e: ∀k∈foot,w'.heap[k]? =w.heap[k]?):Own w' v n size xs foot:=by
  obtain⟨d,⟨a,c,rfl⟩ | ⟨b,cap,sp,a,c,f,g,rfl⟩⟩:=h
  · exact⟨d,.inl ⟨a,c,rfl⟩⟩
  · exact⟨d,.inr ⟨b,cap,sp,a,c,f.congr (e b (by simp)),g,rfl⟩⟩
theorem Only.own (h:Only S w w') (a:Own w v n size xs foot) (c: ∀k∈foot,k∉S):Own w' v n size xs foot:=
  a.congr λk b=>h.block k (a.lt k b) (c k b)
theorem Own.shape (h:Own w v n size xs foot): ∃a cap,v= .slice a n cap/\n<=cap:=by
  obtain⟨_,⟨rfl,rfl,_⟩ | ⟨b,cap,sp,rfl,c,_⟩⟩:=h
  · exact⟨_,_,rfl,Nat.le_refl _⟩
  · exact⟨_,_,rfl,c⟩
theorem Own.row (h:Own w v n size xs foot) (e:0<n):
    ∃b cap sp,v= .slice (some ⟨b,0,none⟩) n cap/\n<=cap/\Blk w b (xs++sp)/\foot=[b]:=by
  obtain⟨_,⟨_,rfl,_⟩ | ⟨b,cap,sp,rfl,a,c,_,d⟩⟩:=h
  · omega
  · exact⟨b,cap,sp,rfl,a,c,d⟩
theorem Own.cell {w:World} {b o n n' cap size:Nat} {xs:List Value} {foot:List Nat} (h:Own w (.slice (some ⟨b,o,none⟩) n' cap) n size xs foot) {j:Nat} {v:Value} (c:xs[j]? =some v):w.cell? ⟨b,j,none⟩=some v:=by
  obtain⟨_,⟨a,_⟩ | ⟨b',cap',sp,a,e,d,_,f⟩⟩:=h
  · cases a
  · cases a;exact d.cell (by rw[List.getElem?_append_left (List.getElem?_eq_some_iff.1 c).1];exact c)
theorem RI (h:Blk w b cs) (size m off len cap:Nat) (a:off+m*size<=cs.length):
    (Builtin.firstCells size m (.slice (some ⟨b,off,none⟩) len cap)).run P w= .ok ((cs.drop off).take (m*size)).toArray w:=by
  simp only[Builtin.firstCells];exact JB h off (m*size) a
theorem SN (a:Option Addr) (n c:Nat): ∀b:World,(Builtin.lenOf (.slice a n c)).run P b= .ok n b:= λ_=>rfl
theorem FI {P:Program} {sp:List Value} {i:TypeInfo} 
    (x:P.underlying t=some (.slice e)) (f:P.underlying t2=some d2) (g: ∀k,d2≠ .int k) (hi:P.info? e=some i) (h:i.size=size)
    (j: ∀r,(Builtin.lenOf xv).run P r= .ok m r) (l:(Builtin.firstCells size m xv).run P w= .ok news.toArray w)
    (y:xs.length=n*size) (o:news.length=m*size) (z: ∀v∈news,v.oneCell'=true) (A:Blk w b (xs++sp)) (s:(xs++sp).length=cap*size) (a:n+m<=cap):
    ∃w',(Builtin.append_ #[t,t2] ty #[.slice (some ⟨b,0,none⟩) n cap,xv]).run P w= .ok (.slice (some ⟨b,0,none⟩) (n+m) cap) w'/\Blk w' b (xs++news++sp.drop (m*size))/\Only [b] w w'/\w'.heap.size=w.heap.size:=by
  have u:n*size+m*size<=cap*size:=by rw[<-Nat.add_mul];exact Nat.mul_le_mul_right _ a
  obtain⟨w',B,c,p,q⟩:=Wg (P:=P) news 0 (xs++sp) w b (n*size) A (by omega) z
  have C:X6 (xs++sp) (n*size+0) news=xs++news++sp.drop (m*size):=by
    unfold X6;rw[Nat.add_zero,<-y,List.take_left,List.drop_append];simp [o]
  rw[C]at c;refine⟨w', ?_,c,p,q⟩;have d:((match d2 with | .int _=>true | _=>false):Bool)=false:=by cases d2<;>first | rfl | exact absurd rfl (g _)
  subst h;simp [Builtin.append_,run_underlying x,run_underlying f,d,sizeOf,typeInfo,hi,j,l,a,Wx,B]
theorem Bl {P:Program} {base:Option Addr} {i:TypeInfo} 
    (A:P.underlying t=some (.slice e)) (h:P.underlying t2=some d2) (j: ∀k,d2≠ .int k) (hi:P.info? e=some i) (l:i.size=size) (B:i.zero=some z) (o:z.cells.size=size) (p:i.bytes=bytes)
    (q: ∀c,(Builtin.lenOf xv).run P c= .ok m c) (r:(Builtin.firstCells size m xv).run P w.drew= .ok news.toArray w.drew)
    (d:(Builtin.firstCells size n (.slice base n cap)).run P w.drew= .ok xs.toArray w.drew)
    (C:xs.length=n*size) (s:news.length=m*size) (b: ¬n+m<=cap) (a:(n+m)*bytes<=140737488355328) (y:n+m<=9223372036854775807):
    ∃ w' cap' sp,(Builtin.append_ #[t,t2] ty #[.slice base n cap,xv]).run P w= .ok (.slice (some ⟨w.heap.size,0,none⟩) (n+m) cap') w'/\n+m<=cap'/\Blk w' w.heap.size (xs++news++sp)/\
      (xs++news++sp).length=cap'*size/\Only [] w w'/\w'.heap.size=w.heap.size+1:=by
  have f:((match d2 with | .int _=>true | _=>false):Bool)=false:=by cases d2<;>first | rfl | exact absurd rfl (j _)
  have u:=grownCap_ge w (n+m) cap e;refine⟨w.drew.alloc (.cells (xs.toArray++news.toArray++Builtin.zeroCells z.cells (grownCap w (n+m) cap e -(n+m))) e),grownCap w (n+m) cap e,(Builtin.zeroCells z.cells (grownCap w (n+m) cap e -(n+m))).toList, ?_,u, ?_, ?_,((Only.refl _ _).drew).alloc _,by simp⟩
  · subst l p;have v: ¬(281474976710656<Builtin.nextslicecap (n+m) cap*i.bytes):=by have :=growslice_fits (need:=n+m) (old:=cap) (bytes:=i.bytes) (by omega) a;omega
    have g: ¬(9223372036854775807<(n:Int)+(m:Int)/\i.bytes=0):=by omega
    have x: ∀c,(zeroValue e).run P c= .ok z c:= λc=>by simp [zeroValue,typeInfo,hi,B]
    simp [Builtin.append_,run_underlying A,run_underlying h,f,sizeOf,typeInfo,hi,q,b,v,g,x,r,d,Question.forced,newRow,grownCap];rw[<-Array.append_assoc];simp
  · have :=Blk.new' w.drew (xs.toArray++news.toArray++Builtin.zeroCells z.cells (grownCap w (n+m) cap e -(n+m))) e
    simpa using this
  · simp only[List.length_append,Array.length_toList,size_zeroCells,o,C,s,<-Nat.add_mul];congr 1;omega
theorem Kv (t t2:TypeId) (s x:Operand) (V:o.op= .call {callee:= .builtin .append,args:= #[s,x],argTypes:= #[t,t2]})
    {sv:Value} (W:a.eval s=sv) (X:a.eval x=xv) (C:Own w sv n size xs foot)
    (R:P.underlying t=some (.slice e)) (p:P.underlying t2=some d2) (q: ∀k,d2≠ .int k)
    (hi:(P.info? e).map (λi=>(i.zero,i.size,i.bytes))=some (some z,size,bytes)) (L:z.cells.size=size) (h0:0<size)
    (r: ∀J,(Builtin.lenOf xv).run P J= .ok m J) (u: ∀J:World,J.heap=w.heap->(Builtin.firstCells size m xv).run P J= .ok news.toArray J)
    (f:news.length=m*size) (Y: ∀v∈news,v.oneCell'=true) (d:(n+m)*bytes<=140737488355328) (D:n+m<=9223372036854775807):
    does P o a w (λv w'=> ∃foot',Own w' v (n+m) size (xs++news) foot'/\Only foot w w'/\(∀k∈foot',k∈foot\/w.heap.size<=k)/\(v= .slice none 0 0->sv= .slice none 0 0)):=by
  obtain⟨i,y,M,A,N⟩:=info_parts hi;have F:(xs++news).length=(n+m)*size:=by rw[List.length_append,C.1,f,Nat.add_mul]
  have B: ∀v w',(Builtin.append_ #[t,t2] o.type #[sv,xv]).run P w= .ok v w'->(execOp a.eval o).run P w= .ok (.value v) w':= λv w' G=>by
    simp [execOp,V,W,X,resolve,invoke,builtin,G]
  obtain⟨K,⟨rfl,rfl,rfl⟩ | ⟨b,cap,sp,rfl,hc,T,E,rfl⟩⟩:=C
  · have S:xs=[]:=List.eq_nil_of_length_eq_zero (by simpa using K);subst S;by_cases Z:m=0
    · subst Z;have hn:news=[]:=List.eq_nil_of_length_eq_zero (by simpa using f);subst hn;refine⟨.slice none 0 0,w,.inl (B _ _ ?_),[],Own.nil w size,Only.refl _ _,by simp,λh=>h⟩;have O:((match d2 with | .int _=>true | _=>false):Bool)=false:=by cases d2<;>first | rfl | exact absurd rfl (q _)
      subst A;simp [Builtin.append_,run_underlying R,run_underlying p,O,sizeOf,typeInfo,y,r,u w rfl]
    · obtain⟨w',cap',sp,G,H,g,I,j,Q⟩:=Bl (P:=P) (w:=w) (base:=none) (n:=0) (cap:=0) (ty:=o.type) R p q y A M L N r (u w.drew rfl) (xs:=[]) (by simp [Builtin.firstCells]) (by simp) f (by omega) d D;exact⟨_,w',.inl (B _ _ G),[w.heap.size],⟨F,.inr ⟨_,cap',sp,rfl,H,g,I,rfl⟩⟩,j,by simp,λ_=>rfl⟩
  · by_cases c:n+m<=cap
    · obtain⟨w',G,g,j,Q⟩:=FI (P:=P) (ty:=o.type) R p q y A r (u w rfl) K f Y T E c;refine⟨_,w',.inl (B _ _ G),[b],⟨F,.inr ⟨b,cap,sp.drop (m*size),rfl,c,g, ?_,rfl⟩⟩,j,by simp,λh=>by cases h⟩;have U:n*size+m*size<=cap*size:=by rw[<-Nat.add_mul];exact Nat.mul_le_mul_right _ c
      simp only[List.length_append,List.length_drop,f,K]at E⊢;omega
    · have l:=RI (P:=P) (w:=w.drew) (b:=b) (cs:=xs++sp) T size n 0 n cap (by simp [K]);simp only[List.drop_zero]at l;rw[<-K,List.take_left]at l;obtain⟨w',cap',sp',G,H,g,I,j,Q⟩:=Bl (P:=P) (w:=w) (ty:=o.type) R p q y A M L N r (u w.drew rfl) l K f c d D;exact⟨_,w',.inl (B _ _ G),[w.heap.size],⟨F,.inr ⟨_,cap',sp',rfl,H,g,I,rfl⟩⟩,j.mono (by simp),by simp,λh=>by cases h⟩
theorem Own.alloc (h:Own w v n size xs foot) (o:Obj):Own (w.alloc o) v n size xs foot:=
  h.congr λk a=>Below.heap_alloc _ _ _ (h.lt k a)
structure Ast where
  foot:List Nat
  φ:World→Prop
  fr: ∀w w':World,(∀k∈foot,w'.heap[k]? =w.heap[k]?)→φ w→φ w'
def ownA (v:Value) (n size:Nat) (xs:List Value) (foot:List Nat):Ast:=⟨foot,λw=>Own w v n size xs foot,λ_ _ a h=>h.congr a⟩
def blkA (b:Nat) (cs:List Value):Ast:=⟨[b],λw=>Blk w b cs,λ_ _ a h=>h.congr (a b (by simp))⟩
structure Sepd (W w:World) (As:List Ast):Prop where
  bel:Below W.heap.size W w
  ap:Apart W.heap.size w.heap.size (As.map (·.foot))
  all: ∀A∈As,A.φ w
theorem Sepd.get {As:List Ast} (h:Sepd W w As) (i:Nat) {A:Ast} (hi:As[i]? =some A):A.φ w:=h.all A (List.mem_of_getElem? hi)
theorem Sepd.own {As:List Ast} (h:Sepd W w As) (i:Nat) {f:List Nat} (hi:As[i]? =some (ownA v n size xs f)):Own w v n size xs f:=h.get i hi
theorem Sepd.blk {As:List Ast} (h:Sepd W w As) (i:Nat) (hi:As[i]? =some (blkA b cs)):Blk w b cs:=h.get i hi
theorem Sepd.start (W:World):Sepd W W []:=⟨Below.refl _ _,Apart.nil _ _,by simp⟩
theorem Sepd.le {As:List Ast} (h:Sepd W w As):W.heap.size<=w.heap.size:=h.bel.size
theorem Sepd.dis {W w:World} {As:List Ast} (h:Sepd W w As) (i j:Nat) {A B:Ast} (a:i≠j) (hi:As[i]? =some A) (b:As[j]? =some B): ∀k∈A.foot,k∉B.foot:=
  h.ap.dis i j A.foot B.foot a (by simp [hi]) (by simp [b])
theorem Sepd.only {As:List Ast} (h:Sepd W w As) (a:Only [] w w'):Sepd W w' As:=
  ⟨a.belowB h.bel (by simp) h.le,h.ap.grow a.size,λA b=>A.fr w w' (λk c=>a.block k (h.ap.hi A.foot (List.mem_map_of_mem b) k c) (by simp)) (h.all A b)⟩
theorem Sepd.alloc {W w:World} {As:List Ast} (h:Sepd W w As) (o:Obj):Sepd W (w.alloc o) As:=h.only ((Only.refl [] w).alloc o)
theorem Sepd.drew {W w:World} {As:List Ast} (h:Sepd W w As):Sepd W w.drew As:=h.only (Only.refl [] w).drew
theorem Sepd.upd {W w w':World} {As:List Ast} (h:Sepd W w As) (i:Nat) {A A':Ast} (hi:As[i]? =some A) (f:Only A.foot w w') (m:A'.φ w') (n: ∀k∈A'.foot,k∈A.foot\/w.heap.size<=k) (g: ∀k∈A'.foot,k<w'.heap.size):
    Sepd W w' (As.set i A'):=by
  have l:A∈As:=List.mem_of_getElem? hi;refine⟨f.belowB h.bel (λk d=>h.ap.lo A.foot (List.mem_map_of_mem l) k d) h.le, ?_,λB o=> ?_⟩
  · rw[List.map_set];exact h.ap.upd i (by simp [hi]) n g f.size h.le
  · obtain⟨j,b⟩:=List.mem_iff_getElem?.1 o;rw[List.getElem?_set]at b;by_cases a:i=j
    · subst a;rw[if_pos rfl,if_pos (List.getElem?_eq_some_iff.1 hi).1]at b;cases b;exact m
    · rw[if_neg a]at b;have c:B∈As:=List.mem_of_getElem? b;exact B.fr w w' (λk d=>f.block k (h.ap.hi B.foot (List.mem_map_of_mem c) k d) (h.dis j i (λe=>a e.symm) b hi k d)) (h.all B c)
theorem Sepd.add {W w w':World} {As:List Ast} (h:Sepd W w As) (c:Only [] w w') {A':Ast} (e:A'.φ w') (f: ∀k∈A'.foot,w.heap.size<=k) (b: ∀k∈A'.foot,k<w'.heap.size):Sepd W w' (As++[A']):=by
  have d:=h.only c;refine⟨d.bel, ?_,λB g=> ?_⟩
  · rw[List.map_append];exact h.ap.add f b c.size h.le
  · rcases List.mem_append.1 g with a | a
    · exact d.all B a
    · simp only[List.mem_singleton]at a;subst a;exact e
end
structure Agree (F:Nat→Prop) (w w':World):Prop where
  os:w'.os=w.os
  tape:w'.tape=w.tape
  output:w'.output=w.output
  blk: ∀k,F k→w'.heap[k]? =w.heap[k]?
structure Th where
  at_:World→(Nat→Prop)→Prop
  fr: ∀{w w' F},Agree F w w'→at_ w F→at_ w' F
  lt: ∀{w F},at_ w F→ ∀k,F k→k<w.heap.size
variable {A A':Th} {As:List Th}
def IA:Th:=⟨λ_ F=>F= λ_=>False,λ_ h=>h,λh k a=>by subst h;exact a.elim⟩
def WH (φ:Prop):Th:=⟨λ_ F=>(F= λ_=>False)/\φ,λ_ h=>h,λh k a=>by obtain⟨rfl,_⟩:=h;exact a.elim⟩
def Cp {α:Type} (f:α->Th):Th:=⟨λw F=> ∃x,(f x).at_ w F,λa ⟨x,h⟩=>⟨x,(f x).fr a h⟩,λ⟨x,h⟩ k b=>(f x).lt h k b⟩
def Dk (A B:Th):Th where
  at_:= λw F=> ∃F1 F2,F=(λk=>F1 k\/F2 k)/\(∀k,F1 k->F2 k->False)/\A.at_ w F1/\B.at_ w F2
  fr:= λa ⟨F1,F2,e,d,c,f⟩=>by
    subst e;exact⟨F1,F2,rfl,d,A.fr ⟨a.os,a.tape,a.output,λk b=>a.blk k (.inl b)⟩ c,B.fr ⟨a.os,a.tape,a.output,λk b=>a.blk k (.inr b)⟩ f⟩
  lt:= λ⟨F1,F2,e,_,c,f⟩ k b=>by
    subst e;rcases b with b | b
    · exact A.lt c k b
    · exact B.lt f k b
def starL:List Th->Th
  | []=>IA
  | A::As=>Dk A (starL As)
def Sat (w:World) (As:List Th):Prop:= ∃F,(starL As).at_ w F
theorem Sq {B C:Th} {F:Nat->Prop} (h:(Dk A (Dk B C)).at_ w F):(Dk B (Dk A C)).at_ w F:=by
  obtain⟨F1,F2,rfl,d,c,G1,G2,rfl,e,f,g⟩:=h
  exact⟨G1,λk=>F1 k\/G2 k,funext λk=>propext ⟨by rintro(a | a | a)<;> simp [a],by rintro(a | a | a)<;> simp [a]⟩,
    λk a b=>by rcases b with b | b;exact d k b (.inl a);exact e k a b,f,F1,G2,rfl,λk a b=>d k a (.inr b),c,g⟩
theorem Lg {B B':Th} (a: ∀F,B.at_ w F->B'.at_ w F) {F:Nat->Prop} (h:(Dk A B).at_ w F):(Dk A B').at_ w F:=by
  obtain⟨F1,F2,rfl,d,b,c⟩:=h;exact⟨F1,F2,rfl,d,b,a _ c⟩
theorem Lh {Bs:List Th} (a:As.Perm Bs) : ∀{F:Nat->Prop},(starL As).at_ w F->(starL Bs).at_ w F:=by
  induction a with
  | nil=> exact λh=>h
  | cons A _ ih=> exact λh=>Lg (λ_=>ih) h
  | swap A B l=> exact λh=>Sq h
  | trans _ _ ih1 ih2=> exact λh=>ih2 (ih1 h)
theorem Sat.perm {Bs:List Th} (h:Sat w As) (a:As.Perm Bs):Sat w Bs:=let ⟨F,h⟩:=h;⟨F,Lh a h⟩
theorem Vi {Bs:List Th} {F:Nat->Prop}:(starL (As++Bs)).at_ w F↔(Dk (starL As) (starL Bs)).at_ w F:=by
  induction As generalizing F with
  | nil=>
    constructor
    · intro h;exact⟨λ_=>False,F,funext λk=>by simp,λ_ a _=>a,rfl,h⟩
    · rintro⟨F1,F2,rfl,_,f,c⟩;have :F1= λ_=>False:=f;subst this
      simpa using c
  | cons A As ih=>
    constructor
    · rintro⟨F1,F2,rfl,d,f,c⟩;obtain⟨G1,G2,rfl,e,g1,g2⟩:=ih.1 c
      exact⟨λk=>F1 k\/G1 k,G2,funext λk=>propext ⟨by rintro(a | a | a)<;> simp [a],by rintro((a | a) | a)<;> simp [a]⟩,
        λk a b=>by rcases a with a | a;exact d k a (.inr b);exact e k a b,⟨F1,G1,rfl,λk a b=>d k a (.inl b),f,g1⟩,g2⟩
    · rintro⟨F1,F2,rfl,d,⟨G1,G2,rfl,e,g1,g2⟩,c⟩
      exact⟨G1,λk=>G2 k\/F2 k,funext λk=>propext ⟨by rintro((a | a) | a)<;> simp [a],by rintro(a | a | a)<;> simp [a]⟩,
        λk a b=>by rcases b with b | b;exact e k a b;exact d k (.inl a) b,g1,ih.2 ⟨G2,F2,rfl,λk a b=>d k (.inr a) b,g2,c⟩⟩
theorem Sat.flat {Bs:List Th} (h:Sat w (starL As::Bs)):Sat w (As++Bs):=let ⟨F,h⟩:=h;⟨F,Vi.2 h⟩
theorem Sat.fold {Bs:List Th} (h:Sat w (As++Bs)):Sat w (starL As::Bs):=let ⟨F,h⟩:=h;⟨F,Vi.1 h⟩
theorem Nf (hi:As[i]? =some A):As.Perm (A::As.eraseIdx i):=by
  induction As generalizing i with
  | nil=> simp at hi
  | cons C As ih=>
    cases i with
    | zero=> simp at hi;subst hi;simp
    | succ i=>
      simp only[List.eraseIdx_cons_succ];exact((ih (by simpa using hi)).cons C).trans (List.Perm.swap _ _ _)
theorem qby {B:Th} (hi:As[i]? =some A):(B::As.eraseIdx i).Perm (As.set i B):=by
  induction As generalizing i with
  | nil=> simp at hi
  | cons C As ih=>
    cases i with
    | zero=> simp
    | succ i=>
      simp only[List.eraseIdx_cons_succ,List.set_cons_succ];exact(List.Perm.swap _ _ _).trans ((ih (by simpa using hi)).cons C)
theorem Sat.pull (h:Sat w As) (i:Nat) (hi:As[i]? =some A):Sat w (A::As.eraseIdx i):=h.perm (Nf hi)
theorem Sat.put {B:Th} (i:Nat) (hi:As[i]? =some A) (h:Sat w (B::As.eraseIdx i)):Sat w (As.set i B):=h.perm (qby hi)
theorem Sat.get (h:Sat w As) (i:Nat) (hi:As[i]? =some A): ∃F,A.at_ w F:=by
  obtain⟨F,F1,F2,_,_,a,_⟩:=h.pull i hi;exact⟨F1,a⟩
theorem Sat.step0 (h:Sat w (A::As)) (e: ∀F,A.at_ w F-> ∃F',A'.at_ w' F'/\(∀k,F' k->F k\/w.heap.size<=k)/\Agree (λk=>k<w.heap.size/\ ¬F k) w w'):Sat w' (A'::As):=by
  obtain⟨F,F1,F2,rfl,d,i,f⟩:=h;obtain⟨F',g1,g2,ag⟩:=e F1 i;have lt2:=(starL As).lt f;refine⟨_,F',F2,rfl,λk a b=> ?_,g1,(starL As).fr ⟨ag.os,ag.tape,ag.output,λk g=>ag.blk k ⟨lt2 k g,λc=>d k c g⟩⟩ f⟩;rcases g2 k a with c | c
  · exact d k c b
  · have :=lt2 k b;omega
theorem Sat.step (h:Sat w As) (i:Nat) (hi:As[i]? =some A) (a: ∀F,A.at_ w F-> ∃F',A'.at_ w' F'/\(∀k,F' k->F k\/w.heap.size<=k)/\Agree (λk=>k<w.heap.size/\ ¬F k) w w'):Sat w' (As.set i A'):=
  Sat.put i hi ((h.pull i hi).step0 a)
theorem Sat.new (h:Sat w As) (c:Only [] w w') {F':Nat->Prop} (d:A.at_ w' F') (e: ∀k,F' k->w.heap.size<=k):Sat w' (A::As):=by
  obtain⟨F,h⟩:=h;have lt:=(starL As).lt h;refine⟨_,F',F,rfl,λk a b=> ?_,d,(starL As).fr ⟨c.os,c.tape,c.output,λk f=>c.block k (lt k f) (by simp)⟩ h⟩;have :=e k a;have :=lt k b;omega
theorem Sat.only (h:Sat w As) (a:Only [] w w'):Sat w' As:=by
  obtain⟨F,h⟩:=h;have lt:=(starL As).lt h;exact⟨F,(starL As).fr ⟨a.os,a.tape,a.output,λk b=>a.block k (lt k b) (by simp)⟩ h⟩
theorem Sat.ex {f:α->Th} (h:Sat w (Cp f::As)): ∃x,Sat w (f x::As):=by
  obtain⟨F,F1,F2,e,d,⟨x,a⟩,b⟩:=h;exact⟨x,F,F1,F2,e,d,a,b⟩
theorem Sat.ex_intro {f:α->Th} (x:α) (h:Sat w (f x::As)):Sat w (Cp f::As):=by
  obtain⟨F,F1,F2,e,d,a,b⟩:=h;exact⟨F,F1,F2,e,d,⟨x,a⟩,b⟩
theorem Sat.pure_elim {φ:Prop} (h:Sat w (WH φ::As)):φ/\Sat w As:=by
  obtain⟨F,F1,F2,e,d,⟨rfl,a⟩,b⟩:=h;exact⟨a,F2,b⟩
theorem Sat.pure_intro {φ:Prop} (b:φ) (h:Sat w As):Sat w (WH φ::As):=by
  obtain⟨F,h⟩:=h;exact⟨F,λ_=>False,F,funext λk=>by simp,λ_ a _=>a,⟨rfl,b⟩,h⟩
theorem Sat.tail (h:Sat w (A::As)):Sat w As:=by
  obtain⟨F,F1,F2,e,d,b,a⟩:=h;exact⟨F2,a⟩
theorem Sat.drop (h:Sat w As) (i:Nat) (hi:As[i]? =some A):Sat w (As.eraseIdx i):=(h.pull i hi).tail
def Ub:List Th->Nat->Th
  | A::_,0=>A
  | _::As,i+1=>Ub As i
  | [],_=>IA
def Yu (As:List Th):List Nat->List Th
  | []=>[]
  | i::is=>Ub As i::Yu As is
def VI:List Bool->List Th->List Th
  | true::m,_::As=>VI m As
  | false::m,A::As=>A::VI m As
  | [],As=>As
  | _::_,[]=>[]
def YC:Nat->List Bool->List Nat
  | _,[]=>[]
  | i,true::m=>i::YC (i+1) m
  | i,false::m=>YC (i+1) m
def Ta (k:Nat) (is:List Nat) (m:List Bool):Bool:=decide (m.length<=k)&&decide (is.length=(YC 0 m).length)&&(YC 0 m).all (is.contains ·)&&is.all ((YC 0 m).contains ·)&&decide (is.Nodup)
theorem VY: ∀(m:List Bool) (k i:Nat),i∈YC k m->k<=i/\i<k+m.length
  | [],k,i,h=>by simp [YC]at h
  | true::m,k,i,h=>by
    simp only[YC,List.mem_cons]at h;rcases h with rfl | h
    · simp
    · have :=VY m (k+1) i h;simp;omega
  | false::m,k,i,h=>by
    have :=VY m (k+1) i h;simp;omega
theorem VX: ∀(m:List Bool) (k:Nat),(YC k m).Nodup
  | [],_=>List.nodup_nil
  | true::m,k=>by
    simp only[YC,List.nodup_cons];exact⟨λh=>by have :=VY m (k+1) k h;omega,VX m _⟩
  | false::m,k=>VX m _
theorem MG: ∀(As:List Th) (m:List Bool) (k:Nat),m.length<=As.length->As.Perm (VI m As++(YC k m).map λi=>Ub As (i -k))
  | As,[],k,_=>by cases As<;> simp [VI,YC]
  | [],b::m,k,h=>by simp at h
  | A::As,true::m,k,h=>by
    simp only[VI,YC,List.map_cons,Nat.sub_self]
    have e:(YC (k+1) m).map (λi=>Ub (A::As) (i -k))=(YC (k+1) m).map λi=>Ub As (i -(k+1)):=by
      apply List.map_congr_left;intro i hi;have :=(VY m (k+1) i hi).1;rw[show i -k=(i -(k+1))+1 by omega];rfl
    rw[e];exact((MG As m (k+1) (by simpa using h)).cons A).trans List.perm_middle.symm
  | A::As,false::m,k,h=>by
    simp only[VI,YC,List.cons_append]
    have e:(YC (k+1) m).map (λi=>Ub (A::As) (i -k))=(YC (k+1) m).map λi=>Ub As (i -(k+1)):=by
      apply List.map_congr_left;intro i hi;have :=(VY m (k+1) i hi).1;rw[show i -k=(i -(k+1))+1 by omega];rfl
    rw[e];exact(MG As m (k+1) (by simpa using h)).cons A
theorem Dl: ∀{a b:List Nat},a.Nodup->b.Nodup->(∀x∈a,x∈b)->(∀x∈b,x∈a)->a.Perm b
  | [],b,_,_,_,g=>by
    cases b with
    | nil=> exact .refl _
    | cons x b=> exact absurd (g x (by simp)) (by simp)
  | x::a,b,j,h,i,g=>by
    have k:x∈b:=i x (by simp);have l:=List.perm_cons_erase k;have d:=List.nodup_cons.1 j;refine((Dl d.2 (h.erase x) (λy f=> ?_) (λy f=> ?_)).cons x).trans l.symm
    · have c:y≠x:= λe=>by subst e;exact d.1 f
      exact(List.mem_erase_of_ne c).2 (i y (by simp [f]))
    · have c:y≠x:= λe=>by subst e;exact(List.Nodup.not_mem_erase h) f
      have :=g y (List.mem_of_mem_erase f);rcases List.mem_cons.1 this with e | e
      · exact absurd e c
      · exact e
theorem Ie (As:List Th) (is:List Nat):Yu As is=is.map (Ub As):=by
  induction is with
  | nil=>rfl
  | cons i is ih=> simp [Yu,ih]
theorem Sat.split (h:Sat w As) (is:List Nat) (m:List Bool) (a:Ta As.length is m=true):Sat w (Yu As is++[starL (VI m As)]):=by
  simp only[Ta,Bool.and_eq_true,decide_eq_true_eq,List.all_eq_true,List.contains_iff_mem]at a;obtain⟨⟨⟨⟨b,_⟩,c⟩,d⟩,e⟩:=a;have f:=MG As m 0 b;have g:is.Perm (YC 0 m):=Dl e (VX m 0) d c;rw[Ie];refine Sat.perm (As:=starL (VI m As)::is.map (Ub As)) ((h.perm (f.trans ?_)).fold) (List.perm_append_comm (l₁:=[starL (VI m As)]));simp only[Nat.sub_zero];exact((g.map (Ub As)).symm).append_left _
theorem Sat.reorder (h:Sat w As) (is:List Nat) (b:Ta As.length is (List.replicate As.length true)=true):Sat w (Yu As is):=by
  have a:=h.split is _ b
  have e:VI (List.replicate As.length true) As=[]:=by
    clear b a h
    induction As with
    | nil=>rfl
    | cons A As ih=>simpa [List.replicate_succ,VI]using ih
  rw[e]at a;obtain⟨F,c⟩:=a;obtain⟨F1,F2,rfl,d,g1,g2⟩:=Vi.1 c;exact⟨F1,g1⟩
theorem Sat.join {Bs:List Th} (h:Sat w Bs) (a:Bs.getLast? =some (starL As)):Sat w (Bs.dropLast++As):=by
  have e:Bs=Bs.dropLast++[starL As]:=by
    obtain⟨ys,rfl⟩:=List.getLast?_eq_some_iff.1 a;simp
  rw[e]at h;exact((h.perm List.perm_append_comm).flat).perm List.perm_append_comm
def rvK {R:Type _}:List Th->List Th->(List Th->R)->R
  | [],acc,k=>k acc
  | a::l,acc,k=>rvK l (a::acc) k
theorem MJ {R:Type _} (k:List Th->R): ∀l acc,rvK l acc k=k (l.reverse++acc)
  | [],acc=>rfl
  | a::l,acc=>by rw[rvK,MJ k l,List.reverse_cons,List.append_assoc];rfl
def nthK:List Th->Nat->(Th->Option (List Th))->Option (List Th)
  | A::_,0,k=>k A
  | _::As,i+1,k=>nthK As i k
  | [],_,_=>none
theorem EE {k:Th->Option (List Th)} {B:List Th}: ∀{As:List Th} {i:Nat},nthK As i k=some B->k (Ub As i)=some B
  | A::_,0,h=>h
  | _::As,i+1,h=>EE (As:=As) h
  | [],_,h=>by cases h
def qci:List Nat->List Th->List Th->(List Th->Option (List Th))->Option (List Th)
  | [],_,acc,k=>k acc
  | i::is,As,acc,k=>nthK As i (λA=>qci is As (A::acc) k)
theorem SC {k:List Th->Option (List Th)} {B:List Th} {As:List Th}: ∀{is:List Nat} {acc:List Th},qci is As acc k=some B->k ((Yu As is).reverse++acc)=some B
  | [],acc,h=>h
  | i::is,acc,h=>by have :=SC (EE h);simpa [Yu]using this
def OM:List Bool->List Th->List Th->(List Th->Option (List Th))->Option (List Th)
  | true::m,_::As,acc,k=>OM m As acc k
  | false::m,A::As,acc,k=>OM m As (A::acc) k
  | [],As,acc,k=>rvK acc As k
  | _::_,[],acc,k=>rvK acc [] k
theorem NR {k:List Th->Option (List Th)} {B:List Th}: ∀{m:List Bool} {As acc:List Th},OM m As acc k=some B->k (acc.reverse++VI m As)=some B
  | true::m,_::As,acc,h=>by simpa [VI]using NR (m:=m) (As:=As) h
  | false::m,A::As,acc,h=>by have :=NR (m:=m) (As:=As) h;simpa [VI]using this
  | [],As,acc,h=>by rw[OM,MJ]at h;simpa [VI]using h
  | b::_,[],acc,h=>by cases b<;>(rw[OM,MJ]at h;simpa [VI]using h)
def qc4:Nat->Nat->List Nat->List Bool
  | 0,_,_=>[]
  | n+1,i,is=>is.contains i::qc4 n (i+1) is
def splK (is:List Nat) (As:List Th):Option (List Th):= match Ta As.length is (qc4 As.length 0 is)with
  | true=>OM (qc4 As.length 0 is) As [] (λs=>qci is As [] (λp=>rvK p [starL s] some))
  | false=>none
theorem Sat.sp {B:List Th} (h:Sat w As) (is:List Nat) (e:splK is As=some B):Sat w B:=by
  unfold splK at e;split at e
  · rename_i a;have :=SC (NR e);rw[MJ]at this;simp only[List.reverse_nil,List.nil_append,List.append_nil,List.reverse_reverse,Option.some.injEq]at this;rw[<-this];exact h.split is _ a
  · cases e
def drK:List Th->List Th->List Th->Option (List Th)
  | [],_,_=>none
  | [_],As,acc=>rvK acc As some
  | a::b::l,As,acc=>drK (b::l) As (a::acc)
theorem qes {B As:List Th}: ∀{l acc:List Th},drK l As acc=some B->B=acc.reverse++(l.dropLast++As)
  | [],_,h=>by cases h
  | [_],acc,h=>by rw[drK,MJ]at h;cases h;rfl
  | a::b::l,acc,h=>by have :=qes (l:=b::l) h;simpa using this
theorem Sat.jn {Bs B:List Th} (h:Sat w Bs) (a:Bs.getLast? =some (starL As)) (e:drK Bs As []=some B):Sat w B:=by
  have :=qes e;rw[List.reverse_nil,List.nil_append]at this;rw[this];exact h.join a
theorem det [d:Decidable p]:p->decide p=true:=decide_eq_true
theorem QH [d:Decidable p]: ¬p->decide p=false:=decide_eq_false
theorem Xk:Nat.ble m n=true->m<=n:=Nat.le_of_ble_eq_true
theorem Za {α:Type _} {l:List α} {a:α}:l[i]? =some a-> ∃h:i<l.length,l[i]=a:=List.getElem?_eq_some_iff.1
theorem XQ {α:Type _} {l:List α} (h:i<l.length):l[i]? =some l[i]:=List.getElem?_eq_getElem h
def Q6 (b:Nat) (cs:List Value):Th where
  at_:= λw F=>(F= λk=>k=b)/\Blk w b cs
  fr:= λa ⟨e,h⟩=>⟨e,h.congr (a.blk _ (by rw[e]))⟩
  lt:= λ⟨e,h⟩ k c=>by rw[e]at c;subst c;exact h.lt
def Jk (v:Value) (n size:Nat) (xs:List Value):Th where
  at_:= λw F=> ∃foot,(F= λk=>k∈foot)/\Own w v n size xs foot
  fr:= λa ⟨f,e,h⟩=>⟨f,e,h.congr λk b=>a.blk k (by rw[e];exact b)⟩
  lt:= λ⟨f,e,h⟩ k b=>by rw[e]at b;exact h.lt k b
def Tg (W:World):Th where
  at_:= λw F=>(F= λk=>k<W.heap.size)/\W.heap.size<=w.heap.size/\Agree (λk=>k<W.heap.size) W w
  fr:= λ{w w' F} a ⟨e,h,g⟩=>by
    subst e;refine⟨rfl, ?_,a.os.trans g.os,a.tape.trans g.tape,a.output.trans g.output,λk b=>(a.blk k b).trans (g.blk k b)⟩;rcases Nat.lt_or_ge w'.heap.size W.heap.size with q | q
    · have c:=a.blk _ q;rw[Array.getElem?_eq_none (Nat.le_refl _)]at c;have d:w'.heap.size<w.heap.size:=by omega
      rw[Array.getElem?_eq_getElem d]at c;cases c
    · exact q
  lt:= λ⟨e,h,_⟩ k b=>by rw[e]at b;omega
theorem Sat.start (W:World):Sat W [Tg W]:=⟨_,λk=>k<W.heap.size,λ_=>False,rfl,λ_ _ h=>h,⟨rfl,Nat.le_refl _,rfl,rfl,rfl,λ_ _=>rfl⟩,rfl⟩
theorem Sat.below (h:Sat w As) (i:Nat) (hi:As[i]? =some (Tg W)):Below W.heap.size W w:=by
  obtain⟨F,rfl,b,a⟩:=h.get i hi;exact⟨a.os,a.tape,a.output,b,a.blk⟩
theorem Sat.blk (h:Sat w As) (i:Nat) (hi:As[i]? =some (Q6 b cs)):Blk w b cs:=by
  obtain⟨F,_,h⟩:=h.get i hi;exact h
theorem Sat.cell {w:World} {As:List Th} (h:Sat w As) (i:Nat) {b o:Nat} {cs:List Value} {v:Value} (hi:As[i]? =some (Q6 b cs)) (a:cs[o]? =some v):w.cell? ⟨b,o,none⟩=some v:=(h.blk i hi).cell a
theorem Sat.own (h:Sat w As) (i:Nat) (hi:As[i]? =some (Jk v n size xs)): ∃foot,Own w v n size xs foot:=by
  obtain⟨F,f,_,h⟩:=h.get i hi;exact⟨f,h⟩
theorem Only.agree (h:Only S w w') {F:Nat->Prop} (b: ∀x∈S,F x\/w.heap.size<=x):Agree (λk=>k<w.heap.size/\ ¬F k) w w':=
  ⟨h.os,h.tape,h.output,λk a=>h.block k a.1 (λc=>by rcases b k c with q | q;exact a.2 q;omega)⟩
theorem Sat.blk_set (h:Sat w As) (i:Nat) {cs':List Value} (hi:As[i]? =some (Q6 b cs)) (c:Blk w' b cs') (d:Only [b] w w'):Sat w' (As.set i (Q6 b cs')):=
  h.step i hi λF ⟨e,_⟩=>⟨F,⟨e,c⟩,λk f=> .inl f,d.agree (λx a=> .inl (by simp only[List.mem_singleton]at a;subst a;rw[e]))⟩
theorem Sat.own_set (h:Sat w As) (i:Nat) {v':Value} {n' size':Nat} {xs':List Value} (hi:As[i]? =some (Jk v n size xs))
    (a: ∀foot,Own w v n size xs foot-> ∃foot',Own w' v' n' size' xs' foot'/\Only foot w w'/\ ∀k∈foot',k∈foot\/w.heap.size<=k):Sat w' (As.set i (Jk v' n' size' xs')):=
  h.step i hi λF ⟨f,e,b⟩=>by
    obtain⟨f',g1,g2,g3⟩:=a f b;exact⟨_,⟨f',rfl,g1⟩,λk c=>by rw[e];exact g3 k c,g2.agree (λx d=> .inl (by rw[e];exact d))⟩
theorem Sat.blk_new (h:Sat w As) (c:Blk w' b cs) (d:Only [] w w') (a:w.heap.size<=b):Sat w' (Q6 b cs::As):=
  h.new d (A:=Q6 b cs) ⟨rfl,c⟩ (λk e=>by rw[e];exact a)
theorem Vn {sp:List Value} (a:Blk w b (xs++sp)) (c:xs.length=n*size) (d:n<=cap) (e:(xs++sp).length=cap*size):Own w (.slice (some ⟨b,0,none⟩) n cap) n size xs [b]:=
  ⟨c,.inr ⟨b,cap,sp,rfl,d,a,e,rfl⟩⟩
def Ent (F:Th) (φ:World->Prop):Prop:= ∀{w G},F.at_ w G->φ w
theorem Ent.sat {F:Th} (h:Ent F φ) (a:Sat w As) (i:Nat) (hi:As[i]? =some F):φ w:=let ⟨_,g⟩:=a.get i hi;h g
theorem Ent.starL (h:Ent A φ) (i:Nat) (hi:As[i]? =some A):Ent (M.starL As) φ:= λg=>h.sat ⟨_,g⟩ i hi
theorem Ent.frame (h: ∀w,Below W.heap.size W w->φ w):Ent (Tg W) φ:= λ⟨_,b,a⟩=>h _ ⟨a.os,a.tape,a.output,b,a.blk⟩
theorem Ent.and {F:Th} (h:Ent F φ) (g:Ent F ψ):Ent F (λw=>φ w/\ψ w):= λq=>⟨h q,g q⟩
theorem Ent.mono {F:Th} (h:Ent F φ) (a: ∀w,φ w->ψ w):Ent F ψ:= λq=>a _ (h q)
