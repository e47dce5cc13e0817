/- cell: plain facts: what a crash leaves of a cell's file. -/
import Derived.Test.YtiibgheijbbmaaaGreatDoorCell
import Derived.Test.YtiibgheijbbmaaaGreatDoorDf
import Derived.Test.YtiibgheijbbmaaaGreatDoorCa
import Derived.Shelf.Strings.Builder1
import Derived.Shelf.Small.Bits
import Derived.Shelf.Small.Strs
import Derived.Shelf.Small.Wraps
import Derived.Shelf.Strings.BuilderF
import Derived.Shelf.Strings.BuilderK
import Derived.Shelf.Strconv.Atoi
import Derived.Shelf.Strconv.Itoa0
import Derived.Shelf.Strconv.Itoa1
import Derived.Shelf.LaysM
import Derived.Shelf.Strconv.Itoa2
import Derived.Shelf.Strconv.Itoa3
import Derived.Shelf.Strconv.AtoiErrFast
import Derived.Shelf.Strconv.ParseIntEmpty
import Derived.Shelf.Strconv.AtoiFail
import Derived.Shelf.Strconv.Clone
import Derived.Shelf.Strconv.SyntaxError
import Derived.Shelf.LaysC
import Derived.Shelf.Strconv.ToError
import Derived.Shelf.Strconv.AtoiErr
import Derived.Shelf.Strconv.ErrVar
import Derived.Shelf.Strconv.Lower
import Derived.Shelf.Strconv.ParseUint10
import Derived.Shelf.Strconv.ParseUint10Empty
import Derived.Shelf.Strconv.ParseUint10Any
import Derived.Shelf.Strconv.ParseInt10
import Derived.Shelf.Strconv.AtoiLong
import Derived.Shelf.Strconv.AtoiInnerAll
import Derived.Shelf.Strconv.RangeError
import Derived.Shelf.Strconv.ToErrorRange
import Derived.Shelf.Strconv.AtoiAll
import Derived.Shelf.Strconv.ErrVarAll
import Derived.Shelf.Strconv.ParseUintEmpty
import Derived.Shelf.Strconv.ParseUint10b64
import Derived.Shelf.Strconv.ParseUint10b32
import Derived.Shelf.Strconv.ParseUint10b16
import Derived.Shelf.Strconv.ParseUint10b8
import Derived.Shelf.Strconv.ParseUint10At
import Derived.Shelf.Strconv.ParseInt10At64
import Derived.Shelf.Strconv.ParseInt10At32
import Derived.Shelf.Strconv.ParseInt10At16
import Derived.Shelf.Strconv.ParseInt10At8
import Derived.Shelf.Strconv.ParseInt10All
import Derived.Shelf.Strings.Search1
import Derived.Shelf.Sort.Plain
import Derived.Shelf.Strings.Prefix
import Derived.Shelf.Strings.BuilderCap
import Derived.Ground.Names2Prog
import Derived.Shelf.Slices.Clone
import Derived.Shelf.Slices.SearchI
import Derived.Shelf.Slices.In.SortNone
import Derived.Test.YtiibgheijbbmaaaGreatDoorProg
import Derived.Test.YtiibgheijbbmaaaGreatDoorWire
set_option linter.unusedVariables false
namespace Go.Proofs.YtiibgheijbbmaaaGreatDoor
open Go.RowKit M Proofs.Tryz
def hd (B:Bytes):Hd:=Ya (B.take 5)
theorem hd_five {B:Bytes} {s n:Nat} (h:hd B= .slot s n):5≤B.length:= by
  by_cases hl:5≤B.length
  · exact hl
  · exfalso
    unfold hd at h
    rw[List.take_of_length_le (by omega)]at h
    cases B with
    | nil=> cases h
    | cons b r=>
      by_cases h0:b=0
      · subst h0; rw[JB (.inr ⟨r,rfl⟩)]at h; cases h
      · rw[Uj h0 (by simp at hl;omega)]at h; cases h
theorem Fz {B t:Bytes} {a:Nat} (ha:5≤a) (h:hd B≠ .bad):hd (J8 B a t)=hd B:= by
  by_cases ht:t=[]
  · subst ht; rw[Kp]
  · have e:(J8 B a t).take 5=(B++List.replicate (a -B.length) 0).take 5:= by
      unfold J8; rw[if_neg ht,List.append_assoc,List.take_append_of_le_length (by simp;omega),List.take_take,Nat.min_eq_left ha]
    unfold hd at h⊢
    rw[e]
    by_cases hl:5≤B.length
    · rw[List.take_append_of_le_length hl]
    · cases B with
      | nil=>
        have e1:(([]:Bytes)++List.replicate (a -([]:Bytes).length) (0:UInt8)).take 5=0::List.replicate 4 0:= by
          rw[List.nil_append,List.take_replicate,Nat.min_eq_left (by simp;omega)];rfl
        rw[e1,JB (h:=0::List.replicate 4 0) (.inr ⟨_,rfl⟩)];rfl
      | cons b r=>
        by_cases h0:b=0
        · subst h0
          rw[JB (h:=(0::r).take 5) (.inr ⟨_,List.take_succ_cons⟩),JB (.inr ⟨_, by rw[List.cons_append]; exact List.take_succ_cons⟩)]
        · exfalso; apply h
          rw[List.take_of_length_le (by simp at hl⊢;omega)]
          exact Uj h0 (by simp at hl;omega)
theorem Mf {B t:Bytes} {a:Nat} (ht:t≠[]) (ha:a≤B.length):J8 B a t=B.take a++t++B.drop (a+t.length):= by
  unfold J8; rw[if_neg ht,List.take_append_of_le_length ha]
theorem LD {B t:Bytes} (h:5≤t.length):hd (J8 B 0 t)=hd t:= by
  unfold hd
  rw[Mf (by intro e; subst e; simp at h) (by omega),List.take_zero,List.nil_append,List.take_append_of_le_length h]
theorem hd_take {N:Bytes} (h:5≤N.length):hd (N.take 64)=hd N:= by unfold hd; rw[List.take_take];rfl
theorem hd_hdr {sl n:Nat} (hs:sl=1∨sl=2) (hn:n≤65536):hd (HJ sl n)= .slot sl n:= by
  have e:UY (UInt8.ofNat n) (UInt8.ofNat (n/ 256)) (UInt8.ofNat (n/ 65536)) 0=n:= by simp only[UY]; simp;omega
  show Ya (HJ sl n)=_
  unfold HJ
  rw[M5 (by rcases hs with rfl | rfl<;> simp) (by rw[e]; exact hn),e]
  rcases hs with rfl | rfl<;>rfl
theorem reg_len {B v:Bytes} {off:Nat} (h:(B.drop off).take v.length=v) (hv:v≠[]):off+v.length≤B.length:= by
  have h1:=congrArg List.length h
  have :0<v.length:=List.length_pos_iff.2 hv
  simp at h1;omega
theorem Dn {B t v:Bytes} {a off:Nat} (h:(B.drop off).take v.length=v) (ho:a+t.length≤off∨off+v.length≤a):((J8 B a t).drop off).take v.length=v:= by
  by_cases hv:v=[]
  · subst hv; simp
  by_cases ht:t=[]
  · subst ht; rw[Kp]; exact h
  have hl:=reg_len h hv
  rcases ho with ho | ho
  · rw[Mf ht (by omega)]
    have e:(B.take a++t).length=a+t.length:= by simp;omega
    rw[List.drop_append,List.drop_eq_nil_of_le (by omega),List.nil_append,e,List.drop_drop, show a+t.length+(off -(a+t.length))=off by omega]
    exact h
  · have e:(J8 B a t).take (off+v.length)=B.take (off+v.length):= by
      unfold J8; rw[if_neg ht,List.append_assoc,List.take_append_of_le_length (by simp;omega),List.take_take,Nat.min_eq_left ho,List.take_append_of_le_length hl]
    have f (X:Bytes):(X.drop off).take v.length=(X.take (off+v.length)).drop off:= by rw[List.drop_take];congr 1;omega
    rw[f,e,←f]; exact h
def Dec (B:Bytes) (s:Nat) (v:Bytes):Prop:=(s=0∧v=[]∧hd B= .none)∨((s=1∨s=2)∧hd B= .slot s v.length∧(B.drop (QI s).toNat).take v.length=v∧v.length≤65536)
def Apart (n:Int) (s:Nat) (v:Bytes):Prop:=64*(n+1)≤QI s∨QI s+v.length≤64*n
def Ep (D:DS) (f:Int) (s:Nat) (v:Bytes):Prop:=s=0∨((((D.F f).2.drop (QI s).toNat).take v.length=v)∧ ∀p∈D.Q,p.1=f→Apart p.2 s v)
structure Good (D:DS) (f:Int) (C:CS) (P:Nat→Bytes→Prop):Prop where
  up:Wf D f=0
  cf:C.f=f
  pos: ∀p∈D.Q,p.1=f→0≤p.2
  now:Dec (D.F f).1 C.slot C.val
  here:Ep D f C.slot C.val
  pc:P C.slot C.val
  hdr:((∀p∈D.Q,p.1=f→p.2≠0)∧Dec (D.F f).2 C.slot C.val)∨(C.sure=false∧0<C.slot∧ ∃s v,Dec (D.F f).2 s v∧Ep D f s v∧P s v)
structure Downed (D:DS) (f:Int) (P:Nat→Bytes→Prop):Prop where
  ran:0≤f∧f<16
  down:D.down=true
  same:(D.F f).2=(D.F f).1
  quiet: ∀p∈D.Q,p.1≠f
  says: ∃s v,Dec (D.F f).1 s v∧P s v
def OkSt (D:DS) (f:Int) (C:CS) (P:Nat→Bytes→Prop):Prop:=Good D f C P∨Downed D f P
theorem RZ {f:Int} {N:Bytes} {keep:List Int} (P:Bytes→Prop): ∀(Q:List (Int×Int)) (i:Nat) (F:Int→Bytes×Bytes),(F f).1=N→P (F f).2→
    (∀B p,p∈Q→p.1=f→P B→ ¬((N.length:Int)≤64*p.2)→P (J8 B (64*p.2).toNat ((N.drop (64*p.2).toNat).take 64)))→(Wo keep i Q F f).1=N∧P (Wo keep i Q F f).2
  | [],_,F,h1,h2,_=>⟨h1,h2⟩
  | p::Q,i,F,h1,h2,h3=> by
    simp only[Wo]
    have h3': ∀B q,q∈Q→q.1=f→P B→ ¬((N.length:Int)≤64*q.2)→P (J8 B (64*q.2).toNat ((N.drop (64*q.2).toNat).take 64)):= fun B q hq=>h3 B q (by simp [hq])
    split
    · refine RZ P Q (i+1) _ ?_ ?_ h3'
      · by_cases hp:p.1=f
        · unfold Uc;split
          · exact h1
          · simp [JX,hp,h1]
        · rw[R9 hp]; exact h1
      · by_cases hp:p.1=f
        · unfold Uc;split
          · exact h2
          · rename_i hl
            subst hp
            simp only[JX,if_true,h1]
            exact h3 _ p (by simp) Qa h2 (by rw[h1]at hl; exact hl)
        · rw[R9 hp]; exact h2
    · exact RZ P Q (i+1) F h1 h2 h3'
theorem JW (s:Nat):64≤QI s:= by unfold QI;split<;>decide
theorem Dec.put {B t:Bytes} {s:Nat} {v:Bytes} {a:Nat} (h:Dec B s v) (ha:5≤a) (ho:s=0∨(a:Int)+t.length≤QI s∨QI s+v.length≤a):Dec (J8 B a t) s v:= by
  rcases h with⟨rfl,rfl,h1⟩ | ⟨hs,h1,h2,h3⟩
  · exact .inl ⟨rfl,rfl, by rw[Fz ha (by rw[h1]; simp),h1]⟩
  · refine .inr ⟨hs, by rw[Fz ha (by rw[h1]; simp),h1],Dn h2 ?_,h3⟩
    have :=JW s
    rcases ho with ho | ho<;>omega
theorem Dec.five {B:Bytes} {s:Nat} {v:Bytes} (h:Dec B s v) (hs:0<s):5≤B.length:= by
  rcases h with⟨rfl,_⟩ | ⟨_,h1,_⟩
  · omega
  · exact hd_five h1
theorem Dec.len {B:Bytes} {s:Nat} {v:Bytes} (h:Dec B s v):v.length≤65536:= by
  rcases h with⟨_,rfl,_⟩ | ⟨_,_,_,h⟩
  · simp
  · exact h
theorem Dec.slot2 {B:Bytes} {s:Nat} {v:Bytes} (h:Dec B s v):s≤2:= by rcases h with⟨rfl,_⟩ | ⟨hs,_⟩<;>omega
theorem Dec.reg {B:Bytes} {s:Nat} {v:Bytes} (h:Dec B s v) (hs:0<s):(B.drop (QI s).toNat).take v.length=v:= by
  rcases h with⟨rfl,_⟩ | ⟨_,_,h2,_⟩
  · omega
  · exact h2
theorem Dec.head {B B':Bytes} {s:Nat} {v:Bytes} (h:Dec B s v) (hs:0<s) (h1:hd B'=hd B) (h2:(B'.drop (QI s).toNat).take v.length=v):Dec B' s v:= by
  rcases h with⟨rfl,_⟩ | ⟨hs',h3,_,h4⟩
  · omega
  · exact .inr ⟨hs', by rw[h1,h3],h2,h4⟩
theorem Rm {N:Bytes} {n:Int} {s:Nat} {v:Bytes} (h:Apart n s v) (h0:0≤n) (hlt: ¬((N.length:Int)≤64*n)):((64*n).toNat:Int)+(((N.drop (64*n).toNat).take 64).length:Int)≤QI s∨QI s+v.length≤((64*n).toNat:Int):= by
  unfold Apart at h
  simp;omega
theorem Good.crash {D:DS} {f:Int} {C:CS} {P:Nat→Bytes→Prop} (h:Good D f C P) (ks:List Int):Downed (ZY D ks) f P:= by
  have hd0:D.down=false:= by
    cases hq:D.down with
    | false=>rfl
    | true=> have :=h.up; rw[Wf,hq]at this; cases this
  have hf:=Ia h.up
  have hc:ZY D ks={D with down:=true,armed:=0,F:= fun k=>let x:=Wo ks 0 D.Q D.F k;(x.2,x.2),Q:=[]}:= by simp [ZY,hd0]
  rw[hc]
  refine⟨⟨hf.1, by omega⟩,rfl,rfl, by simp, ?_⟩
  show ∃s v,Dec (Wo ks 0 D.Q D.F f).2 s v∧P s v
  rcases h.hdr with⟨h1,h2⟩ | ⟨_,hs,s,v,h1,h2,h3⟩
  · refine⟨C.slot,C.val, ?_,h.pc⟩
    refine(RZ (N:=(D.F f).1) (fun B=>Dec B C.slot C.val) D.Q 0 D.F Qa h2 fun B p hp hpf hB hlt=> ?_).2
    have h0:=h.pos p hp hpf
    have hne:=h1 p hp hpf
    refine hB.put (by omega) ?_
    rcases h.here with h4 | ⟨_,h4⟩
    · exact .inl h4
    · exact .inr (Rm (h4 p hp hpf) h0 hlt)
  · have key:(Wo ks 0 D.Q D.F f).1=(D.F f).1∧(fun B=>(B.drop (QI C.slot).toNat).take C.val.length=C.val∧(hd B=hd (D.F f).1∨Dec B s v)∧(s=0∨(B.drop (QI s).toNat).take v.length=v)) (Wo ks 0 D.Q D.F f).2:= by
      have hC:(((D.F f).2.drop (QI C.slot).toNat).take C.val.length=C.val)∧ ∀p∈D.Q,p.1=f→Apart p.2 C.slot C.val:= by
        rcases h.here with h4 | h4
        · omega
        · exact h4
      refine RZ (N:=(D.F f).1) (fun B=>(B.drop (QI C.slot).toNat).take C.val.length=C.val∧(hd B=hd (D.F f).1∨Dec B s v)∧(s=0∨(B.drop (QI s).toNat).take v.length=v)) D.Q 0 D.F Qa ⟨hC.1,.inr h1, ?_⟩ fun B p hp hpf hB hlt=> ?_
      · rcases h2 with h2 | h2
        · exact .inl h2
        · exact .inr h2.1
      · have h0:=h.pos p hp hpf
        obtain⟨b1,b2,b3⟩:=hB
        have ho:=Rm (hC.2 p hp hpf) h0 hlt
        have hs64:=JW C.slot
        refine⟨Dn b1 (by omega), ?_, ?_⟩
        · by_cases hp0:p.2=0
          · left
            have h5:=h.now.five hs
            rw[hp0]
            show hd (J8 B 0 (((D.F f).1.drop 0).take 64))=_
            rw[List.drop_zero,LD (by simp;omega),hd_take h5]
          · rcases b2 with b2 | b2
            · left
              have :hd B≠ .bad:= by
                rw[b2]; rcases h.now with⟨e,_⟩ | ⟨_,e,_⟩
                · omega
                · rw[e]; simp
              rw[Fz (by omega) this,b2]
            · right
              refine b2.put (by omega) ?_
              rcases h2 with h2 | ⟨_,h2⟩
              · exact .inl h2
              · exact .inr (Rm (h2 p hp hpf) h0 hlt)
        · rcases h2 with h2 | ⟨_,h2⟩
          · exact .inl h2
          · rcases b3 with b3 | b3
            · exact .inl b3
            · right
              have ho2:=Rm (h2 p hp hpf) h0 hlt
              have :=JW s
              exact Dn b3 (by omega)
    obtain⟨_,b1,b2,b3⟩:=key
    rcases b2 with b2 | b2
    · exact⟨C.slot,C.val,h.now.head hs b2 b1,h.pc⟩
    · exact⟨s,v,b2,h3⟩
theorem Good.congr {D D':DS} {f:Int} {C:CS} {P:Nat→Bytes→Prop} (h:Good D f C P) (hF:D'.F f=D.F f) (hQ: ∀p∈D'.Q,p.1=f→p∈D.Q) (hd:D'.down=D.down):Good D' f C P:= by
  have hk: ∀s v,Ep D f s v→Ep D' f s v:= fun s v hk=> by
    rcases hk with hk | ⟨h1,h2⟩
    · exact .inl hk
    · exact .inr ⟨by rw[hF]; exact h1, fun p hp hpf=>h2 p (hQ p hp hpf) hpf⟩
  refine⟨by rw[←h.up];unfold Wf; rw[hd],h.cf, fun p hp hpf=>h.pos p (hQ p hp hpf) hpf, by rw[hF]; exact h.now,hk _ _ h.here,h.pc, ?_⟩
  rw[hF]
  rcases h.hdr with⟨h1,h2⟩ | ⟨h1,h2,s,v,h3,h4,h5⟩
  · exact .inl ⟨fun p hp hpf=>h1 p (hQ p hp hpf) hpf,h2⟩
  · exact .inr ⟨h1,h2,s,v,h3,hk _ _ h4,h5⟩
theorem Good.ends {D:DS} {f:Int} {C:CS} {P:Nat→Bytes→Prop} (h:Good D f C P):Good (Zx D) f C P:=h.congr (by rw[Rh]) (by rw[Dz]; exact fun _ hp _=>hp) (VL D)
def Uh (D:DS) (f:Int) (C:CS):Prop:=(∀p∈D.Q,p.1=f→p.2≠0)∧Dec (D.F f).2 C.slot C.val
theorem Good.settled {D:DS} {f:Int} {C:CS} {P:Nat→Bytes→Prop} (h:Good D f C P) (b:Bool):Good (Wz (Zx D) f (D.F f).1) f {C with sure:=b} P∧Uh (Wz (Zx D) f (D.F f).1) f C:= by
  have hF:(Wz (Zx D) f (D.F f).1).F f=((D.F f).1,(D.F f).1):= by simp [Wz,JX]
  have hQ: ∀p∈(Wz (Zx D) f (D.F f).1).Q,p.1=f→False:= fun p hp hpf=> by have :=(List.mem_filter.1 hp).2; simp at this; exact this hpf
  have hfirm:Uh (Wz (Zx D) f (D.F f).1) f C:=⟨fun p hp hpf=>(hQ p hp hpf).elim, by rw[hF]; exact h.now⟩
  refine⟨⟨?_,h.cf, fun p hp hpf=>(hQ p hp hpf).elim, by rw[hF]; exact h.now, ?_,h.pc,.inl hfirm⟩,hfirm⟩
  · have :=h.up;simpa [Wf,Wz,VL]using this
  · by_cases hs:C.slot=0
    · exact .inl hs
    · exact .inr ⟨by rw[hF]; exact h.now.reg (by omega), fun p hp hpf=>(hQ p hp hpf).elim⟩
theorem DV {D:DS} {f:Int} (h:Wf D f=0):(Wa D f=9∧Zq D f=ZY (Zx D) D.keep)∨(Wa D f=10∧Zq D f={Zx D with lost:=(Zx D).lost -1})∨(Wa D f=0∧Zq D f=Wz (Zx D) f (D.F f).1∧Yf D=false):= by
  cases hb:Yf D with
  | true=>
    left
    have hl:Jn D=ZY (Zx D) D.keep:=TR hb
    have hm:Wf (Jn D) f=9:= by rw[Wf,if_pos]; rw[hl]; exact Nk _ _
    exact⟨by rw[Wa,hm];rfl, by rw[Zq,hm]; exact hl⟩
  | false=>
    have hl:Jn D=Zx D:=Gm hb
    have hm:Wf (Jn D) f=0:= by rw[hl];simpa [Wf,VL]using h
    right
    by_cases hq:0<(Jn D).lost
    · left; rw[Wa,Zq,if_neg (by omega),if_pos hq,if_neg (by omega),if_pos hq,hl]; exact⟨rfl,rfl⟩
    · right; rw[Wa,Zq,if_neg (by omega),if_neg hq,if_neg (by omega),if_neg hq,hl,Rh]; exact⟨rfl,rfl,rfl⟩
theorem Good.sync {D:DS} {f:Int} {C:CS} {P:Nat→Bytes→Prop} (h:Good D f C P):(Wa D f≠0→OkSt (Zq D f) f C P)∧(Wa D f=0→ ∀b,Good (Zq D f) f {C with sure:=b} P∧Uh (Zq D f) f C):= by
  rcases DV h.up with⟨h1,h2⟩ | ⟨h1,h2⟩ | ⟨h1,h2,_⟩
  · exact⟨fun _=> by rw[h2]; exact .inr (h.ends.crash _), fun q=> by rw[h1]at q; cases q⟩
  · exact⟨fun _=> by rw[h2]; exact .inl (h.ends.congr Qa (fun _ hp _=>hp) Qa), fun q=> by rw[h1]at q; cases q⟩
  · exact⟨fun q=>absurd h1 q, fun _ b=> by rw[h2]; exact h.settled b⟩
theorem TI {g:Int}: ∀(k:Nat) (n:Int) (Q:List (Int×Int)) (p:Int×Int),p∈J0 g k n Q→p∈Q∨(p.1=g∧n≤p.2∧p.2<n+k)
  | 0,_,_,_,h=> .inl h
  | k+1,n,Q,p,h=> by
    rcases TI k (n+1) _ p h with h1 | ⟨h1,h2,h3⟩
    · split at h1
      · exact .inl h1
      · rcases List.mem_append.1 h1 with h2 | h2
        · exact .inl h2
        · simp at h2; subst h2; exact .inr ⟨rfl, by simp, by simp;omega⟩
    · exact .inr ⟨h1, by omega, by omega⟩
theorem B9 {D:DS} {f a:Int} {s:Bytes} (h:Wf D f=0) (ha:0≤a) (hl:a+s.length≤16777216):(WJ D f a s=9∧XU D f a s=ZY (Y9 (Zx D) f a s) D.keep)∨(WJ D f a s=0∧XU D f a s=Y9 (Zx D) f a s):= by
  have hw:WW (Zx D) f a s=0:= by
    rw[WW,if_neg (by rw[show Wf (Zx D) f=Wf D f by simp [Wf,VL]];omega),if_neg (by omega),if_neg (by omega)]
  have hwd:Ji (Zx D) f a s=Y9 (Zx D) f a s:= by rw[Ji,if_pos hw]
  cases hb:Yf D with
  | true=>left; exact⟨by rw[WJ,hb];rfl, by simp only[XU,hb,hwd];rfl⟩
  | false=>right; exact⟨by rw[WJ,hb];simpa using hw, by simp only[XU,hb,hwd];rfl⟩
theorem R6 {D:DS} {f a:Int} {s:Bytes}:(Y9 D f a s).F f=(J8 (D.F f).1 a.toNat s,(D.F f).2):= by
  unfold Y9;split
  · rename_i h; subst h; rw[Kp]
  · simp [JX]
theorem En {D:DS} {f a:Int} {s:Bytes} {p:Int×Int} (hp:p∈(Y9 D f a s).Q):p∈D.Q∨(s≠[]∧p.1=f∧a/ 64≤p.2∧(p.2≤(a+s.length -1)/ 64∨p.2≤a/ 64)):= by
  unfold Y9 at hp;split at hp
  · exact .inl hp
  · rename_i hs
    rcases TI _ _ _ p hp with h | ⟨h1,h2,h3⟩
    · exact .inl h
    · exact .inr ⟨hs,h1,h2, by omega⟩
theorem FT {D:DS} {f a g:Int} {s:Bytes}:Wf (Y9 D f a s) g=Wf D g:= by unfold Y9;split<;>rfl
theorem Em {D:DS} {f a:Int} {s:Bytes} (ha:0≤a) (h: ∀p∈D.Q,p.1=f→0≤p.2): ∀p∈(Y9 D f a s).Q,p.1=f→0≤p.2:= fun p hp hpf=> by
  rcases En hp with h1 | ⟨_,_,h1,_⟩
  · exact h p h1 hpf
  · omega
theorem Ms (C:CS):other C=1∨other C=2:= by unfold other;split<;> simp
theorem Po {C:CS} {s v:Bytes} {n:Int} (hC:0<C.slot) (h2:C.slot≤2) (hs:s≠[]) (hl:s.length≤65536) (hv:v.length≤65536) (h1:QI (other C)/ 64≤n) (h3:n≤(QI (other C)+s.length -1)/ 64∨n≤QI (other C)/ 64):Apart n C.slot v:= by
  have hpos:0<s.length:=List.length_pos_iff.2 hs
  unfold Apart
  obtain h | h:C.slot=1∨C.slot=2:= by omega
  · have e:QI (other C)=131072:= by simp [other,h,QI]
    have e2:QI C.slot=64:= by simp [h,QI]
    rw[e]at h1 h3; rw[e2];omega
  · have e:QI (other C)=64:= by simp [other,h,QI]
    have e2:QI C.slot=131072:= by simp [h,QI]
    rw[e]at h1 h3; rw[e2];omega
theorem Good.value {D:DS} {f:Int} {C:CS} {P:Nat→Bytes→Prop} (h:Good D f C P) (hfirm:Uh D f C) (s:Bytes) (hl:s.length≤65536):Good (Y9 D f (QI (other C)) s) f C P∧Uh (Y9 D f (QI (other C)) s) f C∧(((Y9 D f (QI (other C)) s).F f).1.drop (QI (other C)).toNat).take s.length=s:= by
  have hge:=JW (other C)
  have hS2:=h.now.slot2
  have hput (B:Bytes) (hB:Dec B C.slot C.val):Dec (J8 B (QI (other C)).toNat s) C.slot C.val:= by
    refine hB.put (by omega) ?_
    by_cases h0:C.slot=0
    · exact .inl h0
    · right
      have hv:=hB.len
      obtain h | h:C.slot=1∨C.slot=2:= by omega
      · have e:QI (other C)=131072:= by simp [other,h,QI]
        have e2:QI C.slot=64:= by simp [h,QI]
        rw[e,e2];right; simp;omega
      · have e:QI (other C)=64:= by simp [other,h,QI]
        have e2:QI C.slot=131072:= by simp [h,QI]
        rw[e,e2];left; simp;omega
  have hne: ∀p∈(Y9 D f (QI (other C)) s).Q,p.1=f→p.2≠0:= fun p hp hpf=> by
    rcases En hp with h1 | ⟨_,_,h1,_⟩
    · exact hfirm.1 p h1 hpf
    · omega
  have hfirm':Uh (Y9 D f (QI (other C)) s) f C:=⟨hne, by rw[R6]; exact hfirm.2⟩
  refine⟨⟨by rw[FT]; exact h.up,h.cf,Em (by omega) h.pos, by rw[R6]; exact hput _ h.now, ?_,h.pc,.inl hfirm'⟩,hfirm', ?_⟩
  · rcases h.here with h1 | ⟨h1,h2⟩
    · exact .inl h1
    · by_cases h0:C.slot=0
      · exact .inl h0
      · refine .inr ⟨by rw[R6]; exact h1, fun p hp hpf=> ?_⟩
        rcases En hp with h3 | ⟨h3,_,h4,h5⟩
        · exact h2 p h3 hpf
        · exact Po (by omega) hS2 h3 hl h.now.len h4 h5
  · rw[R6]
    unfold J8;split
    · rename_i e; subst e; simp
    · have hl2:(((D.F f).1++List.replicate ((QI (other C)).toNat -(D.F f).1.length) 0).take (QI (other C)).toNat).length=(QI (other C)).toNat:= by simp;omega
      rw[List.append_assoc,List.drop_append_of_le_length (by omega),List.drop_of_length_le (by omega)]
      simp
theorem Good.header {D:DS} {f:Int} {C:CS} {P:Nat→Bytes→Prop} (h:Good D f C P) (hq: ∀p∈D.Q,p.1≠f) (hsame:(D.F f).2=(D.F f).1) (s:Bytes) (hl:s.length≤65536) (hreg:((D.F f).1.drop (QI (other C)).toNat).take s.length=s) (hP:P (other C) s):Good (Y9 D f 0 (HJ (other C) s.length)) f ⟨f,other C,s,false⟩ P:= by
  have hge:=JW (other C)
  have h12:=Ms C
  have hlen:(HJ (other C) s.length).length=5:=rfl
  have hQ: ∀p∈(Y9 D f 0 (HJ (other C) s.length)).Q,p.1=f→p.2=0:= fun p hp hpf=> by
    rcases En hp with h1 | ⟨_,_,h1,h2⟩
    · exact absurd hpf (hq p h1)
    · rw[hlen]at h2;omega
  have hap (s':Nat) (v':Bytes): ∀p∈(Y9 D f 0 (HJ (other C) s.length)).Q,p.1=f→Apart p.2 s' v':= fun p hp hpf=> by
    rw[Apart,hQ p hp hpf];left; have :=JW s';omega
  refine⟨by rw[FT]; exact h.up,rfl,Em (by omega) h.pos, ?_,.inr ⟨by rw[R6]; show((D.F f).2.drop _).take _=_; rw[hsame]; exact hreg,hap _ _⟩,hP,.inr ⟨rfl, by show 0<other C;omega,C.slot,C.val, ?_, ?_,h.pc⟩⟩
  · rw[R6]
    refine .inr ⟨h12, ?_,Dn hreg (.inl (by rw[hlen]; show 0+5≤_;omega)),hl⟩
    show hd (J8 (D.F f).1 0 (HJ (other C) s.length))= .slot (other C) s.length
    rw[LD (by rw[hlen];omega),hd_hdr h12 hl]
  · rw[R6]; show Dec (D.F f).2 _ _; rw[hsame]; exact h.now
  · by_cases h0:C.slot=0
    · exact .inl h0
    · refine .inr ⟨by rw[R6]; show((D.F f).2.drop _).take _=_; rw[hsame]; exact h.now.reg (by omega),hap _ _⟩
theorem Good.set2 {D:DS} {f:Int} {C:CS} {P:Nat→Bytes→Prop} (h:Good D f C P) (hfirm:Uh D f C) (s:Bytes) (hl:s.length≤65536) (hP: ∀sl,sl≠0→P sl s):
    OkSt (W2 D C s).D f (W2 D C s).C P∧((W2 D C s).e=0→Good (W2 D C s).D f (W2 D C s).C P∧Uh (W2 D C s).D f (W2 D C s).C∧(W2 D C s).C=⟨f,other C,s,true⟩):= by
  have hcf:=h.cf
  have hge:=JW (other C)
  have hle:QI (other C)≤131072:= by unfold QI;split<;>decide
  have hfe:Uh (Zx D) f C:= by unfold Uh; rw[Rh,Dz]; exact hfirm
  obtain⟨v1,v2,v3⟩:=h.ends.value hfe s hl
  rcases B9 (a:=QI (other C)) (s:=s) h.up (by omega) (by omega)with⟨w1,w2⟩ | ⟨w1,w2⟩
  · rw[Dk (by rw[hcf,w1];decide),hcf,w1,w2]
    exact⟨.inr (v1.crash _), fun q=>absurd q (show ¬((9:Int)=0) by decide)⟩
  rw[←w2]at v1 v2 v3
  have hs:=v1.sync
  by_cases s1:Wa (XU D f (QI (other C)) s) f=0
  case neg=>
    rw[Cy (by rw[hcf]; exact w1) (by rw[hcf]; exact s1),hcf]
    exact⟨hs.1 s1, fun q=>absurd q s1⟩
  obtain⟨g1,_⟩:=hs.2 s1 C.sure
  have hD2:Zq (XU D f (QI (other C)) s) f=Wz (Zx (XU D f (QI (other C)) s)) f ((XU D f (QI (other C)) s).F f).1:= by
    rcases DV v1.up with⟨q,_⟩ | ⟨q,_⟩ | ⟨_,q,_⟩
    · rw[q]at s1; cases s1
    · rw[q]at s1; cases s1
    · exact q
  have hF2:(Zq (XU D f (QI (other C)) s) f).F f=(((XU D f (QI (other C)) s).F f).1,((XU D f (QI (other C)) s).F f).1):= by rw[hD2]; simp [Wz,JX]
  have hQ2: ∀p∈(Zq (XU D f (QI (other C)) s) f).Q,p.1≠f:= by
    rw[hD2]; intro p hp; have :=(List.mem_filter.1 hp).2;simpa using this
  have hg:=Good.header (D:=Zx (Zq (XU D f (QI (other C)) s) f)) (C:=C) g1.ends (by rw[Dz]; exact hQ2) (by rw[Rh,hF2]) s hl (by rw[Rh,hF2]; exact v3) (hP _ (by have :=Ms C;omega))
  rcases B9 (D:=Zq (XU D f (QI (other C)) s) f) (f:=f) (a:=0) (s:=HJ (other C) s.length) g1.up (by omega) (by show(0:Int)+5≤_;omega)with⟨x1,x2⟩ | ⟨x1,x2⟩
  · rw[Cx (by rw[hcf]; exact w1) (by rw[hcf]; exact s1) (by rw[hcf,x1];decide),hcf,x1,x2]
    exact⟨.inr (hg.crash _), fun q=>absurd q (show ¬((9:Int)=0) by decide)⟩
  rw[←x2]at hg
  have hs3:=hg.sync
  rw[Dj (by rw[hcf]; exact w1) (by rw[hcf]; exact s1) (by rw[hcf]; exact x1),hcf]
  generalize hD3:XU (Zq (XU D f (QI (other C)) s) f) f 0 (HJ (other C) s.length)=D3 at hg hs3⊢
  by_cases s3:Wa D3 f=0
  · have :=hs3.2 s3 true
    refine⟨.inl ?_, fun _=> ?_⟩
    · simp only[s3,decide_true]; exact this.1
    · simp only[s3,decide_true]; exact⟨this.1,this.2,trivial⟩
  · refine⟨?_, fun q=>absurd q s3⟩
    simp only[s3,decide_false]; exact hs3.1 s3
theorem Good.firm {D:DS} {f:Int} {C:CS} {P:Nat→Bytes→Prop} (h:Good D f C P) (hs: ¬(C.sure=false∧0<C.slot)):Uh D f C:= by
  rcases h.hdr with h1 | ⟨h1,h2,_⟩
  · exact h1
  · exact absurd ⟨h1,h2⟩ hs
theorem Good.set {D:DS} {f:Int} {C:CS} {P:Nat→Bytes→Prop} (h:Good D f C P) (s:Bytes) (hP: ∀sl,sl≠0→P sl s):
    OkSt (ZB D C s).D f (ZB D C s).C P∧((ZB D C s).e=0→Good (ZB D C s).D f (ZB D C s).C P∧Uh (ZB D C s).D f (ZB D C s).C∧(ZB D C s).C.f=f∧(ZB D C s).C.val=s∧0<(ZB D C s).C.slot∧(ZB D C s).C.sure=true):= by
  by_cases hlong:65536<s.length
  · rw[KO hlong]; exact⟨.inl h, fun q=>absurd q (show ¬((6:Int)=0) by decide)⟩
  have fin: ∀{D':DS} {C':CS},Good D' f C' P→Uh D' f C'→OkSt (W2 D' C' s).D f (W2 D' C' s).C P∧((W2 D' C' s).e=0→Good (W2 D' C' s).D f (W2 D' C' s).C P∧Uh (W2 D' C' s).D f (W2 D' C' s).C∧(W2 D' C' s).C.f=f∧(W2 D' C' s).C.val=s∧0<(W2 D' C' s).C.slot∧(W2 D' C' s).C.sure=true):= fun hg hf=> by
    obtain⟨r1,r2⟩:=hg.set2 hf s (by omega) hP
    refine⟨r1, fun q=> ?_⟩
    obtain⟨a,b,c⟩:=r2 q
    refine⟨a,b, ?_⟩
    rw[c]; exact⟨rfl,rfl, by show 0<other _; have :=Ms ‹CS›;omega,rfl⟩
  by_cases hc:C.sure=false∧0<C.slot
  · have hcf:=h.cf
    subst hcf
    by_cases h3:Wa D C.f=0
    · rw[GZ hlong hc.1 hc.2 h3]
      have :=h.sync.2 h3 true
      exact fin this.1 this.2
    · rw[KP hlong hc.1 hc.2 h3]
      exact⟨h.sync.1 h3, fun q=>absurd q h3⟩
  · rw[KQ hlong hc]
    exact fin h (h.firm hc)
theorem Downed.stay {D:DS} {f:Int} {P:Nat→Bytes→Prop} (h:Downed D f P):Zx D=D∧Yf D=false∧Jn D=D∧ ∀g,Wf D g=9:= by
  have e1:Zx D=D:= by unfold Zx; rw[if_pos (.inl h.down)]
  have e2:Yf D=false:= by unfold Yf; simp [h.down]
  exact⟨e1,e2, by rw[Gm e2,e1], fun g=> by rw[Wf,if_pos h.down]⟩
theorem Downed.write {D:DS} {f g a:Int} {P:Nat→Bytes→Prop} (h:Downed D f P) (s:Bytes):WJ D g a s=9∧XU D g a s=D:= by
  obtain⟨e1,e2,_,e4⟩:=h.stay
  have :WW D g a s=9:= by rw[WW,if_pos (by rw[e4];decide),e4]
  exact⟨by rw[WJ,e2,e1];simpa using this, by simp only[XU,e2,e1]; rw[Ji,this];rfl⟩
theorem Downed.sync {D:DS} {f g:Int} {P:Nat→Bytes→Prop} (h:Downed D f P):Wa D g=9∧Zq D g=D:= by
  obtain⟨_,_,e3,e4⟩:=h.stay
  exact⟨by rw[Wa,e3,e4];rfl, by rw[Zq,e3,e4];rfl⟩
theorem Downed.set {D:DS} {f:Int} {P:Nat→Bytes→Prop} (h:Downed D f P) (C:CS) (s:Bytes):(ZB D C s).e≠0∧(ZB D C s).D=D∧(ZB D C s).C=C:= by
  by_cases hlong:65536<s.length
  · rw[KO hlong]; exact⟨show(6:Int)≠0 by decide,rfl,rfl⟩
  by_cases hc:C.sure=false∧0<C.slot
  · rw[KP hlong hc.1 hc.2 (by rw[h.sync.1];decide),h.sync.1,h.sync.2]; exact⟨show(9:Int)≠0 by decide,rfl,rfl⟩
  · rw[KQ hlong hc,Dk (by rw[(h.write s).1];decide),(h.write s).1,(h.write s).2]; exact⟨show(9:Int)≠0 by decide,rfl,rfl⟩
theorem Downed.crash {D:DS} {f:Int} {P:Nat→Bytes→Prop} (h:Downed D f P) (ks:List Int):Downed (ZY D ks) f P:= by rw[FG h.down]; exact h
theorem OkSt.crash {D:DS} {f:Int} {C:CS} {P:Nat→Bytes→Prop} (h:OkSt D f C P) (ks:List Int):Downed (ZY D ks) f P:=h.elim (fun g=>g.crash ks) (fun g=>g.crash ks)
theorem OkSt.set {D:DS} {f:Int} {C:CS} {P:Nat→Bytes→Prop} (h:OkSt D f C P) (s:Bytes) (hP: ∀sl,sl≠0→P sl s):
    OkSt (ZB D C s).D f (ZB D C s).C P∧((ZB D C s).e=0→Good (ZB D C s).D f (ZB D C s).C P∧Uh (ZB D C s).D f (ZB D C s).C∧(ZB D C s).C.f=f∧(ZB D C s).C.val=s∧0<(ZB D C s).C.slot∧(ZB D C s).C.sure=true):= by
  rcases h with h | h
  · exact h.set s hP
  · obtain⟨e1,e2,e3⟩:=h.set C s
    rw[e2,e3]; exact⟨.inr h, fun q=>absurd q e1⟩
theorem Good.narrow {D:DS} {f:Int} {C:CS} {P P':Nat→Bytes→Prop} (h:Good D f C P) (hf:Uh D f C) (hp:P' C.slot C.val):Good D f C P':=⟨h.up,h.cf,h.pos,h.now,h.here,hp,.inl hf⟩
theorem Good.widen {D:DS} {f:Int} {C:CS} {P P':Nat→Bytes→Prop} (h:Good D f C P) (hp: ∀s v,P s v→P' s v):Good D f C P':=⟨h.up,h.cf,h.pos,h.now,h.here,hp _ _ h.pc,h.hdr.imp id fun ⟨a,b,s,v,c,d,e⟩=>⟨a,b,s,v,c,d,hp _ _ e⟩⟩
theorem Downed.widen {D:DS} {f:Int} {P P':Nat→Bytes→Prop} (h:Downed D f P) (hp: ∀s v,P s v→P' s v):Downed D f P':=⟨h.ran,h.down,h.same,h.quiet,let ⟨s,v,a,b⟩:=h.says;⟨s,v,a,hp _ _ b⟩⟩
theorem OkSt.widen {D:DS} {f:Int} {C:CS} {P P':Nat→Bytes→Prop} (h:OkSt D f C P) (hp: ∀s v,P s v→P' s v):OkSt D f C P':=h.imp (fun g=>g.widen hp) (fun g=>g.widen hp)
theorem Gk {D:DS} {f:Int} {s:Nat} {v:Bytes} (hm:Wf D f=0) (h:Dec (D.F f).1 s v):WP D f=0∧Hf D f=⟨f,s,v,false⟩:= by
  have hr (a n:Nat):Wk D f a n=0∧WC D f a n=((D.F f).1.drop a).take n:= by
    have e:Wk D f a n=0:= by rw[Wk,if_neg (by omega),if_neg (by omega)]
    exact⟨e, by rw[WC,if_pos e,Int.toNat_natCast,Int.toNat_natCast]⟩
  have h5:=hr 0 5
  rw[List.drop_zero]at h5
  have hh:Ya (WC D f 0 5)=hd (D.F f).1:= by
    have :=h5.2
    rw[show WC D f 0 5=(D.F f).1.take 5 from this];rfl
  rcases h with⟨rfl,rfl,h1⟩ | ⟨hs,h1,h2,h3⟩
  · exact Yk h5.1 (by rw[hh,h1])
  · have e:WC D f (QI s) (v.length:Int)=v:= by
      have :=(hr (QI s).toNat v.length).2
      rw[Int.toNat_of_nonneg (Ja s)]at this
      rw[this,h2]
    have :=Jc h5.1 (by rw[hh,h1]) (by rw[e];omega)
    rw[e]at this; exact this
theorem Downed.reopen {D:DS} {f:Int} {P:Nat→Bytes→Prop} (h:Downed D f P):WP (ZA D) f=0∧ ∃s v,Hf (ZA D) f=⟨f,s,v,false⟩∧s≤2∧P s v∧Good (ZA D) f ⟨f,s,v,false⟩ P∧Uh (ZA D) f ⟨f,s,v,false⟩:= by
  obtain⟨s,v,h1,h2⟩:=h.says
  have hm:Wf (ZA D) f=0:=EP h.ran
  obtain⟨o1,o2⟩:=Gk (D:=ZA D) hm h1
  have hfirm:Uh (ZA D) f ⟨f,s,v,false⟩:=⟨fun p hp hpf=>absurd hpf (h.quiet p hp), by show Dec (D.F f).2 s v; rw[h.same]; exact h1⟩
  refine⟨o1,s,v,o2,h1.slot2,h2,⟨hm,rfl, fun p hp hpf=>absurd hpf (h.quiet p hp),h1, ?_,h2,.inl hfirm⟩,hfirm⟩
  by_cases h0:s=0
  · exact .inl h0
  · exact .inr ⟨by show((D.F f).2.drop _).take _=_; rw[h.same]; exact h1.reg (by omega), fun p hp hpf=>absurd hpf (h.quiet p hp)⟩
theorem OkSt.again {D:DS} {f:Int} {C:CS} {P:Nat→Bytes→Prop} (h:OkSt D f C P) (ks:List Int):WP (ZA (ZY D ks)) f=0∧ ∃s v,Hf (ZA (ZY D ks)) f=⟨f,s,v,false⟩∧s≤2∧P s v∧Good (ZA (ZY D ks)) f ⟨f,s,v,false⟩ P∧Uh (ZA (ZY D ks)) f ⟨f,s,v,false⟩:=(h.crash ks).reopen
theorem Good.begin {f:Int} {P:Nat→Bytes→Prop} (hf:0≤f∧f<16) (hP:P 0 []):WP newD f=0∧Hf newD f=RG f∧Good newD f (RG f) P∧Uh newD f (RG f):= by
  have hm:Wf newD f=0:= by show(if newD.down=true then(9:Int)else _)=0; simp [newD];omega
  have hdec:Dec (newD.F f).1 0 []:= .inl ⟨rfl,rfl,rfl⟩
  obtain⟨o1,o2⟩:=Gk hm hdec
  have hfirm:Uh newD f (RG f):=⟨fun p hp=> by simp [newD]at hp,hdec⟩
  exact⟨o1,o2,⟨hm,rfl, fun p hp=> by simp [newD]at hp,hdec,.inl Qa,hP,.inl hfirm⟩,hfirm⟩
theorem OkSt.slot2 {D:DS} {f:Int} {C:CS} {P:Nat→Bytes→Prop} (h:Good D f C P):C.slot≤2:=h.now.slot2
structure Calm (D:DS):Prop where
  armed:D.armed=0
  lost:D.lost≤0
theorem Calm.write {D:DS} {f a:Int} {s:Bytes} (h:Calm D) (hm:Wf D f=0) (ha:0≤a) (hl:a+s.length≤16777216):WJ D f a s=0∧XU D f a s=Y9 D f a s∧Calm (Y9 D f a s):= by
  have e1:Yf D=false:= by simp [Yf,h.armed]
  have e2:Zx D=D:= by unfold Zx; rw[if_pos (.inr h.armed)]
  have hc:Calm (Y9 D f a s):= by unfold Y9;split; exact h; exact⟨h.armed,h.lost⟩
  have hw:WW D f a s=0:= by rw[WW,if_neg (by omega),if_neg (by omega),if_neg (by omega)]
  exact⟨by rw[WJ,e1,e2];simpa using hw, by simp only[XU,e1,e2]; rw[Ji,hw];rfl,hc⟩
theorem Calm.sync {D:DS} {f:Int} (h:Calm D) (hm:Wf D f=0):Wa D f=0∧Zq D f=Wz D f (D.F f).1∧Calm (Wz D f (D.F f).1):= by
  have e2:Zx D=D:= by unfold Zx; rw[if_pos (.inr h.armed)]
  have hl:Jn D=D:= by rw[Gm (by simp [Yf,h.armed]),e2]
  have hn: ¬0<D.lost:= by have :=h.lost;omega
  rw[Wa,Zq,hl,if_neg (by omega),if_neg hn,if_neg (by omega),if_neg hn]
  exact⟨Qa,Qa,⟨h.armed,h.lost⟩⟩
theorem Calm.set {D:DS} {f:Int} {C:CS} {s:Bytes} (h:Calm D) (hm:Wf D f=0) (hcf:C.f=f) (hs: ¬(C.sure=false∧0<C.slot)) (hl:s.length≤65536):
    (ZB D C s).e=0∧Calm (ZB D C s).D∧Wf (ZB D C s).D f=0∧(ZB D C s).C=⟨f,other C,s,true⟩∧((ZB D C s).D.F f).1=J8 (J8 (D.F f).1 (QI (other C)).toNat s) 0 (HJ (other C) s.length):= by
  subst hcf
  have hge:=JW (other C)
  have hle:QI (other C)≤131072:= by unfold QI;split<;>decide
  have hup (a:Int) (t:Bytes) (X:DS):Wf (Y9 X C.f a t) C.f=Wf X C.f:=FT
  obtain⟨w1,w2,w3⟩:=h.write (f:=C.f) (a:=QI (other C)) (s:=s) hm (by omega) (by omega)
  obtain⟨s1,s2,s3⟩:=w3.sync (f:=C.f) (by rw[hup]; exact hm)
  have hm2:Wf (Wz (Y9 D C.f (QI (other C)) s) C.f ((Y9 D C.f (QI (other C)) s).F C.f).1) C.f=0:= by show Wf (Y9 D C.f (QI (other C)) s) C.f=0; rw[hup]; exact hm
  obtain⟨x1,x2,x3⟩:=s3.write (f:=C.f) (a:=0) (s:=HJ (other C) s.length) hm2 (by omega) (by show(0:Int)+5≤_;omega)
  obtain⟨y1,y2,y3⟩:=x3.sync (f:=C.f) (by rw[hup]; exact hm2)
  rw[KQ (by omega) hs,Dj (w1) (by rw[w2]; exact s1) (by rw[w2,s2]; exact x1),w2,s2,x2,y1,y2]
  refine⟨Qa,y3, ?_,Qa, ?_⟩
  · show Wf (Y9 _ _ _ _) _=0; rw[hup]; exact hm2
  · show(JX _ _ _ _).1=_
    simp only[JX,if_true]
    rw[R6]
    simp only[Wz,JX,if_true]
    rw[R6];rfl
theorem calm_new:Calm newD:=⟨rfl, by decide⟩
end Go.Proofs.YtiibgheijbbmaaaGreatDoor
namespace Go.Proofs
open Proofs.Tryz
open Go.Shelf
def Tryz.lays137_ren:Go.Shelf.Ren:=⟨fun | 137=>123 | 217=>134 | 266=>151 | n=>n, fun | 9=>9 | 5=>5 | 3=>3 | n=>n, fun | n=>n⟩
theorem Tryz.lays137:Go.Proofs.Lays.n137 prog Tryz.lays137_ren:={
  mixed:= by kernel_rfl
  f137:=func123.trans (congrArg some (by kernel_rfl))
  f217:=func134.trans (congrArg some (by kernel_rfl))
  f266:=func151.trans (congrArg some (by kernel_rfl))
  t3:=underlying3
  a3:=Tryz.isAgg3
  z3:=Tryz.sizeOf3
  v3:=Tryz.zeroValue3
  t5:=underlying5
  a5:=Tryz.isAgg5
  z5:=Tryz.sizeOf5
  v5:=Tryz.zeroValue5
  t9:=underlying9
  a9:=Tryz.isAgg9
  z9:=Tryz.sizeOf9
  v9:=Tryz.zeroValue9}
open Go.RowKit in
theorem Tryz.strings_IndexByte (s:ByteArray) (c:Int) (w:World):
    Calls prog 123 #[.string s,.int .u8 c] w fun e w'=>e= .returned (.int .i64 (Lib.indexByte s.data.toList c.toNat.toUInt8))∧w'=w:=Any.strings_IndexByte Tryz.lays137 s c w
def Tryz.laysM171_ren:Go.Shelf.Ren:=⟨fun | 171=>112 | 243=>128 | 246=>139 | 283=>158 | 284=>159 | 285=>160 | 286=>161 | 129=>150 | 317=>171 | 318=>172 | 319=>173 | 320=>174 | 337=>178 | 338=>179 | n=>n, fun | 3=>3 | 9=>9 | 2=>2 | 4=>4 | 171=>197 | 0=>0 | 53=>189 | 37=>98 | 5=>5 | 173=>199 | 212=>214 | 51=>187 | 20=>20 | 213=>215 | 46=>131 | 232=>223 | 233=>224 | n=>n, fun | 17=>4 | 18=>5 | 19=>6 | n=>n⟩
theorem Tryz.laysM171:Go.Proofs.LaysM.n171 prog Tryz.laysM171_ren:={
  mixed:= by kernel_rfl
  f129:=func150.trans (congrArg some (by kernel_rfl))
  f171:=func112.trans (congrArg some (by kernel_rfl))
  f243:=func128.trans (congrArg some (by kernel_rfl))
  f246:=func139.trans (congrArg some (by kernel_rfl))
  f283:=func158.trans (congrArg some (by kernel_rfl))
  f284:=func159.trans (congrArg some (by kernel_rfl))
  f285:=func160.trans (congrArg some (by kernel_rfl))
  f286:=func161.trans (congrArg some (by kernel_rfl))
  f317:=func171.trans (congrArg some (by kernel_rfl))
  f318:=func172.trans (congrArg some (by kernel_rfl))
  f319:=func173.trans (congrArg some (by kernel_rfl))
  f320:=func174.trans (congrArg some (by kernel_rfl))
  f337:=func178.trans (congrArg some (by kernel_rfl))
  f338:=func179.trans (congrArg some (by kernel_rfl))
  t0:=underlying0
  a0:=Tryz.isAgg0
  z0:=Tryz.sizeOf0
  v0:=Tryz.zeroValue0
  t2:=underlying2
  a2:=Tryz.isAgg2
  z2:=Tryz.sizeOf2
  v2:=Tryz.zeroValue2
  t3:=underlying3
  a3:=Tryz.isAgg3
  z3:=Tryz.sizeOf3
  v3:=Tryz.zeroValue3
  t4:=underlying4
  a4:=Tryz.isAgg4
  z4:=Tryz.sizeOf4
  v4:=Tryz.zeroValue4
  t5:=underlying5
  a5:=Tryz.isAgg5
  z5:=Tryz.sizeOf5
  v5:=Tryz.zeroValue5
  t9:=underlying9
  a9:=Tryz.isAgg9
  z9:=Tryz.sizeOf9
  v9:=Tryz.zeroValue9
  t20:=underlying20
  a20:=Tryz.isAgg20
  z20:=Tryz.sizeOf20
  v20:=Tryz.zeroValue20
  t37:=underlying98
  a37:=Tryz.isAgg98
  z37:=Tryz.sizeOf98
  v37:=Tryz.zeroValue98
  t46:=underlying131
  a46:=Tryz.isAgg131
  z46:=Tryz.sizeOf131
  v46:=Tryz.zeroValue131
  t51:=underlying187
  a51:=Tryz.isAgg187
  z51:=Tryz.sizeOf187
  v51:=Tryz.zeroValue187
  t53:=underlying189
  a53:=Tryz.isAgg189
  z53:=Tryz.sizeOf189
  v53:=Tryz.zeroValue189
  t171:=underlying197
  a171:=Tryz.isAgg197
  z171:=Tryz.sizeOf197
  v171:=Tryz.zeroValue197
  t173:=underlying199
  a173:=Tryz.isAgg199
  z173:=Tryz.sizeOf199
  v173:=Tryz.zeroValue199
  t212:=underlying214
  a212:=Tryz.isAgg214
  z212:=Tryz.sizeOf214
  v212:=Tryz.zeroValue214
  t213:=underlying215
  a213:=Tryz.isAgg215
  z213:=Tryz.sizeOf215
  t232:=underlying223
  a232:=Tryz.isAgg223
  z232:=Tryz.sizeOf223
  v232:=Tryz.zeroValue223
  t233:=underlying224
  a233:=Tryz.isAgg224
  z233:=Tryz.sizeOf224
  v233:=Tryz.zeroValue224
  g17:= by kernel_rfl
  g18:= by kernel_rfl
  g19:= by kernel_rfl
  i0:= by kernel_rfl
  i2:= by kernel_rfl
  i3:= by kernel_rfl
  i4:= by kernel_rfl
  i5:= by kernel_rfl
  i9:= by kernel_rfl
  i20:= by kernel_rfl
  i37:= by kernel_rfl
  i46:= by kernel_rfl
  i51:= by kernel_rfl
  i53:= by kernel_rfl
  i171:= by kernel_rfl
  i173:= by kernel_rfl
  i212:= by kernel_rfl
  i232:= by kernel_rfl
  i233:= by kernel_rfl
  m17:= by kernel_rfl
  m18:= by kernel_rfl
  m19:= by kernel_rfl}
open Go.RowKit Go.Sort Go.Lib in
theorem Tryz.strconv_Itoa (n : Int) (h0 : -9223372036854775808 ≤ n) (h1 : n ≤ 9223372036854775807) (w : World) (htab : Lib.TabIs prog w "internal/strconv.uint64pow10" .u64 Lib.pow10Tab) :
    Calls prog 112 #[.int .i64 n] w fun e w'=>e= .returned (.string ⟨(Lib.itoa n).toArray⟩)∧ ∃k os,w'=grow (w.drewN k) os:=Any.strconv_Itoa Tryz.laysM171 n h0 h1 w htab
def Tryz.laysC172_ren:Go.Shelf.Ren:=⟨fun | 172=>124 | 244=>135 | 245=>136 | 247=>152 | 279=>153 | 280=>154 | 281=>155 | 282=>156 | 287=>168 | 316=>169 | 171=>112 | 205=>170 | 321=>176 | 322=>177 | 243=>128 | 246=>139 | 283=>158 | 284=>159 | 285=>160 | 286=>161 | 129=>150 | 317=>171 | 318=>172 | 319=>173 | 320=>174 | 337=>178 | 338=>179 | n=>n, fun | 9=>9 | 3=>3 | 75=>151 | 76=>152 | 4=>4 | 5=>5 | 167=>190 | 37=>98 | 0=>0 | 85=>191 | 2=>2 | 168=>193 | 53=>189 | 175=>207 | 46=>131 | 210=>210 | 127=>168 | 145=>222 | 143=>220 | 21=>21 | 171=>197 | 173=>199 | 212=>214 | 51=>187 | 20=>20 | 213=>215 | 232=>223 | 233=>224 | 80=>105 | n=>n, fun | 15=>2 | 16=>3 | 17=>4 | 18=>5 | 19=>6 | n=>n⟩
theorem Tryz.laysC172:Go.Proofs.LaysC.n172 prog Tryz.laysC172_ren:={
  mixed:= by kernel_rfl
  f129:=func150.trans (congrArg some (by kernel_rfl))
  f171:=func112.trans (congrArg some (by kernel_rfl))
  f172:=func124.trans (congrArg some (by kernel_rfl))
  f205:=func170.trans (congrArg some (by kernel_rfl))
  f243:=func128.trans (congrArg some (by kernel_rfl))
  f244:=func135.trans (congrArg some (by kernel_rfl))
  f245:=func136.trans (congrArg some (by kernel_rfl))
  f246:=func139.trans (congrArg some (by kernel_rfl))
  f247:=func152.trans (congrArg some (by kernel_rfl))
  f279:=func153.trans (congrArg some (by kernel_rfl))
  f280:=func154.trans (congrArg some (by kernel_rfl))
  f281:=func155.trans (congrArg some (by kernel_rfl))
  f282:=func156.trans (congrArg some (by kernel_rfl))
  f283:=func158.trans (congrArg some (by kernel_rfl))
  f284:=func159.trans (congrArg some (by kernel_rfl))
  f285:=func160.trans (congrArg some (by kernel_rfl))
  f286:=func161.trans (congrArg some (by kernel_rfl))
  f287:=func168.trans (congrArg some (by kernel_rfl))
  f316:=func169.trans (congrArg some (by kernel_rfl))
  f317:=func171.trans (congrArg some (by kernel_rfl))
  f318:=func172.trans (congrArg some (by kernel_rfl))
  f319:=func173.trans (congrArg some (by kernel_rfl))
  f320:=func174.trans (congrArg some (by kernel_rfl))
  f321:=func176.trans (congrArg some (by kernel_rfl))
  f322:=func177.trans (congrArg some (by kernel_rfl))
  f337:=func178.trans (congrArg some (by kernel_rfl))
  f338:=func179.trans (congrArg some (by kernel_rfl))
  t0:=underlying0
  a0:=Tryz.isAgg0
  z0:=Tryz.sizeOf0
  v0:=Tryz.zeroValue0
  t2:=underlying2
  a2:=Tryz.isAgg2
  z2:=Tryz.sizeOf2
  v2:=Tryz.zeroValue2
  t3:=underlying3
  a3:=Tryz.isAgg3
  z3:=Tryz.sizeOf3
  v3:=Tryz.zeroValue3
  t4:=underlying4
  a4:=Tryz.isAgg4
  z4:=Tryz.sizeOf4
  v4:=Tryz.zeroValue4
  t5:=underlying5
  a5:=Tryz.isAgg5
  z5:=Tryz.sizeOf5
  v5:=Tryz.zeroValue5
  t9:=underlying9
  a9:=Tryz.isAgg9
  z9:=Tryz.sizeOf9
  v9:=Tryz.zeroValue9
  t20:=underlying20
  a20:=Tryz.isAgg20
  z20:=Tryz.sizeOf20
  v20:=Tryz.zeroValue20
  t21:=underlying21
  a21:=Tryz.isAgg21
  z21:=Tryz.sizeOf21
  v21:=Tryz.zeroValue21
  t37:=underlying98
  a37:=Tryz.isAgg98
  z37:=Tryz.sizeOf98
  v37:=Tryz.zeroValue98
  t46:=underlying131
  a46:=Tryz.isAgg131
  z46:=Tryz.sizeOf131
  v46:=Tryz.zeroValue131
  t51:=underlying187
  a51:=Tryz.isAgg187
  z51:=Tryz.sizeOf187
  v51:=Tryz.zeroValue187
  t53:=underlying189
  a53:=Tryz.isAgg189
  z53:=Tryz.sizeOf189
  v53:=Tryz.zeroValue189
  t75:=underlying151
  a75:=Tryz.isAgg151
  z75:=Tryz.sizeOf151
  v75:=Tryz.zeroValue151
  t76:=underlying152
  a76:=Tryz.isAgg152
  z76:=Tryz.sizeOf152
  v76:=Tryz.zeroValue152
  t85:=underlying191
  a85:=Tryz.isAgg191
  z85:=Tryz.sizeOf191
  v85:=Tryz.zeroValue191
  t127:=underlying168
  a127:=Tryz.isAgg168
  z127:=Tryz.sizeOf168
  v127:=Tryz.zeroValue168
  t143:=underlying220
  a143:=Tryz.isAgg220
  z143:=Tryz.sizeOf220
  v143:=Tryz.zeroValue220
  t145:=underlying222
  a145:=Tryz.isAgg222
  z145:=Tryz.sizeOf222
  v145:=Tryz.zeroValue222
  t167:=underlying190
  a167:=Tryz.isAgg190
  z167:=Tryz.sizeOf190
  v167:=Tryz.zeroValue190
  t168:=underlying193
  a168:=Tryz.isAgg193
  z168:=Tryz.sizeOf193
  v168:=Tryz.zeroValue193
  t171:=underlying197
  a171:=Tryz.isAgg197
  z171:=Tryz.sizeOf197
  v171:=Tryz.zeroValue197
  t173:=underlying199
  a173:=Tryz.isAgg199
  z173:=Tryz.sizeOf199
  v173:=Tryz.zeroValue199
  t175:=underlying207
  a175:=Tryz.isAgg207
  z175:=Tryz.sizeOf207
  v175:=Tryz.zeroValue207
  t210:=underlying210
  a210:=Tryz.isAgg210
  z210:=Tryz.sizeOf210
  v210:=Tryz.zeroValue210
  t212:=underlying214
  a212:=Tryz.isAgg214
  z212:=Tryz.sizeOf214
  v212:=Tryz.zeroValue214
  t213:=underlying215
  a213:=Tryz.isAgg215
  z213:=Tryz.sizeOf215
  t232:=underlying223
  a232:=Tryz.isAgg223
  z232:=Tryz.sizeOf223
  v232:=Tryz.zeroValue223
  t233:=underlying224
  a233:=Tryz.isAgg224
  z233:=Tryz.sizeOf224
  v233:=Tryz.zeroValue224
  g15:= by kernel_rfl
  g16:= by kernel_rfl
  g17:= by kernel_rfl
  g18:= by kernel_rfl
  g19:= by kernel_rfl
  t80:=underlying105
  a80:=Tryz.isAgg105
  z80:=Tryz.sizeOf105
  v80:=Tryz.zeroValue105
  i0:= by kernel_rfl
  i2:= by kernel_rfl
  i3:= by kernel_rfl
  i4:= by kernel_rfl
  i5:= by kernel_rfl
  i9:= by kernel_rfl
  i20:= by kernel_rfl
  i21:= by kernel_rfl
  i37:= by kernel_rfl
  i46:= by kernel_rfl
  i51:= by kernel_rfl
  i53:= by kernel_rfl
  i75:= by kernel_rfl
  i76:= by kernel_rfl
  i80:= by kernel_rfl
  i85:= by kernel_rfl
  i127:= by kernel_rfl
  i143:= by kernel_rfl
  i145:= by kernel_rfl
  i167:= by kernel_rfl
  i168:= by kernel_rfl
  i171:= by kernel_rfl
  i173:= by kernel_rfl
  i175:= by kernel_rfl
  i210:= by kernel_rfl
  i212:= by kernel_rfl
  i232:= by kernel_rfl
  i233:= by kernel_rfl
  m15:= by kernel_rfl
  m16:= by kernel_rfl
  m17:= by kernel_rfl
  m18:= by kernel_rfl
  m19:= by kernel_rfl
  c0:= by kernel_rfl
  c2:= by kernel_rfl
  c3:= by kernel_rfl
  c4:= by kernel_rfl
  c5:= by kernel_rfl
  c9:= by kernel_rfl
  c20:= by kernel_rfl
  c21:= by kernel_rfl
  c37:= by kernel_rfl
  c46:= by kernel_rfl
  c51:= by kernel_rfl
  c53:= by kernel_rfl
  c75:= by kernel_rfl
  c76:= by kernel_rfl
  c80:= by kernel_rfl
  c85:= by kernel_rfl
  c127:= by kernel_rfl
  c143:= by kernel_rfl
  c145:= by kernel_rfl
  c167:= by kernel_rfl
  c168:= by kernel_rfl
  c171:= by kernel_rfl
  c173:= by kernel_rfl
  c175:= by kernel_rfl
  c210:= by kernel_rfl
  c212:= by kernel_rfl
  c213:= by kernel_rfl
  c232:= by kernel_rfl
  c233:= by kernel_rfl}
open Go.RowKit in
theorem Tryz.strconv_Atoi_ok (s:ByteArray) (hmax:s.size≤9223372036854775806) (v:Int) (h:Lib.atoiAll s.data.toList= .ok v) (w:World):
    Calls prog 124 #[.string s] w fun e w'=>e= .returned (.tuple #[.int .i64 v,.nilIface])∧(w'=w∨ ∃t,w'=Lib.bytesWorld w 5 t):=Any.strconv_Atoi_ok Tryz.laysC172 s hmax v h w
open Go.RowKit in
theorem Tryz.strconv_Atoi_syntax_var (s : ByteArray) (hlim : s.size ≤ 281474976710656) (h : Lib.atoiAll s.data.toList = .«syntax») (tp : TypeId) (p : Value) (w : World) (hvar : w.var? prog "strconv.ErrSyntax" = some #[.iface tp p]) :
    Calls prog 124 #[.string s] w fun e w'=> ∃N,e= .returned (.tuple #[.int .i64 0,.iface 193 (.pointer (some ⟨N,0,none⟩))])∧w.heap.size≤N∧w'.heap[N]? =some (.cells #[.string ⟨#[65,116,111,105]⟩,.string s,.iface tp p] 210 (0,0))∧Below w.heap.size w w':=Any.strconv_Atoi_syntax_var Tryz.laysC172 s hlim h tp p w hvar
open Go.RowKit in
theorem Tryz.strconv_Atoi_range_var (s : ByteArray) (hlim : s.size ≤ 281474976710656) (h : Lib.atoiAll s.data.toList = .range) (tp : TypeId) (p : Value) (w : World) (hvar : w.var? prog "strconv.ErrRange" = some #[.iface tp p]) :
    Calls prog 124 #[.string s] w fun e w'=> ∃N,e= .returned (.tuple #[.int .i64 (Lib.atoiSat s.data.toList),.iface 193 (.pointer (some ⟨N,0,none⟩))])∧w.heap.size≤N∧w'.heap[N]? =some (.cells #[.string ⟨#[65,116,111,105]⟩,.string s,.iface tp p] 210 (0,0))∧Below w.heap.size w w':=Any.strconv_Atoi_range_var Tryz.laysC172 s hlim h tp p w hvar
def Tryz.lays189_ren:Go.Shelf.Ren:=⟨fun | 189=>120 | 125=>133 | 257=>132 | 128=>149 | 129=>150 | 294=>140 | 295=>141 | 296=>142 | 297=>143 | 298=>144 | 299=>145 | 216=>146 | 300=>147 | 301=>148 | 328=>162 | 329=>163 | 330=>164 | 331=>165 | 332=>166 | 215=>167 | 343=>175 | n=>n, fun | 28=>33 | 3=>3 | 46=>131 | 0=>0 | 51=>187 | 53=>189 | 4=>4 | 183=>179 | 182=>178 | 131=>184 | 5=>5 | 9=>9 | 218=>201 | 222=>205 | 228=>216 | 229=>36 | n=>n, fun | n=>n⟩
theorem Tryz.lays189:Go.Proofs.Lays.n189 prog Tryz.lays189_ren:={
  mixed:= by kernel_rfl
  f125:=func133.trans (congrArg some (by kernel_rfl))
  f128:=func149.trans (congrArg some (by kernel_rfl))
  f129:=func150.trans (congrArg some (by kernel_rfl))
  f189:=func120.trans (congrArg some (by kernel_rfl))
  f215:=func167.trans (congrArg some (by kernel_rfl))
  f216:=func146.trans (congrArg some (by kernel_rfl))
  f257:=func132.trans (congrArg some (by kernel_rfl))
  f294:=func140.trans (congrArg some (by kernel_rfl))
  f295:=func141.trans (congrArg some (by kernel_rfl))
  f296:=func142.trans (congrArg some (by kernel_rfl))
  f297:=func143.trans (congrArg some (by kernel_rfl))
  f298:=func144.trans (congrArg some (by kernel_rfl))
  f299:=func145.trans (congrArg some (by kernel_rfl))
  f300:=func147.trans (congrArg some (by kernel_rfl))
  f301:=func148.trans (congrArg some (by kernel_rfl))
  f328:=func162.trans (congrArg some (by kernel_rfl))
  f329:=func163.trans (congrArg some (by kernel_rfl))
  f330:=func164.trans (congrArg some (by kernel_rfl))
  f331:=func165.trans (congrArg some (by kernel_rfl))
  f332:=func166.trans (congrArg some (by kernel_rfl))
  f343:=func175.trans (congrArg some (by kernel_rfl))
  t0:=underlying0
  a0:=Tryz.isAgg0
  z0:=Tryz.sizeOf0
  v0:=Tryz.zeroValue0
  t3:=underlying3
  a3:=Tryz.isAgg3
  z3:=Tryz.sizeOf3
  v3:=Tryz.zeroValue3
  t4:=underlying4
  a4:=Tryz.isAgg4
  z4:=Tryz.sizeOf4
  v4:=Tryz.zeroValue4
  t5:=underlying5
  a5:=Tryz.isAgg5
  z5:=Tryz.sizeOf5
  v5:=Tryz.zeroValue5
  t9:=underlying9
  a9:=Tryz.isAgg9
  z9:=Tryz.sizeOf9
  v9:=Tryz.zeroValue9
  t28:=underlying33
  a28:=Tryz.isAgg33
  z28:=Tryz.sizeOf33
  v28:=Tryz.zeroValue33
  t46:=underlying131
  a46:=Tryz.isAgg131
  z46:=Tryz.sizeOf131
  v46:=Tryz.zeroValue131
  t51:=underlying187
  a51:=Tryz.isAgg187
  z51:=Tryz.sizeOf187
  v51:=Tryz.zeroValue187
  t53:=underlying189
  a53:=Tryz.isAgg189
  z53:=Tryz.sizeOf189
  v53:=Tryz.zeroValue189
  t131:=underlying184
  a131:=Tryz.isAgg184
  z131:=Tryz.sizeOf184
  v131:=Tryz.zeroValue184
  t182:=underlying178
  a182:=Tryz.isAgg178
  z182:=Tryz.sizeOf178
  v182:=Tryz.zeroValue178
  t183:=underlying179
  a183:=Tryz.isAgg179
  z183:=Tryz.sizeOf179
  v183:=Tryz.zeroValue179
  t218:=underlying201
  a218:=Tryz.isAgg201
  z218:=Tryz.sizeOf201
  v218:=Tryz.zeroValue201
  t222:=underlying205
  a222:=Tryz.isAgg205
  z222:=Tryz.sizeOf205
  v222:=Tryz.zeroValue205
  t228:=underlying216
  a228:=Tryz.isAgg216
  z228:=Tryz.sizeOf216
  v228:=Tryz.zeroValue216
  t229:=underlying36
  a229:=Tryz.isAgg36
  z229:=Tryz.sizeOf36
  v229:=Tryz.zeroValue36}
open Go.Sort Go.RowKit in
theorem Tryz.slices_Sort_int (blk off cap:Nat) (zs:List Int) (w:World) (hH:Holds (Value.int .i64) w blk off zs.toArray) (hblk:blk<w.heap.size) (hsz:zs.length<4611686018427387904):
    Calls prog 120 #[.slice (some ⟨blk,off,none⟩) zs.length cap] w fun e w'=>
      e= .returned (.tuple #[])∧ ∃n os,w'=grow (putRow (Value.int .i64) (Sort.ahead w n) blk off (zs.mergeSort fun x y=>decide (x≤y)).toArray) os:=Any.slices_Sort_int Tryz.lays189 blk off cap zs w hH hblk hsz
def Tryz.lays206_ren:Go.Shelf.Ren:=⟨fun | 206=>157 | n=>n, fun | 9=>9 | 4=>4 | 3=>3 | n=>n, fun | n=>n⟩
theorem Tryz.lays206:Go.Proofs.Lays.n206 prog Tryz.lays206_ren:={
  mixed:= by kernel_rfl
  f206:=func157.trans (congrArg some (by kernel_rfl))
  t3:=underlying3
  a3:=Tryz.isAgg3
  z3:=Tryz.sizeOf3
  v3:=Tryz.zeroValue3
  t4:=underlying4
  a4:=Tryz.isAgg4
  z4:=Tryz.sizeOf4
  v4:=Tryz.zeroValue4
  t9:=underlying9
  a9:=Tryz.isAgg9
  z9:=Tryz.sizeOf9
  v9:=Tryz.zeroValue9}
open Go.RowKit Go.Lib in
theorem Tryz.stringslite_HasPrefix (s p:ByteArray) (w:World):
    Calls prog 157 #[.string s,.string p] w fun e w'=>e= .returned (.bool (Lib.hasPrefix s.data.toList p.data.toList))∧w'=w:=Any.stringslite_HasPrefix Tryz.lays206 s p w
open Go.RowKit Go.Sort in
theorem Tryz.slices_Sort_int_none (p:Option Addr) (cap:Nat) (w:World):
    Calls prog 120 #[.slice p 0 cap] w fun e w'=>e= .returned (.tuple #[])∧w'=w:=Any.slices_Sort_int_none Tryz.lays189 p cap w
end Go.Proofs
namespace Go.Proofs.YtiibgheijbbmaaaGreatDoor
open Go.RowKit M Proofs.Tryz
theorem sortI0 {w:World} {v:Value} {l:List Int} {As:List Th} (hS:Sat w (rowT inC v l::As)) (hl:l.length<4611686018427387904):Calls prog 120 #[v] w (Ret fun u w'=>u= .tuple #[]∧Sat w' (rowT inC v (UB l)::As)):=
  Sw (fun blk off cap ss w h1 h2 h3=>Tryz.slices_Sort_int blk off cap ss w h1 h2 h3) (fun p cap w=>Tryz.slices_Sort_int_none p cap w) hS hl
