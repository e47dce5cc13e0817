/- frames: Alloc, Free, Set, Page, Fill, New, Copy -/
import Derived.Test.YtifaibmhinlcfaaGreatDoorSh1
import Derived.Test.YtifaibmhinlcfaaGreatDoorBit
import Derived.Lib.Builder
import Derived.Lib.UnsafeStr
import Derived.Laws.AppendOwn
import Derived.Laws.Externs
import Derived.LaidEql
import Derived.Shelf.Strings.Builder1
import Derived.Shelf.Small.Bits
import Derived.Shelf.Small.Strs
import Derived.Shelf.Small.Wraps
import Derived.Shelf.Strings.BuilderF
import Derived.Shelf.Strings.BuilderK
import Derived.Shelf.Strconv.Itoa0
import Derived.Shelf.LaysM
import Derived.Shelf.Strconv.Clone
import Derived.Shelf.Sort.Plain
import Derived.Shelf.Strings.Prefix
import Derived.Shelf.Strings.BuilderCap
import Derived.Shelf.Slices.Turned
import Derived.Shelf.Slices.Equal
import Derived.Ground.Names2Prog
import Derived.Shelf.Slices.Clone
import Derived.Shelf.Slices.SearchI
import Derived.Shelf.Slices.In.SortNone
import Derived.Shelf.Slices.Empties2
import Derived.Test.YtifaibmhinlcfaaGreatDoorProg
set_option linter.unusedVariables false
set_option maxRecDepth 100000
namespace Go.Proofs.YtifaibmhinlcfaaGreatDoor
open Go.RowKit M Proofs.Tryz
variable {b:Bs} {cl:List FrD} {fl:List (Option Bs)} {j p:Nat} {w:World} {x:FrD}
theorem qd8 (h:cl[j]? =some x):((frC.cells cl).drop (0+j*65+1)).take 64=Zw (PW x.b):=by
  have c:=RowC.cells_at (C:=frC) h;have a:=congrArg (List.drop 1) c;rw[List.drop_take,List.drop_drop]at a;rw[show 0+j*65+1=j*65+1 by omega];exact a
theorem LB (h:cl[j]? =some x):0+j*65+1+64<=(frC.cells cl).length:=by
  have :=(Za h).1;rw[RowC.cells_len];show _<=cl.length*65;omega
theorem fr_copy {s:Bs} (h:cl[j]? =some x) (b:s.length=64):X6 (frC.cells cl) (0+j*65+1) (Zw (s.take 64))=frC.cells (cl.set j ⟨x.u,s⟩):=by
  have c:=(Za h).1;have d:=RowC.cells_at (C:=frC) h;have g:=LB h;rw[<-RowC.cells_set (C:=frC) (X:=Fa ⟨x.u,s⟩) U c,List.take_of_length_le (by omega)];have e:Fa ⟨x.u,s⟩= .bool x.u::Zw s:=by unfold Fa;rw[Bj b]
  rw[e]
  have f:(frC.cells cl)[j*65]? =some (.bool x.u):=by
    have :=congrArg (λq=>q[0]?) d;simp only[List.getElem?_take,List.getElem?_drop]at this;exact this
  have a:(Zw s).length=64:=by rw[TP,b]
  unfold X6;show _=(frC.cells cl).take (j*65)++(.bool x.u::Zw s)++(frC.cells cl).drop (j*65+(Value.bool x.u::Zw s).length);rw[List.length_cons,a,show 0+j*65+1=j*65+1 by omega,List.take_add_one,f];simp [List.append_assoc]
theorem Po {k:Nat} {y:FrD}:(cl.set k y).map Tk=(cl.map Tk).set k (Tk y):=List.map_set
theorem BO {F:Th} (s:Sat w [GF p fl,F]) (f:Int):
    Calls prog 186 #[ptrV p 0,intV f] w (Ret λv w'=>v=strV ((Ws fl f).getD [])/\Sat w' [GF p fl,F]):=by
 refine Qn func186 U ntmps186 U ?_;refine Qe<|Qa<|Qd U U<|Qf<|Qc<|Qe<|Qe<|Qa<|Qb U U<|Qb U U<|Qw Mh U (GE (s.sp [0] U) f) U ?_;rintro _ z ⟨rfl,j⟩;replace j:=j.jn U U;refine QX U U<|Qf<|Qc<|QR U (λo=> ?_) (λo=> ?_)
 ·refine Qe<|Qa<|Qd U U<|Qf<|Qc<|Qu<|Qq<|QJ (.inr U) U U ?_;exact⟨_,rfl,by rw[show Ws fl f=none from by cases A:Ws fl f with | none=>rfl | some b=>simp_all];rfl,j.pick [0,1] U⟩
 obtain⟨cb,g⟩:=Option.isSome_iff_exists.1 (show(Ws fl f).isSome=true by simpa using o);refine Qt<|Qc<|Qe ?_;obtain⟨fa,fc,cl,e,k,a⟩:=UK (j.pick [0,1] rfl);have t:=VW fl;have h:=congrArg List.length e;rw[List.length_map]at h;obtain⟨y,l⟩:=Hg g;have d:=l;rw[e,List.getElem?_map]at d;obtain⟨x,r,c⟩:=Option.map_eq_some_iff.1 d;have i:x.u=true/\PW x.b=cb:=by unfold Tk at c;split at c;(rename_i q;cases c;exact⟨q,rfl⟩);cases c
 have m:=(Za r).1;obtain⟨ob,oc9,n,_⟩:=a.own_at 1 rfl (by omega);cases n;refine Qa<|Qb U U<|Qj U U<|Qg U YQ U<|Qo U V7 (a.cell 0 U U) U<|Qb U U<|Xt f.toNat U U (by omega) m Kt U ?_;refine Qg U GJ U<|Dh underlying186 U U VH U<|Xp U (ev_strR 1 a cb U U U underlying123 underlying5 underlying9 (by rw[qd8 r,i.2]) (by rw[<-i.2,Bk])) ?_;refine Qd U U<|Qf<|Qc<|Qh [4] U<|Qu<|QJ (.inr U) U U ?_;exact⟨_,rfl,by rw[g];rfl,Yw e k (a.pick [0,1,2] U)⟩
def Km (fl:List (Option Bs)) (f:Int) (b:Bs):List (Option Bs):= match Ws fl f with | some _=>fl.set f.toNat (some b) | none=>fl
theorem Tj {f:Int} {c:Bs} (h:Ws fl f=some c):Km fl f b=fl.set f.toNat (some b):=by unfold Km;rw[h]
theorem LC {f:Int} (h:Ws fl f=none):Km fl f b=fl:=by unfold Km;rw[h]
theorem UJ {F:Th} (H:Sat w [GF p fl,F]) (f:Int) (s:Bs) (r:s.length=64):
    Calls prog 194 #[ptrV p 0,intV f,strV s] w (Ret λv w'=> ∃e,v=intV e/\Sat w' [GF p (Km fl f s),F]):=by
 refine Qn func194 U ntmps194 U ?_;refine Qe<|Qa<|Qd U U<|Qf<|Qc<|Qe<|Qe<|Qa<|Qb U U<|Qb U U<|Qw Mh U (GE (H.sp [0] U) f) U ?_;rintro _ K ⟨rfl,o⟩;replace o:=o.jn U U;refine QX U U<|Qf<|Qc<|QR U (λE=> ?_) (λE=> ?_)
 ·refine Qe<|Qa<|Qd U U<|Qf<|Qc<|Qu<|Qq<|QJ (.inr U) U U ?_;exact⟨_,rfl,_,rfl,by rw[LC (by cases L:Ws fl f with | none=>rfl | some b=>simp_all)];exact o.pick [0,1] U⟩
 obtain⟨cb,k⟩:=Option.isSome_iff_exists.1 (show(Ws fl f).isSome=true by simpa using E);refine Qt<|Qc<|Qe ?_;obtain⟨fa,fc,cl,h,t,a⟩:=UK (o.pick [0,1] rfl);have I:=VW fl;have m:=congrArg List.length h;rw[List.length_map]at m;obtain⟨J,n⟩:=Hg k;have d:=n;rw[h,List.getElem?_map]at d;obtain⟨x,y,c⟩:=Option.map_eq_some_iff.1 d;have z:x.u=true/\PW x.b=cb:=by unfold Tk at c;split at c;(rename_i q;cases c;exact⟨q,rfl⟩);cases c
 have i:=(Za y).1;obtain⟨ob,oc9,A,_⟩:=a.own_at 1 rfl (by omega);cases A;refine Qa<|Qb U U<|Qj U U<|Qg U YQ U<|Qo U V7 (a.cell 0 U U) U<|Qb U U<|Xt f.toNat U U (by omega) i Kt U ?_;refine Qg U GJ U<|Dh underlying186 U U VH U<|Qb U U ?_;refine qax 1 a U U U U underlying123 VH (by have :=LB y;omega) (fr_copy y r) U ?_;intro M B;dsimp only[List.set]at B;clear a;refine Qd U U<|Qf<|Qc<|Qh [1,0,6,7] U<|Qe<|Qa<|Qb U U<|Qj U U<|Qg U YQ U<|Qo U V7 (B.cell 0 U U) U<|Qb U U<|Xt f.toNat U U (by omega) i Kt U ?_;refine Qg U GJ U<|Qb U U ?_;refine Mp underlying186 U U U (by rw[r];rfl) VH U ?_;refine CB 1 B U U U underlying123 zr_5 U (by have :=LB (cl:=cl.set f.toNat ⟨x.u,s⟩) (j:=f.toNat) (x:=⟨x.u,s⟩) (by rw[List.getElem?_set_self i]);simp only[Nat.zero_mul];omega) (xs':=frC.cells (cl.set f.toNat ⟨x.u,s⟩)) (by simp [X6]) U ?_;intro N g;dsimp only[List.set]at g;have G:=Sat.row_cast (C:=frC) (l:=cl.set f.toNat ⟨x.u,s⟩) (g.pull 1 U) (by rw[List.length_set]) U U;dsimp only[List.eraseIdx]at G;refine Qf<|Qc<|Qh [6] U<|Qe<|Qa<|Qd U U<|Qf<|Qc<|Qu<|QJ (.inr U) U U ?_;have D:fl.set f.toNat (some s)=(cl.set f.toNat ⟨x.u,s⟩).map Tk:=by rw[Po,h];congr 1;unfold Tk;rw[if_pos z.1,Bj r]
 exact⟨_,rfl,_,rfl,by rw[Tj k];exact Yw D (by rw[List.length_set];exact t) (by rw[R9 n];exact G.pick [1,0,2] U)⟩
theorem frE_set {at_:Nat} {b:UInt8} (h:at_<64):(Fa x).set (1+at_) (XV b)=Fa ⟨x.u,(PW x.b).set at_ b⟩:=by
  unfold Fa;rw[Nat.add_comm 1 at_,List.set_cons_succ];congr 1;dsimp only;rw[Bj (b:=(PW x.b).set at_ b) (by rw[List.length_set,Bk])];simp [Zw,List.map_set,XV]
theorem fru_sp {F:Th} (c:Sat w [F]) (x:FrD):
    Calls prog 235 #[.agg (Fa x).toArray] w (Ret λv w'=>v= .bool (!x.u)/\Sat w' [F]):=by
 refine Qn func235 U ntmps235 U ?_;refine Qe<|Qa<|XL c U U U ?_;intro bp wbp b;have a:Sat wbp [Q6 bp (Fa x),F]:=b;exact Qd U U (Qf (Qc (Qe (Qa (Qg U Tm U (Qo U VM (a.cell 0 U U) U (QX U U (Qd U U (Qf (Qc (Qu (QJ (.inr U) U U (⟨_,U,U,a.pick [1] U⟩)))))))))))))
theorem frix_sp {F:Th} (p:Sat w [F]) {lv:Value} {l:List FrD} (h:Ent F (RdL frC lv l)):
    Calls prog 234 #[lv,.func (.func 235) #[] #[]] w (Ret λv w'=>(v=intV (-1)/\(∀y∈l,y.u=true)/\Sat w' [F])\/(∃(k:Nat) (x:FrD),v=intV (k:Int)/\l[k]? =some x/\x.u=false/\Sat w' [F])):=by
 obtain⟨ao,cap,rfl,q⟩:=(h.sat p 0 rfl).shape;refine Qn func234 U ntmps234 U ?_;refine Qe<|Qa<|Qd U U<|Qf<|Qc<|Qe<|Qe<|Qa<|Qb U U<|Xl underlying176 U U<|Qb U U<|Qf<|Qc<|Qx ?_;refine QU (λK0 E0 W0=> ∃(i:Nat),K0=l.length -i/\E0=[(0,.slice ao l.length cap),(1,.func (.func 235) #[] #[]),(7,intV (l.length:Int)),(8,intV (i:Int))]/\Sat W0 [F]/\(i<=l.length)/\(∀j y,j<i->l[j]? =some y->y.u=true)) (L0:=[(0,_),(1,_),(7,_),(8,_)]) (l.length -0) (Rs U U U U) ⟨0,rfl,rfl,p,by omega,by omega⟩ ?_;rintro _ _ t ⟨i,rfl,rfl,f,hi,c⟩;refine Qe<|Qa<|Xa U U U<|Qf<|Qc<|Qe<|Qs U (λr=> ?_) (λr=> ?_)
 ·obtain⟨x,d⟩: ∃x,l[i]? =some x:=⟨_,XQ (by omega)⟩;obtain⟨b,off,rfl,_⟩:=(h.sat f 0 rfl).get d;refine Qt<|Qc<|Qe<|Qx<|Qe<|Qa<|Qb U U<|Qd U U<|Qf<|Qc<|Qe<|Qa<|Qb U U<|Qb U U<|Qb U U<|Xt i U U (by first | rfl | omega) ((Za d).1) Kt U ?_
  refine Ha U ag_252 (by rw[EZ];exact qbh) (vs:=Fa x) ((h.sat f 0 U).at_ d) U ?_;refine VU U cal_235 U (fru_sp (f.sp [] U) x) U ?_;rintro e z ⟨_,rfl,rfl,g⟩;refine⟨_,rfl, ?_⟩;replace g:=g.jn U U;refine Qf<|Qc<|Qh [8,7,1,0,5,16] U<|QR U (λm=> ?_) (λm=> ?_)
  ·have a:x.u=false:=by simpa using m
   exact Qe (Qa (Qb U U (Qd U U (Qf (Qc (Qu (Q1 (Qq (Qq (Q1 (Qq (QJ (.inr U) U U (⟨_,U,.inr ⟨i,x,U,d,a,g.pick [0] U⟩⟩)))))))))))))
  have a:x.u=true:=by simpa using m
  refine Qt<|Qm<|Qc<|Qa<|QE U U (by omega) (by omega) U ?_;refine Qb U U<|Qf ?_;exact Q5 (L1:=[(0,_),(1,_),(7,_),(8,intV ((i+1:Nat):Int))]) (Rs U U U U) (k1:=l.length -(i+1)) (by omega) ⟨i+1,rfl,rfl,g.pick [0] U,by omega,λj y n o=>by by_cases e:j=i;(subst e;rw[d]at o;cases o;exact a);exact c j y (by omega) o⟩
 refine QQ<|Qp<|Qp<|Qy<|Qc<|Qe<|Qa<|Qd U U<|Qf<|Qc<|Qu<|QJ (.inr U) U U ?_;exact⟨_,rfl,.inl ⟨rfl,λy s=>by obtain⟨j,n⟩:=List.mem_iff_getElem?.1 s;exact c j y (by have :=(Za n).1;omega) n,f.pick [0] rfl⟩⟩
theorem Ti {F:Th} (A:Sat w [GF p fl,F]):
    Calls prog 220 #[ptrV p 0] w (Ret λv w'=>(v= .tuple #[intV 0,.bool false]/\(∀o∈fl,o≠none)/\Sat w' [GF p fl,F])\/(∃k:Nat,fl[k]? =some none/\v= .tuple #[intV (k:Int),.bool true]/\Sat w' [GF p (fl.set k (some (PW []))),F])):=by
 refine Qn func220 U ntmps220 U ?_;refine Qe<|Qa<|Qd U U<|Qd U U<|Qf<|Qc<|Qe ?_;obtain⟨fa,fc,cl,a,d,b⟩:=UK (A.pick [0,1] rfl);have B:=VW fl;have f:=congrArg List.length a;rw[List.length_map]at f;refine Qa<|Qb U U<|Qj U U<|Qg U YQ U<|Qo U V7 (b.cell 0 U U) U<|XF cal_234 U (frix_sp (b.sp [] U) (Ent.starL (Ja (C:=frC) (l:=cl) (by omega)) 1 U)) U ?_;rintro e E ⟨_,rfl,(⟨rfl,j,c⟩ | ⟨k,x,rfl,m,n,c⟩)⟩
 ·refine⟨_,U, ?_⟩;replace c:=c.jn U U;clear b;refine Qd U U<|Qf<|Qc<|Qe<|Qe<|Qa<|Qb U U<|Xa U U U<|Qf<|Qc<|Qh [0,2,3,4,11] U<|Qs U (λs=> ?_) (λs=> ?_)
  ·refine Qe<|Qa<|Qd U U<|Qd U U<|Qf<|Qc<|Qu<|Qq<|Jt (.inr U) U U U ?_;exact⟨_,rfl,.inl ⟨rfl,λo t=>by rw[a]at t;obtain⟨y,D,rfl⟩:=List.mem_map.1 t;unfold Tk;rw[if_pos (j y D)];simp,Yw a d (c.pick [0,1,2] rfl)⟩⟩
  exact absurd s (by decide)
 refine⟨_,U, ?_⟩;replace c:=c.jn U U;clear b;refine Qd U U<|Qf<|Qc<|Qe<|Qe<|Qa<|Qb U U<|Xa U U U<|Qf<|Qc<|Qh [0,2,3,4,11] U<|Qs U (λu=> ?_) (λu=> ?_)
 ·exact absurd u (by omega)
 refine Qt<|Qc<|Qe<|Qa<|Qb U U<|Qj U U<|Qg U YQ U<|Qo U V7 (c.cell 0 U U) U<|Qb U U<|Zj U qce asz_252 zr_252 U U<|Xj frC 1 k c U U U (by rfl) m Kt U ?_;intro bx4 capx4 g;refine Wp 1 k ⟨true,[]⟩ c U g U U qbh (by rfl) ((Za m).1) ?_;intro G q;dsimp only[List.set]at q;refine Qf<|Qc<|Qh [0,2,3,4] U<|Qe<|Qa<|Qb U U<|Qj U U<|Qg U GL U<|Qo U QL (q.cell 0 U U) U<|QE U U (by omega) (by omega) U ?_;refine Qj U U<|Qg U GL U ?_
 first | (refine QK q U U YD (by rfl) (i:=0) U (Xk U) ?_)
 intro H z;dsimp only[List.set]at z;refine Qf<|Qc<|Qh [2,3,4] U<|Qe<|Qa<|Qb U U<|Qd U U<|Qd U U<|Qf<|Qc<|Qu<|Jt (.inr U) U U U ?_;have h:fl[k]? =some none:=by rw[a,List.getElem?_map,m,Option.map_some];unfold Tk;rw[if_neg (by rw[n];decide)]
 have r:fl.set k (some (PW []))=(cl.set k ⟨true,[]⟩).map Tk:=by rw[Po,a];rfl
 exact⟨_,rfl,.inr ⟨k,h,rfl,Yw r (by rw[List.length_set];exact d) (by rw[CG h,Int.natCast_add];exact z.pick [0,1,2] U)⟩⟩
def RX (fl:List (Option Bs)) (f:Int):List (Option Bs):= match Ws fl f with | some _=>fl.set f.toNat none | none=>fl
theorem Iw {F:Th} (A:Sat w [GF p fl,F]) (f:Int):
    Calls prog 228 #[ptrV p 0,intV f] w (Ret λv w'=> ∃e,v=intV e/\Sat w' [GF p (RX fl f),F]):=by
 refine Qn func228 U ntmps228 U ?_;refine Qe<|Qa<|Qd U U<|Qf<|Qc<|Qe<|Qe<|Qa<|Qb U U<|Qb U U<|Qw Mh U (GE (A.sp [0] U) f) U ?_;rintro _ G ⟨rfl,l⟩;replace l:=l.jn U U;refine QX U U<|Qf<|Qc<|QR U (λt=> ?_) (λt=> ?_)
 ·refine Qe<|Qa<|Qd U U<|Qf<|Qc<|Qu<|Qq<|QJ (.inr U) U U ?_;exact⟨_,rfl,_,rfl,by rw[show RX fl f=fl by unfold RX;rw[show Ws fl f=none from by cases H:Ws fl f with | none=>rfl | some b=>simp_all]];exact l.pick [0,1] U⟩
 obtain⟨cb,h⟩:=Option.isSome_iff_exists.1 (show(Ws fl f).isSome=true by simpa using t);refine Qt<|Qc<|Qe ?_;obtain⟨fa,fc,cl,g,m,a⟩:=UK (l.pick [0,1] rfl);have B:=VW fl;have j:=congrArg List.length g;rw[List.length_map]at j;obtain⟨C,k⟩:=Hg h;have d:=k;rw[g,List.getElem?_map]at d;obtain⟨x,y,c⟩:=Option.map_eq_some_iff.1 d;have D:x.u=true/\PW x.b=cb:=by unfold Tk at c;split at c;(rename_i q;cases c;exact⟨q,rfl⟩);cases c
 have n:=(Za y).1;obtain⟨ob,oc9,o,_⟩:=a.own_at 1 rfl (by omega);cases o;refine Qa<|Qb U U<|Qj U U<|Qg U YQ U<|Qo U V7 (a.cell 0 U U) U<|Qb U U<|Xt f.toNat U U (by omega) n Kt U ?_;refine Qg U Tm U ?_;refine JZ 1 f.toNat 0 ⟨false,x.b⟩ a U U U (by show 0+f.toNat*65+0=f.toNat*65+0;omega) U Cj y U (by decide) U U ?_;intro I r;dsimp only[List.set]at r;clear a;refine Qf<|Qc<|Qh [0,4] U<|Qe<|Qa<|Qb U U<|Qj U U<|Qg U GL U<|Qo U QL (r.cell 0 U U) U<|H2 U U (by omega) (by omega) U ?_;refine Qj U U<|Qg U GL U ?_
 first | (refine QK r U U YD (by rfl) (i:=0) U (Xk U) ?_)
 intro J z;dsimp only[List.set]at z;refine Qf<|Qc<|Qe<|Qa<|Qd U U<|Qf<|Qc<|Qu<|QJ (.inr U) U U ?_;have s:fl.set f.toNat none=(cl.set f.toNat ⟨false,x.b⟩).map Tk:=by rw[Po,g];rfl
 have E:=My k;exact⟨_,rfl,_,rfl,by rw[show RX fl f=fl.set f.toNat none by unfold RX;rw[h]];exact Yw s (by rw[List.length_set];exact m) (by rw[show((Y5 (fl.set f.toNat none):Nat):Int)=(Y5 fl:Nat) -1 by omega];exact z.pick [0,1,2] U)⟩
theorem SY {F:Th} (z:Sat w [GF p fl,F]) (f at_:Int) (b:UInt8):
    Calls prog 137 #[ptrV p 0,intV f,intV at_,XV b] w (Ret λv w'=>(((Ws fl f).isSome=false\/at_<0\/64<=at_)/\Sat w' [GF p fl,F])\/(v=intV 0/\ ∃cb,Ws fl f=some cb/\(0<=at_/\at_<64)/\Sat w' [GF p (fl.set f.toNat (some (cb.set at_.toNat b))),F])):=by
 refine Qn func137 U ntmps137 U ?_;refine Qe<|Qa<|Qd U U<|Qf<|Qc<|Qe<|Qx<|Qe<|Qa<|Qb U U<|Qb U U<|Qw Mh U (GE (z.sp [0] U) f) U ?_;rintro _ D ⟨rfl,h⟩;replace h:=h.jn U U;refine QX U U<|Qd U U<|Qf<|Qc<|QR U (λs=> ?_) (λs=> ?_)
 ·refine Qe<|Qa<|Qd U U<|Qf<|Qc<|Qu<|Q1<|Qq<|QJ (.inr U) U U ?_;exact⟨_,rfl,by rw[show Ws fl f=none from by cases E:Ws fl f with | none=>rfl | some b=>simp_all];exact .inl ⟨by simp,h.pick [0,1] U⟩⟩
 obtain⟨cb,i⟩:=Option.isSome_iff_exists.1 (show(Ws fl f).isSome=true by simpa using s);refine Qe<|Qa<|Qb U U<|Xa U U U<|Qb U U<|QZ 17 U (λe=> ?_) (λe=> ?_)
 ·refine Qi U U (det e) U<|Qi U U (det e) U<|QF U (det e) U U<|Qd U U<|Qf<|Qc<|Qh [3,2,1,0,8,14] U<|Xm U<|Qe<|Qa<|Qd U U<|Qf<|Qc<|Qu<|Q1<|Qq<|QJ (.inr U) U U ?_;exact⟨_,rfl,.inl ⟨by omega,h.pick [0,1] U⟩⟩
 refine Qk U U (QH e)<|Qb U U<|Qk U U (QH e)<|WU U U U<|Q9 U (QH e) U U<|Qd U U<|Qf<|Qc<|Qh [3,2,1,0,8,14] U<|Qs U (λA=> ?_) (λA=> ?_)
 ·refine Qe<|Qa<|Qd U U<|Qf<|Qc<|Qu<|Q1<|Qq<|QJ (.inr U) U U ?_;exact⟨_,rfl,.inl ⟨by omega,h.pick [0,1] U⟩⟩
 refine Qt<|Qm<|Qc<|Qe ?_;obtain⟨fa,fc,cl,g,m,a⟩:=UK (h.pick [0,1] rfl);have B:=VW fl;have j:=congrArg List.length g;rw[List.length_map]at j;obtain⟨C,k⟩:=Hg i;have d:=k;rw[g,List.getElem?_map]at d;obtain⟨x,t,c⟩:=Option.map_eq_some_iff.1 d;have l:x.u=true/\PW x.b=cb:=by unfold Tk at c;split at c;(rename_i q;cases c;exact⟨q,rfl⟩);cases c
 have n:=(Za t).1;obtain⟨ob,oc9,o,_⟩:=a.own_at 1 rfl (by omega);cases o;refine Qa<|Qb U U<|Qj U U<|Qg U YQ U<|Qo U V7 (a.cell 0 U U) U<|Qb U U<|Qb U U<|Qb U U<|Xt f.toNat U U (by omega) n Kt U ?_;refine Qg U GJ U<|U2 at_.toNat underlying186 U U (by omega) (by omega) VH U ?_;refine JZ 1 f.toNat (1+at_.toNat) (⟨x.u,(PW x.b).set at_.toNat b⟩:FrD) a U U U (by show 0+f.toNat*65+1+at_.toNat*1=f.toNat*65+(1+at_.toNat);omega) U VH t U (by show 1+at_.toNat<65;omega) (show(Fa x).set (1+at_.toNat) (XV b)=Fa ⟨x.u,(PW x.b).set at_.toNat b⟩ from frE_set (by omega)) U ?_;intro G y;dsimp only[List.set]at y;clear a;refine Qf<|Qc<|Qh [8] U<|Qe<|Qa<|Qd U U<|Qf<|Qc<|Qu<|QJ (.inr U) U U ?_;have r:fl.set f.toNat (some (cb.set at_.toNat b))=(cl.set f.toNat ⟨x.u,(PW x.b).set at_.toNat b⟩).map Tk:=by rw[Po,g];congr 1;unfold Tk;rw[if_pos l.1,Bj (by rw[List.length_set,Bk]),l.2]
 exact⟨_,rfl,.inr ⟨rfl,cb,i,by omega,Yw r (by rw[List.length_set];exact m) (by rw[R9 k];exact y.pick [0,1,2] U)⟩⟩
theorem La (m:Nat):Y5 (List.replicate m none)=0:=by unfold Y5;simp
theorem frow {Z:List Value} (a:Z=Fa ⟨false,[]⟩) (m:Nat):(List.replicate m Z).flatten=frC.cells (List.replicate m ⟨false,[]⟩):=by
  subst a
  induction m with
  | zero=>rfl
  | succ m ih=> rw[List.replicate_succ,List.flatten_cons,ih,List.replicate_succ];rfl
theorem qd6 {F:Th} (c:Sat w [F]) (n:Int):
    Calls prog 55 #[intV n] w (Ret λv w'=> ∃p,v=ptrV p 0/\Sat w' [GF p (List.replicate (min (max n 0) 4096).toNat none),F]):=by
 refine Qn func55 U ntmps55 U ?_;refine Qe<|Qa<|Qd U U<|Qf<|Qc<|Qe<|Qa<|Qb U U<|Jn U U U<|H3 U U U<|Ve c (min (max n 0) 4096).toNat U U (by omega) underlying176 ifo_252 U (by omega) (by omega) U ?_;intro db e a;have d:=a.row_cast (l:=List.replicate (min (max n 0) 4096).toNat ⟨false,[]⟩) (C:=frC) (by simp) U (frow U _);refine Zj U qcg asz_178 zr_178 U U<|XL d U U U ?_;intro bp wbp b;refine Qd U U<|Qf<|Qc<|Qu<|QJ (.inr U) U U ?_;exact⟨_,rfl,_,rfl,Yw (cl:=List.replicate (min (max n 0) 4096).toNat ⟨false,[]⟩) (by rw[List.map_replicate];rfl) (by rw[List.length_replicate];omega) (by rw[La];exact b.pick [0,1,2] U)⟩
end Go.Proofs.YtifaibmhinlcfaaGreatDoor
namespace Go.Proofs.YtifaibmhinlcfaaGreatDoor.M
open Go.RowKit Proofs.Tryz
variable {S:Nat×Nat} {ao:Option Addr} {bs:List UInt8} {cap dst o src t:Nat} {j:TypeInfo} {t2:TypeId} {ts:Array TypeId} {v z:Value} {x y:Operand}
def Yi (T b:Nat) (cs:List Value):Th where
  at_:= λw F=>(F= λk=>k=b)/\w.heap[b]? =some (.cells cs.toArray T (0,0))
  fr:= λa ⟨e,h⟩=>⟨e,by rw[a.blk _ (by rw[e])];exact h⟩
  lt:= λ{w F} ⟨e,h⟩ k c=>by
    rw[e]at c;subst c;rcases Nat.lt_or_ge k w.heap.size with g | g
    · exact g
    · rw[Array.getElem?_eq_none g]at h;cases h
def Rq (e:Nat) (v:Value) (bs:List UInt8):Th where
  at_:= λw F=>(F= λk=>v.ownBlock=some k)/\w.ownsRow 0 e 1 v bs.length (byC.cells bs)/\(bs=[]->v= .slice none 0 0)
  fr:= λ{w w' F} a ⟨b,⟨f,h⟩,i⟩=>⟨b,⟨f,by
    rcases h with h | ⟨g,cap,cur,c,j,l,m⟩
    · exact .inl h
    · exact .inr ⟨g,cap,cur,c,j,by rw[a.blk _ (by rw[b,c];rfl)];exact l,m⟩⟩,i⟩
  lt:= λ{w F} ⟨b,h,_⟩ k d=>by rw[b]at d;exact(h.lt k d).2
theorem MU {w:World} {e n:Nat} {xs:List Value} (h:w.ownsRow 0 e 1 v n xs): ∃foot,Own w v n 1 xs foot/\ ∀k,k∈foot↔v.ownBlock=some k:=by
  obtain⟨a,⟨rfl,rfl⟩ | ⟨g,cap,cur,rfl,_,c,d,_,f,i⟩⟩:=h
  · exact⟨[],⟨a,.inl ⟨rfl,rfl,rfl⟩⟩,by simp [Value.ownBlock]⟩
  · have b:xs++cur.toList.drop (n*1)=cur.toList:=by rw[<-i];exact List.take_append_drop _ _
    refine⟨[g],⟨a,.inr ⟨g,cap,cur.toList.drop (n*1),rfl,d,⟨e,0,0, ?_,.inl (Nat.le_refl _)⟩, ?_,rfl⟩⟩,by simp [Value.ownBlock,eq_comm]⟩
    · rw[b];exact c
    · rw[b];simpa using f
section
variable {P:Program} {n:Nat} {ops:Array Oper} {Q:Exit→Act→World→Prop} {rest:List Oper} {L:Env} {w:World} {d:Nat} {ty:TypeId} {pos:String} {aft:Array Edge} {As:List Th} {T e b:Nat} {cs:List Value}
theorem Sat.tblk (h:Sat w As) (i:Nat) (hi:As[i]? =some (Yi T b cs)):w.heap[b]? =some (.cells cs.toArray T (0,0)):=by
  obtain⟨F,_,h⟩:=h.get i hi;exact h
theorem Sat.tcell (h:Sat w As) (i:Nat) (hi:As[i]? =some (Yi T b cs)) (a:cs[o]? =some v):w.cell? ⟨b,o,none⟩=some v:=by
  rw[Lib.cell_of_heap (h.tblk i hi)];simpa using a
theorem Sat.tshape (h:Sat w As) (i:Nat) (hi:As[i]? =some (Yi T b cs)):w.shape? b=some (T,cs.length):=by
  simp [World.shape?,h.tblk i hi]
theorem Sat.buf (h:Sat w As) (i:Nat) (hi:As[i]? =some (Rq e v bs)):w.ownsRow 0 e 1 v bs.length (byC.cells bs)/\(bs=[]->v= .slice none 0 0):=by
  obtain⟨F,_,h⟩:=h.get i hi;exact h
theorem Sat.bufv (h:Sat w As) (i:Nat) (hi:As[i]? =some (Rq e v bs)): ∃ao cap,v= .slice ao bs.length cap/\v.oneCell'=true/\(ao=none/\bs=[]\/ ∃g,ao=some ⟨g,0,none⟩/\cap≠0/\bs≠[]):=by
  obtain⟨⟨_,⟨rfl,a⟩ | ⟨g,cap,cur,rfl,_,_,a,_⟩⟩,c⟩:=h.buf i hi
  · have :bs=[]:=List.eq_nil_of_length_eq_zero a;subst this;exact⟨none,0,U,U,.inl ⟨U,U⟩⟩
  · have b:bs≠[]:= λe=>by have :=c e;cases this
    have :0<bs.length:=List.length_pos_iff.2 b;exact⟨_,cap,rfl,rfl,.inr ⟨g,rfl,by omega,b⟩⟩
theorem B0 (f:Sat w As) (g:XE P t=some (some z)) (c:z.cells.toList=cs) (hd:Nat.blt d n=true) (e: ∀b w',Sat w' (Yi t b cs::As)->wl P n ops Q rest ((d,ptrV b 0)::L) w'):wl P n ops Q (⟨some d,.alloc t,ty,pos,aft,none⟩::rest) L w:=by
  subst c;refine XI U hd (R:= λv w'=>v=ptrV w.heap.size 0/\w'=w.alloc (.cells z.cells t)) (λa j=>⟨_,_,.inl ?_,rfl,rfl⟩) (λv w' ⟨h,i⟩=> ?_)
  · simp [execOp,Instr.alloc,Jq g,newVar,newRow]
  · subst h i;refine e _ _ (f.new ((Only.refl _ _).alloc _) (A:=Yi t w.heap.size z.cells.toList) (F':= λk=>k=w.heap.size) ⟨rfl, ?_⟩ (λk e=>by rw[e];exact Nat.le_refl _))
    simpa using heap_alloc_new w (.cells z.cells t)
theorem Bw {i:Nat} (d:Sat w As) (c:look L x=some (ptrV b o)) (q:look L y=some v) (r:ZQ P t=some 1) (j:v.oneCell'=true) (hi:As[i]? =some (Yi T b cs)) (s:o<cs.length)
    (f: ∀w',Sat w' (As.set i (Yi T b (cs.set o v)))->wl P n ops Q rest L w'):wl P n ops Q (⟨none,.store t x y,ty,pos,aft,none⟩::rest) L w:=by
  have l:=d.tblk i hi;have u:=d.tcell i hi (o:=o) (XQ s);have z:w.frozen? ⟨b,o,none⟩=false:=Lib.frozen_of_heap l o;have g:v.cells= #[v]:=by cases v<;>first | rfl | cases j
  refine XI U U (R:= λ_ w'=>w'=w.setCell ⟨b,o,none⟩ v) (λa m=>⟨undef,_,.inr ⟨?_,rfl⟩,rfl⟩) (λ_ w' e=> ?_)
  · have h:(store ⟨b,o,none⟩ v).run P w= .ok () (w.setCell ⟨b,o,none⟩ v):=by
      rw[run_store P w _ v _ j,u];simp [z]
    have A:(⟨b,o,none⟩:Addr).add 0=⟨b,o,none⟩:=by simp [Addr.add]
    simp [execOp,m.eval c,m.eval q,Instr.storeAt,Instr.sureAddr,storeVar,g,Zp r,storeCells,A,h]
  · subst e;refine f _ (d.step i hi λF ⟨p,_⟩=>⟨F,⟨p, ?_⟩,λk f=> .inl f,((Only.refl [b] w).setCell (.inl (by simp)) v).agree (λx c=> .inl (by simp only[List.mem_singleton]at c;subst c;rw[p]))⟩);simp [World.setCell,Array.getElem?_modify,l]
theorem Oy {t:TypeId} {s:Operand} {xv:Value} {l2:List UInt8} {bytes:Nat} (i:Nat) (hS:Sat w As) (hi:As[i]? =some (Rq e v bs)) (hs:look L s=some v) (hx:look L x=some xv) (hr:RdL byC xv l2 w) (h0:l2≠[]) (K:P.underlying t=some (.slice e)) (ht:t2=t)
    (B:(P.info? e).map (λi=>(i.zero,i.size,i.bytes))=some (some z,1,bytes)) (hz:z.cells.size=1) (hb:(bs.length+l2.length)*bytes<=140737488355328) (hm:bs.length+l2.length<=281474976710656) (hd:Nat.blt d n=true)
    (M: ∀v' w',Sat w' (As.set i (Rq e v' (bs++l2)))->wl P n ops Q rest ((d,v')::L) w'):wl P n ops Q (⟨some d,.call ⟨.builtin .append, #[s,x], #[t,t2]⟩,ty,pos,aft,none⟩::rest) L w:=by
  subst ht;obtain⟨m,a0⟩:=hS.buf i hi;obtain⟨foot,hO,f⟩:=MU m;obtain⟨ao,cap,rfl,D,b⟩:=hr;obtain⟨N,O⟩: ∃N,l2[0]? =some N:=⟨_,XQ (List.length_pos_iff.2 h0)⟩;obtain⟨S,off0,rfl,_⟩:=b 0 N O
  have p: ∀j u,(byC.cells l2)[j]? =some u->w.cell? ((⟨S,off0,none⟩:Addr).add j)=some u:=by
    intro j u r;rw[Wx];have hj:=(Za r).1;rw[byC.cells_len]at hj;have E:j<l2.length:=by simpa [byC]using hj
    obtain⟨g1,o1,G,hc⟩:=b j l2[j] (XQ E);cases G
    have h2:(byC.cells l2)[j]? =some (.int .u8 (l2[j].toNat:Int)):=by
      have :=RowC.cells_at (C:=byC) (l:=l2) (j:=j) (XQ E);have h3:=congrArg (λq=>q[0]?) this
      simpa [byC,List.getElem?_take,List.getElem?_drop]using h3
    rw[h2]at r;cases r;have :=hc 0 _ U
    simpa [byC]using this
  have H:RdL byC (.slice (some ⟨S,off0,none⟩) l2.length cap) l2 w:=⟨_,cap,rfl,D,b⟩;obtain⟨inf,T,V,W,X⟩:=info_parts B;refine XI U hd (R:= λv w'=>Sat w' (As.set i (Rq e v (bs++l2)))) (λa J=> ?_) (λv w' hR=>M v w' hR);obtain⟨v1,w1,I,foot',o1,o2,o3,_⟩:=Kv (P:=P) (o:=⟨some d,.call ⟨.builtin .append, #[s,x], #[t2,t2]⟩,ty,pos,aft,none⟩) (a:=a) t2 t2 s x rfl (J.eval hs) (J.eval hx) hO K K (by intro k M;cases M) B hz (by decide) (H.lenOf) (H.first) (byC.cells_len l2) (Jm (byC.cells_one l2)) hb (by omega)
  obtain⟨v2,w2,Y,y,_,_⟩:=run_append_own (P:=P) w 0 t2 ty e inf z 1 bytes K T V W X hz (by decide) v bs.length (byC.cells bs) m ⟨S,off0,none⟩ l2.length cap (byC.cells l2) (byC.cells_len l2) p (Jm (byC.cells_one l2)) (by unfold maxLen;omega) hb (Nat.zero_le _)
  have A:(execOp a.eval ⟨some d,.call ⟨.builtin .append, #[s,x], #[t2,t2]⟩,ty,pos,aft,none⟩).run P w= .ok (.value v2) w2:=by
    simp [execOp,J.eval hs,J.eval hx,resolve,invoke,builtin,Y]
  have Z:v1=v2/\w1=w2:=by
    rcases I with h | ⟨h,_⟩
    · rw[A]at h;cases h;exact⟨rfl,rfl⟩
    · rw[A]at h;cases h
  obtain⟨rfl,rfl⟩:=Z;refine⟨v1,w1,.inl A, ?_⟩
  have g: ∀k,v1.ownBlock=some k->k∈foot':=by
    intro k c;obtain⟨_,⟨G,_,_⟩ | ⟨b1,c1,s1,G,_,_,_,rfl⟩⟩:=o1
    · rw[G]at c;cases c
    · rw[G]at c;simp [Value.ownBlock]at c;simp [c]
  refine hS.step i hi λF ⟨eF,_⟩=>⟨λk=>v1.ownBlock=some k,⟨rfl, ?_,λq=>absurd (List.append_eq_nil_iff.1 q).2 h0⟩,λk c=> ?_,o2.agree λk c=> ?_⟩
  · rw[List.length_append,<-RowC.cells_app];exact y
  · rcases o3 k (g k c)with q | q
    · exact .inl (by rw[eF];exact(f k).1 q)
    · exact .inr q
  · exact .inl (by rw[eF];exact(f k).1 c)
theorem Gl {m:Nat} (c:look L x=some (.slice ao m cap)) (b:ao=none\/cap≠0) (hd:Nat.blt d n=true) (e:wl P n ops Q rest ((d,.pointer ao)::L) w):wl P n ops Q (⟨some d,.call ⟨.builtin .unsafeSliceData, #[x],ts⟩,ty,pos,aft,none⟩::rest) L w:=by
  refine XI rfl hd (R:= λv w'=>v= .pointer ao/\w'=w) (λa f=>⟨_,_,.inl ?_,rfl,rfl⟩) (by rintro _ _ ⟨rfl,rfl⟩;exact e)
  have g:(Builtin.unsafeSliceData_ ts ty #[.slice ao m cap]).run P w= .ok (.pointer ao) w:=by
    cases ao with
    | none=> exact Lib.run_unsafeSliceData_nil w ts ty m cap
    | some q=> exact Lib.run_unsafeSliceData_row w ts ty q m cap (by rcases b with b | b;cases b;exact b)
  simp [execOp,f.eval c,resolve,invoke,builtin,g]
theorem D3 {pt it:Nat} (i:Nat) (s:Sat w As) (hi:As[i]? =some (Rq e (.slice ao bs.length cap) bs)) (M:look L x=some (.pointer ao)) (N:look L y=some (.int .i64 (bs.length:Int))) (O:P.underlying pt=some (.pointer e)) (S:P.cellsOf e=1) (f:bs.length<=9223372036854775807) (hd:Nat.blt d n=true)
    (T: ∀w',Sat w' (As.eraseIdx i)->wl P n ops Q rest ((d,strV bs)::L) w'):wl P n ops Q (⟨some d,.call ⟨.builtin .unsafeString, #[x,y], #[pt,it]⟩,ty,pos,aft,none⟩::rest) L w:=by
  obtain⟨h,m⟩:=s.buf i hi
  have V: ∃w',(Builtin.unsafeString_ #[pt,it] ty #[.pointer ao,.int .i64 bs.length]).run P w= .ok (strV bs) w'/\Sat w' (As.eraseIdx i):=by
    by_cases t:bs=[]
    · subst t;have b:=m U;simp only[Value.slice.injEq,List.length_nil,true_and]at b;obtain⟨rfl,_⟩:=b;exact⟨w,Lib.run_unsafeString_none w pt it ty none,s.drop i hi⟩
    · obtain⟨_,⟨b,r⟩ | ⟨g,cap',cur,b,_,o,r,_,I,z⟩⟩:=h
      · exact absurd (List.eq_nil_of_length_eq_zero r) t
      · simp only[Value.slice.injEq,true_and]at b;obtain⟨rfl,rfl⟩:=b;refine⟨w.freeze ⟨g,0,none⟩ bs.length,Lib.run_unsafeString_row w pt it ty e O S g cur.size (by simp [World.shape?,o]) bs t (by omega) f ?_, ?_⟩
        · intro j c J;rw[Wx];simp only[Nat.zero_add];rw[Lib.cell_of_heap o];have W:=(Za J).1
          have :(byC.cells bs)[j]? =some (.int .u8 (c.toNat:Int)):=by
            have :=RowC.cells_at (C:=byC) (l:=bs) (j:=j) J;have z:=congrArg (λq=>q[0]?) this
            simpa [byC,List.getElem?_take,List.getElem?_drop]using z
          rw[<-z,List.getElem?_take]at this;split at this
          · simpa using this
          · cases this
        · have A:=s.pull i hi;obtain⟨F,F1,F2,rfl,dj,⟨X,_⟩,D⟩:=A;refine⟨F2,(starL _).fr (F:=F2) ?_ D⟩;have E:=Lib.below_freeze (B:=0) (Below.refl 0 w) (p:=⟨g,0,none⟩) (Nat.zero_le _) bs.length;refine⟨E.os,E.tape,E.output,λk G=> ?_⟩
          have H:k≠g:=by
            rintro rfl;exact dj k (by rw[X];rfl) G
          unfold World.freeze;split
          · rfl
          · simp only[Array.getElem?_modify];rw[if_neg (λq=>H q.symm)]
  obtain⟨w',r,I⟩:=V;refine XI rfl hd (R:= λv u=>v=strV bs/\u=w') (λa K=>⟨_,_,.inl ?_,rfl,rfl⟩) (by rintro _ _ ⟨rfl,rfl⟩;exact T _ I);simp [execOp,K.eval M,K.eval N,resolve,invoke,builtin,r]
theorem Sd (f:look L x=some (ptrV b o)) (g:P.underlying src=some (.pointer t)) (a:P.underlying dst=some .unsafePointer) (h:P.info? t=some j) (i:j.size≠0) (c:w.shape? b=some S) (k:o<S.2) (hd:Nat.blt d n=true) (l:wl P n ops Q rest ((d,ptrV b o)::L) w):wl P n ops Q (⟨some d,.convert src dst x,ty,pos,aft,none⟩::rest) L w:=
  Xp hd (λρ m=>by
    have :=Lib.run_to_unsafe (P:=P) (w:=w) (e:=S.1) (cells:=S.2) (⟨b,o,none⟩:Addr) g a h i c k;simp [execOp,m _ _ f,ptrV,this]) l
theorem Cf {u:Nat} (f:look L x=some (ptrV b o)) (g:P.underlying src=some .unsafePointer) (a:P.underlying dst=some (.pointer u)) (h:P.info? u=some j) (c:w.shape? b=some S) (i:liesAt P P.depth S.1 (S.2/ P.cellsOf S.1) o u 1=true) (hd:Nat.blt d n=true) (k:wl P n ops Q rest ((d,ptrV b o)::L) w):wl P n ops Q (⟨some d,.convert src dst x,ty,pos,aft,none⟩::rest) L w:=
  Xp hd (λρ l=>by
    have :=Lib.run_from_unsafe (P:=P) (w:=w) (e:=S.1) (cells:=S.2) (⟨b,o,none⟩:Addr) g a h c i;simp [execOp,l _ _ f,ptrV,this]) k
theorem Ce {t u:TypeId} {q:Addr} (b:P.underlying t=some (.pointer u)) (c:P.info? u=some j) (e:look L x=some (.pointer (some q))) (f:look L y=some (.pointer (some q))) (hd:Nat.blt d n=true) (g:wl P n ops Q rest ((d,.bool false)::L) w):wl P n ops Q (⟨some d,.binOp .neq t x y t2,ty,pos,aft,none⟩::rest) L w:=
  Xp hd (λρ a=>by
    have h:(Op.equal t (.pointer (some q)) (.pointer (some q))).run P w= .ok true w:=by
      unfold Op.equal Op.maxDepth Op.equalIn;simp [run_underlying b,sizeOf,typeInfo,c,run_sameAddr_same]
    simp [execOp,a _ _ e,a _ _ f,eqGuard,binOp,h]) g
theorem FT {f : Nat} {fn : Func} (hf : P.funcs[f]? = some fn) (hname : (fn.name == "runtime.NumGoroutine") = false) (hb : fn.body.isNone = true) (hn : Extern.findNext fn = none) (he : Extern.find fn = some Extern.AbiNoEscape.same)
    (hx:look L x=some v) (hd:Nat.blt d n=true) (hk:wl P n ops Q rest ((d,v)::L) w):wl P n ops Q (⟨some d,.call ⟨.value (.func f), #[x],ts⟩,ty,pos,aft,none⟩::rest) L w:= by
  refine XI rfl hd (R:= fun u w'=>u=v∧w'=w) (fun a ha=>⟨_,_,.inl ?_,rfl,rfl⟩) (by rintro _ _ ⟨rfl,rfl⟩; exact hk)
  have hr:(Extern.AbiNoEscape.same #[v]).run P w= .ok v w:=rfl
  have hc:=run_callFunc_extern hf hname hb hn he #[v] w
  rw[hr]at hc
  simp only[execOp,resolve,Act.eval,Deferred.ofValue,invoke]
  have hxe:=ha.eval hx
  simp
  rw[hxe,hc];rfl
end
end Go.Proofs.YtifaibmhinlcfaaGreatDoor.M
namespace Go.Proofs
open Proofs.Tryz
open Go.Shelf
def Tryz.lays106_ren:Go.Shelf.Ren:=⟨fun | 106=>148 | 213=>200 | 265=>226 | n=>n,fun | 9=>9 | 3=>3 | n=>n,fun | n=>n⟩
theorem Tryz.lays106:Go.Proofs.Lays.n106 prog Tryz.lays106_ren:={
  mixed:=by kernel_rfl
  f106:=func148.trans (congrArg some (by kernel_rfl))
  f213:=func200.trans (congrArg some (by kernel_rfl))
  f265:=func226.trans (congrArg some (by kernel_rfl))
  t3:=underlying3
  a3:=Tryz.isAgg3
  z3:=Tryz.sizeOf3
  v3:=Tryz.zeroValue3
  t9:=underlying9
  a9:=Tryz.isAgg9
  z9:=Tryz.sizeOf9
  v9:=Tryz.zeroValue9}
open Go.RowKit in
theorem Tryz.strings_Compare (a b:ByteArray) (w:World):
    Calls prog 148 #[.string a,.string b] w λe w'=>e= .returned (.int .i64 (Lib.compareBytes a.data.toList b.data.toList))/\w'=w:=Any.strings_Compare Tryz.lays106 a b w
def Tryz.lays122_ren:Go.Shelf.Ren:=⟨fun | 122=>149 | 215=>201 | n=>n,fun | 3=>3 | 4=>4 | n=>n,fun | n=>n⟩
theorem Tryz.lays122:Go.Proofs.Lays.n122 prog Tryz.lays122_ren:={
  mixed:=by kernel_rfl
  f122:=func149.trans (congrArg some (by kernel_rfl))
  f215:=func201.trans (congrArg some (by kernel_rfl))
  t3:=underlying3
  a3:=Tryz.isAgg3
  z3:=Tryz.sizeOf3
  v3:=Tryz.zeroValue3
  t4:=underlying4
  a4:=Tryz.isAgg4
  z4:=Tryz.sizeOf4
  v4:=Tryz.zeroValue4}
open Go.RowKit in
theorem Tryz.cmp_Compare_int (x y:Int) (w:World):
    Calls prog 149 #[.int .i64 x,.int .i64 y] w λe w'=>e= .returned (.int .i64 (Lib.compareInt x y))/\w'=w:=Any.cmp_Compare_int Tryz.lays122 x y w
def Tryz.laysM316_ren:Go.Shelf.Ren:=⟨fun | 316=>124 | n=>n,fun | 9=>9 | 3=>3 | 4=>4 | 37=>123 | 0=>0 | 127=>196 | 5=>5 | n=>n,fun | n=>n⟩
theorem Tryz.laysM316:Go.Proofs.LaysM.n316 prog Tryz.laysM316_ren:={
  mixed:=by kernel_rfl
  f316:=func124.trans (congrArg some (by kernel_rfl))
  t0:=underlying0
  a0:=Tryz.isAgg0
  z0:=Tryz.sizeOf0
  v0:=Tryz.zeroValue0
  t3:=underlying3
  a3:=Tryz.isAgg3
  z3:=Tryz.sizeOf3
  v3:=Tryz.zeroValue3
  t4:=underlying4
  a4:=Tryz.isAgg4
  z4:=Tryz.sizeOf4
  v4:=Tryz.zeroValue4
  t9:=underlying9
  a9:=Tryz.isAgg9
  z9:=Tryz.sizeOf9
  v9:=Tryz.zeroValue9
  t37:=underlying123
  a37:=Tryz.isAgg123
  z37:=Tryz.sizeOf123
  v37:=Tryz.zeroValue123
  t127:=underlying196
  a127:=Tryz.isAgg196
  z127:=Tryz.sizeOf196
  v127:=Tryz.zeroValue196
  t5:=underlying5
  a5:=Tryz.isAgg5
  z5:=Tryz.sizeOf5
  v5:=Tryz.zeroValue5
  i0:=by kernel_rfl
  i3:=by kernel_rfl
  i4:=by kernel_rfl
  i5:=by kernel_rfl
  i9:=by kernel_rfl
  i37:=by kernel_rfl
  i127:=by kernel_rfl}
open Go.RowKit in
theorem Tryz.stringslite_Clone (s:ByteArray) (w:World) (a:s.size<=281474976710656):
    Calls prog 124 #[.string s] w λe w'=>e= .returned (.string s)/\Below w.heap.size w w':=Any.stringslite_Clone Tryz.laysM316 s w a
def Tryz.lays189_ren:Go.Shelf.Ren:=⟨fun | 189=>77 | 125=>122 | 257=>121 | 128=>168 | 129=>169 | 294=>159 | 295=>160 | 296=>161 | 297=>162 | 298=>163 | 299=>164 | 216=>165 | 300=>166 | 301=>167 | 328=>207 | 329=>208 | 330=>209 | 331=>210 | 332=>211 | 215=>201 | 343=>230 | n=>n,fun | 28=>24 | 3=>3 | 46=>194 | 0=>0 | 51=>234 | 53=>152 | 4=>4 | 183=>227 | 182=>226 | 131=>172 | 5=>5 | 9=>9 | 218=>259 | 222=>221 | 228=>271 | 229=>272 | n=>n,fun | n=>n⟩
theorem Tryz.lays189:Go.Proofs.Lays.n189 prog Tryz.lays189_ren:={
  mixed:=by kernel_rfl
  f125:=func122.trans (congrArg some (by kernel_rfl))
  f128:=func168.trans (congrArg some (by kernel_rfl))
  f129:=func169.trans (congrArg some (by kernel_rfl))
  f189:=func77.trans (congrArg some (by kernel_rfl))
  f215:=func201.trans (congrArg some (by kernel_rfl))
  f216:=func165.trans (congrArg some (by kernel_rfl))
  f257:=func121.trans (congrArg some (by kernel_rfl))
  f294:=func159.trans (congrArg some (by kernel_rfl))
  f295:=func160.trans (congrArg some (by kernel_rfl))
  f296:=func161.trans (congrArg some (by kernel_rfl))
  f297:=func162.trans (congrArg some (by kernel_rfl))
  f298:=func163.trans (congrArg some (by kernel_rfl))
  f299:=func164.trans (congrArg some (by kernel_rfl))
  f300:=func166.trans (congrArg some (by kernel_rfl))
  f301:=func167.trans (congrArg some (by kernel_rfl))
  f328:=func207.trans (congrArg some (by kernel_rfl))
  f329:=func208.trans (congrArg some (by kernel_rfl))
  f330:=func209.trans (congrArg some (by kernel_rfl))
  f331:=func210.trans (congrArg some (by kernel_rfl))
  f332:=func211.trans (congrArg some (by kernel_rfl))
  f343:=func230.trans (congrArg some (by kernel_rfl))
  t0:=underlying0
  a0:=Tryz.isAgg0
  z0:=Tryz.sizeOf0
  v0:=Tryz.zeroValue0
  t3:=underlying3
  a3:=Tryz.isAgg3
  z3:=Tryz.sizeOf3
  v3:=Tryz.zeroValue3
  t4:=underlying4
  a4:=Tryz.isAgg4
  z4:=Tryz.sizeOf4
  v4:=Tryz.zeroValue4
  t5:=underlying5
  a5:=Tryz.isAgg5
  z5:=Tryz.sizeOf5
  v5:=Tryz.zeroValue5
  t9:=underlying9
  a9:=Tryz.isAgg9
  z9:=Tryz.sizeOf9
  v9:=Tryz.zeroValue9
  t28:=underlying24
  a28:=Tryz.isAgg24
  z28:=Tryz.sizeOf24
  v28:=Tryz.zeroValue24
  t46:=underlying194
  a46:=Tryz.isAgg194
  z46:=Tryz.sizeOf194
  v46:=Tryz.zeroValue194
  t51:=underlying234
  a51:=Tryz.isAgg234
  z51:=Tryz.sizeOf234
  v51:=Tryz.zeroValue234
  t53:=underlying152
  a53:=Tryz.isAgg152
  z53:=Tryz.sizeOf152
  v53:=Tryz.zeroValue152
  t131:=underlying172
  a131:=Tryz.isAgg172
  z131:=Tryz.sizeOf172
  v131:=Tryz.zeroValue172
  t182:=underlying226
  a182:=Tryz.isAgg226
  z182:=Tryz.sizeOf226
  v182:=Tryz.zeroValue226
  t183:=underlying227
  a183:=Tryz.isAgg227
  z183:=Tryz.sizeOf227
  v183:=Tryz.zeroValue227
  t218:=underlying259
  a218:=Tryz.isAgg259
  z218:=Tryz.sizeOf259
  v218:=Tryz.zeroValue259
  t222:=underlying221
  a222:=Tryz.isAgg221
  z222:=Tryz.sizeOf221
  v222:=Tryz.zeroValue221
  t228:=underlying271
  a228:=Tryz.isAgg271
  z228:=Tryz.sizeOf271
  v228:=Tryz.zeroValue271
  t229:=underlying272
  a229:=Tryz.isAgg272
  z229:=Tryz.sizeOf272
  v229:=Tryz.zeroValue272}
open Go.Sort Go.RowKit in
theorem Tryz.slices_Sort_int (blk off cap:Nat) (zs:List Int) (w:World) (c:Holds (Value.int .i64) w blk off zs.toArray) (a:blk<w.heap.size) (b:zs.length<4611686018427387904):
    Calls prog 77 #[.slice (some ⟨blk,off,none⟩) zs.length cap] w λe w'=>
      e= .returned (.tuple #[])/\ ∃n os,w'=grow (putRow (Value.int .i64) (Sort.ahead w n) blk off (zs.mergeSort λx y=>decide (x<=y)).toArray) os:=Any.slices_Sort_int Tryz.lays189 blk off cap zs w c a b
def Tryz.lays190_ren:Go.Shelf.Ren:=⟨fun | 190=>82 | 125=>122 | 258=>125 | 128=>168 | 129=>169 | 302=>170 | 303=>171 | 304=>172 | 305=>173 | 306=>174 | 307=>175 | 308=>176 | 309=>177 | 310=>178 | 333=>212 | 329=>208 | 330=>209 | 334=>213 | 335=>214 | 336=>215 | 344=>231 | n=>n,fun | 31=>83 | 9=>9 | 3=>3 | 46=>194 | 0=>0 | 51=>234 | 53=>152 | 4=>4 | 183=>227 | 182=>226 | 131=>172 | 5=>5 | 218=>259 | 222=>221 | 228=>271 | 229=>272 | n=>n,fun | n=>n⟩
theorem Tryz.lays190:Go.Proofs.Lays.n190 prog Tryz.lays190_ren:={
  mixed:=by kernel_rfl
  f125:=func122.trans (congrArg some (by kernel_rfl))
  f128:=func168.trans (congrArg some (by kernel_rfl))
  f129:=func169.trans (congrArg some (by kernel_rfl))
  f190:=func82.trans (congrArg some (by kernel_rfl))
  f258:=func125.trans (congrArg some (by kernel_rfl))
  f302:=func170.trans (congrArg some (by kernel_rfl))
  f303:=func171.trans (congrArg some (by kernel_rfl))
  f304:=func172.trans (congrArg some (by kernel_rfl))
  f305:=func173.trans (congrArg some (by kernel_rfl))
  f306:=func174.trans (congrArg some (by kernel_rfl))
  f307:=func175.trans (congrArg some (by kernel_rfl))
  f308:=func176.trans (congrArg some (by kernel_rfl))
  f309:=func177.trans (congrArg some (by kernel_rfl))
  f310:=func178.trans (congrArg some (by kernel_rfl))
  f329:=func208.trans (congrArg some (by kernel_rfl))
  f330:=func209.trans (congrArg some (by kernel_rfl))
  f333:=func212.trans (congrArg some (by kernel_rfl))
  f334:=func213.trans (congrArg some (by kernel_rfl))
  f335:=func214.trans (congrArg some (by kernel_rfl))
  f336:=func215.trans (congrArg some (by kernel_rfl))
  f344:=func231.trans (congrArg some (by kernel_rfl))
  t0:=underlying0
  a0:=Tryz.isAgg0
  z0:=Tryz.sizeOf0
  v0:=Tryz.zeroValue0
  t3:=underlying3
  a3:=Tryz.isAgg3
  z3:=Tryz.sizeOf3
  v3:=Tryz.zeroValue3
  t4:=underlying4
  a4:=Tryz.isAgg4
  z4:=Tryz.sizeOf4
  v4:=Tryz.zeroValue4
  t5:=underlying5
  a5:=Tryz.isAgg5
  z5:=Tryz.sizeOf5
  v5:=Tryz.zeroValue5
  t9:=underlying9
  a9:=Tryz.isAgg9
  z9:=Tryz.sizeOf9
  v9:=Tryz.zeroValue9
  t31:=underlying83
  a31:=Tryz.isAgg83
  z31:=Tryz.sizeOf83
  v31:=Tryz.zeroValue83
  t46:=underlying194
  a46:=Tryz.isAgg194
  z46:=Tryz.sizeOf194
  v46:=Tryz.zeroValue194
  t51:=underlying234
  a51:=Tryz.isAgg234
  z51:=Tryz.sizeOf234
  v51:=Tryz.zeroValue234
  t53:=underlying152
  a53:=Tryz.isAgg152
  z53:=Tryz.sizeOf152
  v53:=Tryz.zeroValue152
  t131:=underlying172
  a131:=Tryz.isAgg172
  z131:=Tryz.sizeOf172
  v131:=Tryz.zeroValue172
  t182:=underlying226
  a182:=Tryz.isAgg226
  z182:=Tryz.sizeOf226
  v182:=Tryz.zeroValue226
  t183:=underlying227
  a183:=Tryz.isAgg227
  z183:=Tryz.sizeOf227
  v183:=Tryz.zeroValue227
  t218:=underlying259
  a218:=Tryz.isAgg259
  z218:=Tryz.sizeOf259
  v218:=Tryz.zeroValue259
  t222:=underlying221
  a222:=Tryz.isAgg221
  z222:=Tryz.sizeOf221
  v222:=Tryz.zeroValue221
  t228:=underlying271
  a228:=Tryz.isAgg271
  z228:=Tryz.sizeOf271
  v228:=Tryz.zeroValue271
  t229:=underlying272
  a229:=Tryz.isAgg272
  z229:=Tryz.sizeOf272
  v229:=Tryz.zeroValue272}
open Go.Sort Go.RowKit in
theorem Tryz.slices_Sort_string (blk off cap:Nat) (ss:List (List UInt8)) (w:World) (c:Holds encStr w blk off ss.toArray) (a:blk<w.heap.size) (b:ss.length<4611686018427387904):
    Calls prog 82 #[.slice (some ⟨blk,off,none⟩) ss.length cap] w λe w'=>
      e= .returned (.tuple #[])/\ ∃n os,w'=grow (putRow encStr (Sort.ahead w n) blk off (ss.mergeSort λx y=>decide (x<=y)).toArray) os:=Any.slices_Sort_string Tryz.lays190 blk off cap ss w c a b
def Tryz.lays99_ren:Go.Shelf.Ren:=⟨fun | 99=>80 | 206=>123 | n=>n,fun | 9=>9 | 4=>4 | 3=>3 | n=>n,fun | n=>n⟩
theorem Tryz.lays99:Go.Proofs.Lays.n99 prog Tryz.lays99_ren:={
  mixed:=by kernel_rfl
  f99:=func80.trans (congrArg some (by kernel_rfl))
  f206:=func123.trans (congrArg some (by kernel_rfl))
  t3:=underlying3
  a3:=Tryz.isAgg3
  z3:=Tryz.sizeOf3
  v3:=Tryz.zeroValue3
  t4:=underlying4
  a4:=Tryz.isAgg4
  z4:=Tryz.sizeOf4
  v4:=Tryz.zeroValue4
  t9:=underlying9
  a9:=Tryz.isAgg9
  z9:=Tryz.sizeOf9
  v9:=Tryz.zeroValue9}
open Go.RowKit Go.Lib in
theorem Tryz.strings_HasPrefix (s p:ByteArray) (w:World):
    Calls prog 80 #[.string s,.string p] w λe w'=>e= .returned (.bool (Lib.hasPrefix s.data.toList p.data.toList))/\w'=w:=Any.strings_HasPrefix Tryz.lays99 s p w
open Go.RowKit Go.Sort in
theorem Tryz.slices_Sort_string_none (p:Option Addr) (cap:Nat) (w:World):
    Calls prog 82 #[.slice p 0 cap] w λe w'=>e= .returned (.tuple #[])/\w'=w:=Any.slices_Sort_string_none Tryz.lays190 p cap w
open Go.RowKit Go.Sort in
theorem Tryz.slices_Sort_int_none (p:Option Addr) (cap:Nat) (w:World):
    Calls prog 77 #[.slice p 0 cap] w λe w'=>e= .returned (.tuple #[])/\w'=w:=Any.slices_Sort_int_none Tryz.lays189 p cap w
