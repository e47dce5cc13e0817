/- Closed facts of the program: offsets, sizes, zero values. -/
import Derived.Test.YtkgjmhcdacidoaaGreatDoorRow
import Derived.Test.YtkgjmhcdacidoaaGreatDoorMap
set_option linter.unusedVariables false
set_option maxRecDepth 100000
namespace Go.Proofs.YtkgjmhcdacidoaaGreatDoor
open Go.RowKit M Proofs.Tryz
theorem QO:Zx prog 3=some false:= by kernel_rfl
theorem VD:Zx prog 4=some false:= by kernel_rfl
theorem JN:Zx prog 9=some false:= by kernel_rfl
theorem Yc:Zx prog 22=some false:= by kernel_rfl
theorem Xy:Zx prog 25=some false:= by kernel_rfl
theorem KA:Zx prog 31=some false:= by kernel_rfl
theorem Z6:Zx prog 75=some false:= by kernel_rfl
theorem JO:Zx prog 76=some false:= by kernel_rfl
theorem H8:Zx prog 77=some false:= by kernel_rfl
theorem R8:Zx prog 79=some false:= by kernel_rfl
theorem Pu:Zx prog 81=some false:= by kernel_rfl
theorem K8:Zx prog 92=some false:= by kernel_rfl
theorem VE:Zx prog 105=some false:= by kernel_rfl
theorem JM:Zx prog 106=some false:= by kernel_rfl
theorem Er:Zx prog 107=some false:= by kernel_rfl
theorem W6:Zx prog 110=some false:= by kernel_rfl
theorem Rq:Zx prog 111=some false:= by kernel_rfl
theorem Xt:Zx prog 115=some true:= by kernel_rfl
theorem Jx:Zx prog 118=some false:= by kernel_rfl
theorem Ep:Zx prog 123=some false:= by kernel_rfl
theorem HU:Zx prog 144=some false:= by kernel_rfl
theorem WC:Zx prog 149=some false:= by kernel_rfl
theorem Eo:Zx prog 161=some true:= by kernel_rfl
theorem HT:Zx prog 176=some false:= by kernel_rfl
theorem ag_193:Zx prog 193=some true:= by kernel_rfl
theorem Nm:Zx prog 194=some false:= by kernel_rfl
theorem En:Zx prog 249=some true:= by kernel_rfl
theorem asz_84:Jg prog 84=true:= by kernel_rfl
theorem asz_109:Jg prog 109=true:= by kernel_rfl
theorem asz_113:Jg prog 113=true:= by kernel_rfl
theorem M3:Jg prog 115=true:= by kernel_rfl
theorem asz_120:Jg prog 120=true:= by kernel_rfl
theorem asz_146:Jg prog 146=true:= by kernel_rfl
theorem asz_148:Jg prog 148=true:= by kernel_rfl
theorem asz_151:Jg prog 151=true:= by kernel_rfl
theorem He:Jg prog 161=true:= by kernel_rfl
theorem asz_193:Jg prog 193=true:= by kernel_rfl
theorem M2:Jg prog 249=true:= by kernel_rfl
theorem cal_33:Q7 prog 33=true:= by kernel_rfl
theorem cal_42:Q7 prog 42=true:= by kernel_rfl
theorem cal_43:Q7 prog 43=true:= by kernel_rfl
theorem cal_44:Q7 prog 44=true:= by kernel_rfl
theorem Bo:Q7 prog 54=true:= by kernel_rfl
theorem YO:Q7 prog 55=true:= by kernel_rfl
theorem cal_56:Q7 prog 56=true:= by kernel_rfl
theorem Nh:Q7 prog 57=true:= by kernel_rfl
theorem cal_58:Q7 prog 58=true:= by kernel_rfl
theorem Ng:Q7 prog 59=true:= by kernel_rfl
theorem cal_60:Q7 prog 60=true:= by kernel_rfl
theorem cal_61:Q7 prog 61=true:= by kernel_rfl
theorem cal_62:Q7 prog 62=true:= by kernel_rfl
theorem Mn:Q7 prog 63=true:= by kernel_rfl
theorem LV:Q7 prog 64=true:= by kernel_rfl
theorem cal_65:Q7 prog 65=true:= by kernel_rfl
theorem cal_70:Q7 prog 70=true:= by kernel_rfl
theorem cal_71:Q7 prog 71=true:= by kernel_rfl
theorem LT:Q7 prog 75=true:= by kernel_rfl
theorem Nf:Q7 prog 76=true:= by kernel_rfl
theorem cal_77:Q7 prog 77=true:= by kernel_rfl
theorem cal_78:Q7 prog 78=true:= by kernel_rfl
theorem cal_79:Q7 prog 79=true:= by kernel_rfl
theorem LR:Q7 prog 85=true:= by kernel_rfl
theorem Nd:Q7 prog 86=true:= by kernel_rfl
theorem Nc:Q7 prog 87=true:= by kernel_rfl
theorem LQ:Q7 prog 88=true:= by kernel_rfl
theorem LP:Q7 prog 89=true:= by kernel_rfl
theorem cal_90:Q7 prog 90=true:= by kernel_rfl
theorem LO:Q7 prog 92=true:= by kernel_rfl
theorem LN:Q7 prog 93=true:= by kernel_rfl
theorem LM:Q7 prog 94=true:= by kernel_rfl
theorem LL:Q7 prog 95=true:= by kernel_rfl
theorem Nb:Q7 prog 96=true:= by kernel_rfl
theorem Na:Q7 prog 97=true:= by kernel_rfl
theorem cal_98:Q7 prog 98=true:= by kernel_rfl
theorem cal_99:Q7 prog 99=true:= by kernel_rfl
theorem cal_100:Q7 prog 100=true:= by kernel_rfl
theorem Pn:Q7 prog 101=true:= by kernel_rfl
theorem cal_102:Q7 prog 102=true:= by kernel_rfl
theorem cal_103:Q7 prog 103=true:= by kernel_rfl
theorem HS:Q7 prog 104=true:= by kernel_rfl
theorem cal_107:Q7 prog 107=true:= by kernel_rfl
theorem My:Q7 prog 110=true:= by kernel_rfl
theorem Pm:Q7 prog 114=true:= by kernel_rfl
theorem Mx:Q7 prog 115=true:= by kernel_rfl
theorem cal_116:Q7 prog 116=true:= by kernel_rfl
theorem Pk:Q7 prog 117=true:= by kernel_rfl
theorem cal_119:Q7 prog 119=true:= by kernel_rfl
theorem Gl:Q7 prog 120=true:= by kernel_rfl
theorem Gk:Q7 prog 121=true:= by kernel_rfl
theorem Pj:Q7 prog 122=true:= by kernel_rfl
theorem Mw:Q7 prog 123=true:= by kernel_rfl
theorem Mv:Q7 prog 124=true:= by kernel_rfl
theorem Pi:Q7 prog 125=true:= by kernel_rfl
theorem Ph:Q7 prog 126=true:= by kernel_rfl
theorem Pg:Q7 prog 127=true:= by kernel_rfl
theorem Pf:Q7 prog 128=true:= by kernel_rfl
theorem cal_129:Q7 prog 129=true:= by kernel_rfl
theorem cal_132:Q7 prog 132=true:= by kernel_rfl
theorem Mu:Q7 prog 134=true:= by kernel_rfl
theorem Gj:Q7 prog 135=true:= by kernel_rfl
theorem cal_136:Q7 prog 136=true:= by kernel_rfl
theorem Mt:Q7 prog 137=true:= by kernel_rfl
theorem cal_138:Q7 prog 138=true:= by kernel_rfl
theorem cal_151:Q7 prog 151=true:= by kernel_rfl
theorem cal_154:Q7 prog 154=true:= by kernel_rfl
theorem cal_155:Q7 prog 155=true:= by kernel_rfl
theorem UT:Q7 prog 156=true:= by kernel_rfl
theorem Kz:Q7 prog 157=true:= by kernel_rfl
theorem Ky:Q7 prog 158=true:= by kernel_rfl
theorem Pe:Q7 prog 159=true:= by kernel_rfl
theorem cal_160:Q7 prog 160=true:= by kernel_rfl
theorem cal_161:Q7 prog 161=true:= by kernel_rfl
theorem cal_162:Q7 prog 162=true:= by kernel_rfl
theorem cal_165:Q7 prog 165=true:= by kernel_rfl
theorem cal_166:Q7 prog 166=true:= by kernel_rfl
theorem Mq:Q7 prog 167=true:= by kernel_rfl
theorem Pd:Q7 prog 182=true:= by kernel_rfl
theorem cal_183:Q7 prog 183=true:= by kernel_rfl
theorem cal_184:Q7 prog 184=true:= by kernel_rfl
theorem Pc:Q7 prog 185=true:= by kernel_rfl
theorem cal_187:Q7 prog 187=true:= by kernel_rfl
theorem Pb:Q7 prog 188=true:= by kernel_rfl
theorem Mp:Q7 prog 197=true:= by kernel_rfl
theorem cal_203:Q7 prog 203=true:= by kernel_rfl
theorem cal_204:Q7 prog 204=true:= by kernel_rfl
theorem cal_205:Q7 prog 205=true:= by kernel_rfl
theorem Kx:Q7 prog 206=true:= by kernel_rfl
theorem cal_207:Q7 prog 207=true:= by kernel_rfl
theorem Pa:Q7 prog 208=true:= by kernel_rfl
theorem Mo:Q7 prog 209=true:= by kernel_rfl
theorem cal_214:Q7 prog 214=true:= by kernel_rfl
theorem cal_215:Q7 prog 215=true:= by kernel_rfl
theorem cal_216:Q7 prog 216=true:= by kernel_rfl
theorem cal_217:Q7 prog 217=true:= by kernel_rfl
theorem cal_219:Q7 prog 219=true:= by kernel_rfl
theorem Ku:JL prog 22=some 1:= by kernel_rfl
theorem Dt:JL prog 92=some 1:= by kernel_rfl
theorem Uv:JL prog 123=some 2:= by kernel_rfl
theorem Uu:JL prog 144=some 65:= by kernel_rfl
theorem Yj:JL prog 149=some 4:= by kernel_rfl
theorem Lv:JL prog 176=some 1:= by kernel_rfl
theorem XI:QT prog 84 0=some 0:= by kernel_rfl
theorem HM:QT prog 84 1=some 1:= by kernel_rfl
theorem WG:QT prog 84 2=some 2:= by kernel_rfl
theorem Ja:QT prog 84 3=some 3:= by kernel_rfl
theorem Ha:QT prog 84 4=some 4:= by kernel_rfl
theorem Gb:QT prog 84 5=some 5:= by kernel_rfl
theorem fo_84_6:QT prog 84 6=some 6:= by kernel_rfl
theorem NO:QT prog 84 7=some 7:= by kernel_rfl
theorem DY:QT prog 84 8=some 8:= by kernel_rfl
theorem NM:QT prog 84 9=some 9:= by kernel_rfl
theorem Zo:QT prog 109 0=some 0:= by kernel_rfl
theorem Hx:QT prog 109 1=some 1:= by kernel_rfl
theorem Wh:QT prog 109 2=some 2:= by kernel_rfl
theorem Ty:QT prog 109 4=some 4:= by kernel_rfl
theorem Jo:QT prog 113 0=some 0:= by kernel_rfl
theorem ZC:QT prog 113 1=some 1:= by kernel_rfl
theorem Us:QT prog 113 2=some 2:= by kernel_rfl
theorem JJ:QT prog 115 0=some 0:= by kernel_rfl
theorem Ks:QT prog 115 1=some 1:= by kernel_rfl
theorem Kr:QT prog 120 0=some 0:= by kernel_rfl
theorem Wu:QT prog 120 1=some 1:= by kernel_rfl
theorem Hw:QT prog 120 2=some 2:= by kernel_rfl
theorem Wg:QT prog 120 3=some 3:= by kernel_rfl
theorem JH:QT prog 146 0=some 0:= by kernel_rfl
theorem Kq:QT prog 146 1=some 1:= by kernel_rfl
theorem YL:QT prog 148 0=some 0:= by kernel_rfl
theorem Hv:QT prog 148 1=some 1:= by kernel_rfl
theorem Tx:QT prog 148 2=some 2:= by kernel_rfl
theorem Tw:QT prog 148 3=some 3:= by kernel_rfl
theorem Z4:QT prog 151 0=some 0:= by kernel_rfl
theorem JZ:QT prog 151 1=some 1:= by kernel_rfl
theorem Kp:QT prog 151 2=some 2:= by kernel_rfl
theorem Ur:QT prog 151 3=some 3:= by kernel_rfl
theorem Bb:QT prog 151 4=some 4:= by kernel_rfl
theorem WO:QT prog 161 0=some 0:= by kernel_rfl
theorem JY:QT prog 161 1=some 1:= by kernel_rfl
theorem JG:QT prog 161 2=some 2:= by kernel_rfl
theorem Ba:QT prog 161 3=some 3:= by kernel_rfl
theorem GZ:QT prog 193 0=some 0:= by kernel_rfl
theorem Ko:QT prog 193 1=some 1:= by kernel_rfl
theorem Kn:QT prog 196 0=some 0:= by kernel_rfl
theorem JF:QT prog 196 1=some 1:= by kernel_rfl
theorem Km:QT prog 249 0=some 0:= by kernel_rfl
theorem Hu:QT prog 249 1=some 1:= by kernel_rfl
theorem GY:QT prog 249 2=some 2:= by kernel_rfl
theorem Kl:QT prog 249 3=some 3:= by kernel_rfl
theorem Kh:Hj prog 161 0=some (0,none):= by kernel_rfl
theorem Tr:Hj prog 161 3=some (3,none):= by kernel_rfl
theorem Tl:(prog.info? 3).map (fun i=>(i.zero,i.size,i.bytes))=some (some (.int .i64 0),1,8):= by kernel_rfl
theorem ifo_5:(prog.info? 5).map (fun i=>(i.zero,i.size,i.bytes))=some (some (.int .u8 0),1,1):= by kernel_rfl
theorem ifo_9:(prog.info? 9).map (fun i=>(i.zero,i.size,i.bytes))=some (some (.string ⟨#[]⟩),1,16):= by kernel_rfl
theorem ifo_115:(prog.info? 115).map (fun i=>(i.zero,i.size,i.bytes))=some (some (.agg #[(.string ⟨#[]⟩),(.int .i64 0)]),2,24):= by kernel_rfl
theorem ifo_193:(prog.info? 193).map (fun i=>(i.zero,i.size,i.bytes))=some (some (.agg #[(.bool false),(.int .u8 0),(.int .u8 0),(.int .u8 0),(.int .u8 0),(.int .u8 0),(.int .u8 0),(.int .u8 0),(.int .u8 0),(.int .u8 0),(.int .u8 0),(.int .u8 0),(.int .u8 0),(.int .u8 0),(.int .u8 0),(.int .u8 0),(.int .u8 0),(.int .u8 0),(.int .u8 0),(.int .u8 0),(.int .u8 0),(.int .u8 0),(.int .u8 0),(.int .u8 0),(.int .u8 0),(.int .u8 0),(.int .u8 0),(.int .u8 0),(.int .u8 0),(.int .u8 0),(.int .u8 0),(.int .u8 0),(.int .u8 0),(.int .u8 0),(.int .u8 0),(.int .u8 0),(.int .u8 0),(.int .u8 0),(.int .u8 0),(.int .u8 0),(.int .u8 0),(.int .u8 0),(.int .u8 0),(.int .u8 0),(.int .u8 0),(.int .u8 0),(.int .u8 0),(.int .u8 0),(.int .u8 0),(.int .u8 0),(.int .u8 0),(.int .u8 0),(.int .u8 0),(.int .u8 0),(.int .u8 0),(.int .u8 0),(.int .u8 0),(.int .u8 0),(.int .u8 0),(.int .u8 0),(.int .u8 0),(.int .u8 0),(.int .u8 0),(.int .u8 0),(.int .u8 0)]),65,65):= by kernel_rfl
theorem ifo_249:(prog.info? 249).map (fun i=>(i.zero,i.size,i.bytes))=some (some (.agg #[(.bool false),(.bool false),(.bool false),(.int .i64 0)]),4,16):= by kernel_rfl
theorem GS:(prog.info? 3).map (fun i=>(i.zero,i.size))=some (some (.int .i64 0),1):= by kernel_rfl
theorem ifz_5:(prog.info? 5).map (fun i=>(i.zero,i.size))=some (some (.int .u8 0),1):= by kernel_rfl
theorem ifz_9:(prog.info? 9).map (fun i=>(i.zero,i.size))=some (some (.string ⟨#[]⟩),1):= by kernel_rfl
theorem ifz_115:(prog.info? 115).map (fun i=>(i.zero,i.size))=some (some (.agg #[(.string ⟨#[]⟩),(.int .i64 0)]),2):= by kernel_rfl
theorem ZF:prog.follows .mixedOrders=true:= by kernel_rfl
theorem HZ:XJ prog 84 [0,1,3,4,5,6,7,8]=some [(0,1),(1,1),(3,1),(4,1),(5,1),(6,1),(7,1),(8,1)]:= by kernel_rfl
theorem GJ:XJ prog 109 [0,1,2,4]=some [(0,1),(1,1),(2,1),(4,1)]:= by kernel_rfl
theorem DN:XJ prog 113 [0,1,2]=some [(0,1),(1,1),(2,1)]:= by kernel_rfl
theorem N4:XJ prog 115 []=some []:= by kernel_rfl
theorem CF:XJ prog 115 [0,1]=some [(0,1),(1,1)]:= by kernel_rfl
theorem CE:XJ prog 120 [0,1]=some [(0,1),(1,1)]:= by kernel_rfl
theorem F7:XJ prog 146 [0]=some [(0,1)]:= by kernel_rfl
theorem F6:XJ prog 148 [0]=some [(0,1)]:= by kernel_rfl
theorem GI:XJ prog 151 [0,2,3,4]=some [(0,1),(2,1),(3,1),(4,1)]:= by kernel_rfl
theorem W5:XJ prog 161 [0,1,2]=some [(0,1),(1,1),(2,1)]:= by kernel_rfl
theorem DM:XJ prog 161 [0,1,3]=some [(0,1),(1,1),(3,1)]:= by kernel_rfl
theorem F5:XJ prog 193 [0]=some [(0,1)]:= by kernel_rfl
theorem pl_249_:XJ prog 249 []=some []:= by kernel_rfl
theorem GH:XJ prog 249 [0,3]=some [(0,1),(3,1)]:= by kernel_rfl
theorem WI:ZL prog 3=some 1:= by kernel_rfl
theorem Uh:ZL prog 4=some 1:= by kernel_rfl
theorem MG:ZL prog 5=some 1:= by kernel_rfl
theorem sz_9:ZL prog 9=some 1:= by kernel_rfl
theorem ZE:ZL prog 22=some 1:= by kernel_rfl
theorem Zf:ZL prog 31=some 1:= by kernel_rfl
theorem sz_76:ZL prog 76=some 1:= by kernel_rfl
theorem sz_92:ZL prog 92=some 1:= by kernel_rfl
theorem QZ:ZL prog 115=some 2:= by kernel_rfl
theorem G6:ZL prog 118=some 1:= by kernel_rfl
theorem sz_123:ZL prog 123=some 1:= by kernel_rfl
theorem XW:ZL prog 161=some 4:= by kernel_rfl
theorem SX:ZL prog 176=some 1:= by kernel_rfl
theorem SW:ZL prog 193=some 65:= by kernel_rfl
theorem sz_194:ZL prog 194=some 1:= by kernel_rfl
theorem HG:ZL prog 249=some 4:= by kernel_rfl
theorem YR:XF prog 3=some (some (.int .i64 0)):= by kernel_rfl
theorem zr_4:XF prog 4=some (some (.bool false)):= by kernel_rfl
theorem zr_5:XF prog 5=some (some (.int .u8 0)):= by kernel_rfl
theorem zr_22:XF prog 22=some (some (.slice none 0 0)):= by kernel_rfl
theorem zr_31:XF prog 31=some (some (.int .i64 0)):= by kernel_rfl
theorem zr_84:XF prog 84=some (some (.agg #[(.map none),(.map none),(.slice none 0 0),(.pointer none),(.pointer none),(.pointer none),(.int .i64 0),(.int .i64 0),(.int .i64 0),(.slice none 0 0)])):= by kernel_rfl
theorem Y9:XF prog 104=some (some (.pointer none)):= by kernel_rfl
theorem zr_109:XF prog 109=some (some (.agg #[(.pointer none),(.map none),(.map none),(.int .i64 0),(.map none)])):= by kernel_rfl
theorem zr_113:XF prog 113=some (some (.agg #[(.int .i64 0),(.map none),(.map none)])):= by kernel_rfl
theorem WA:XF prog 115=some (some (.agg #[(.string ⟨#[]⟩),(.int .i64 0)])):= by kernel_rfl
theorem Yf:XF prog 116=some (some (.pointer none)):= by kernel_rfl
theorem zr_120:XF prog 120=some (some (.agg #[(.int .i64 0),(.int .i64 0),(.int .u64 0),(.int .u64 0)])):= by kernel_rfl
theorem zr_146:XF prog 146=some (some (.agg #[(.slice none 0 0),(.int .i64 0)])):= by kernel_rfl
theorem zr_148:XF prog 148=some (some (.agg #[(.slice none 0 0),(.int .i64 0),(.int .i64 0),(.int .i64 0)])):= by kernel_rfl
theorem zr_151:XF prog 151=some (some (.agg #[(.slice none 0 0),(.int .i64 0),(.map none),(.map none),(.map none)])):= by kernel_rfl
theorem X0:XF prog 161=some (some (.agg #[(.int .i64 0),(.int .i64 0),(.int .i64 0),(.string ⟨#[]⟩)])):= by kernel_rfl
theorem zr_193:XF prog 193=some (some (.agg #[(.bool false),(.int .u8 0),(.int .u8 0),(.int .u8 0),(.int .u8 0),(.int .u8 0),(.int .u8 0),(.int .u8 0),(.int .u8 0),(.int .u8 0),(.int .u8 0),(.int .u8 0),(.int .u8 0),(.int .u8 0),(.int .u8 0),(.int .u8 0),(.int .u8 0),(.int .u8 0),(.int .u8 0),(.int .u8 0),(.int .u8 0),(.int .u8 0),(.int .u8 0),(.int .u8 0),(.int .u8 0),(.int .u8 0),(.int .u8 0),(.int .u8 0),(.int .u8 0),(.int .u8 0),(.int .u8 0),(.int .u8 0),(.int .u8 0),(.int .u8 0),(.int .u8 0),(.int .u8 0),(.int .u8 0),(.int .u8 0),(.int .u8 0),(.int .u8 0),(.int .u8 0),(.int .u8 0),(.int .u8 0),(.int .u8 0),(.int .u8 0),(.int .u8 0),(.int .u8 0),(.int .u8 0),(.int .u8 0),(.int .u8 0),(.int .u8 0),(.int .u8 0),(.int .u8 0),(.int .u8 0),(.int .u8 0),(.int .u8 0),(.int .u8 0),(.int .u8 0),(.int .u8 0),(.int .u8 0),(.int .u8 0),(.int .u8 0),(.int .u8 0),(.int .u8 0),(.int .u8 0)])):= by kernel_rfl
theorem SG:XF prog 196=some (some (.agg #[(.pointer none),(.slice none 0 0)])):= by kernel_rfl
theorem Gp:XF prog 249=some (some (.agg #[(.bool false),(.bool false),(.bool false),(.int .i64 0)])):= by kernel_rfl
abbrev Bytes:=List UInt8
structure DS where
  F:Int→Bytes×Bytes
  Q:List (Int×Int)
  lost:Int
  down:Bool
  armed:Int
  keep:List Int
def Fv (F:Int→Bytes×Bytes) (f:Int) (x:Bytes×Bytes):Int→Bytes×Bytes:= fun k=> if k=f then x else F k
structure DInv (D:DS):Prop where
  now: ∀k,(D.F k).1.length≤16777216
  last: ∀k,(D.F k).2.length≤16777216
  nodup:D.Q.Nodup
  secs: ∀p∈D.Q,(0≤p.1∧p.1<16)∧0≤p.2∧p.2≤262144
  lost:0≤D.lost∧D.lost≤9223372036854775807
  armed:0≤D.armed∧D.armed≤9223372036854775807
structure DL where
  bf:Nat
  bs:Nat
  qv:Value
def inC:RowC Int:=⟨fun x=>[intV x],1, by decide, fun _=>rfl, fun _=>rfl⟩
def Vx:List (Int×Bytes×Bytes)→Int→Bytes×Bytes
  | [],_=>([],[])
  | x::l,f=> if x.1=f then x.2 else Vx l f
structure RInv (l:List (Int×Bytes×Bytes)) (D:DS):Prop where
  inv:DInv D
  says: ∀k,Vx l k=D.F k
  num: ∀x∈l,0≤x.1∧x.1<16
  nodup:(l.map (·.1)).Nodup
structure RL where
  fv:Value
  qv:Value
  l:List (Int×Bytes×Bytes)
theorem Li {l m:List (Int×Bytes×Bytes)} {f:Int} (h: ∀x∈l,x.1≠f):Vx (l++m) f=Vx m f:= by
  induction l with
  | nil=>rfl
  | cons x l ih=> rw[List.cons_append,Vx,if_neg (h x (by simp)),ih fun y hy=>h y (by simp [hy])]
theorem Tq {l:List (Int×Bytes×Bytes)} {f k:Int} (h:k≠f) (m:List (Int×Bytes×Bytes)) (hm:Vx m k=([],[])):Vx (l.filter (fun x=>decide (x.1≠f))++m) k=Vx l k:= by
  induction l with
  | nil=> exact hm
  | cons x l ih=>
    by_cases e:x.1=f
    · rw[List.filter_cons_of_neg (by simp [e]),ih,Vx,if_neg (by omega)]
    · rw[List.filter_cons_of_pos (by simp [e]),List.cons_append,Vx,Vx,ih]
def putR (l:List (Int×Bytes×Bytes)) (x:Int×Bytes×Bytes):List (Int×Bytes×Bytes):=l.filter (fun y=>decide (y.1≠x.1))++[x]
theorem PO {l:List (Int×Bytes×Bytes)} {F:Int→Bytes×Bytes} (h: ∀k,Vx l k=F k) (x:Int×Bytes×Bytes) (k:Int):Vx (putR l x) k=Fv F x.1 x.2 k:= by
  unfold putR Fv
  by_cases e:k=x.1
  · subst e
    rw[Li (fun y hy=> by simpa using(List.mem_filter.1 hy).2),if_pos U]
    simp [Vx]
  · rw[Tq e [x] (by rw[Vx,if_neg (Ne.symm e)];rfl),if_neg e]; exact h k
theorem RInv.put {l:List (Int×Bytes×Bytes)} {D:DS} (h:RInv l D) (k:Int) (a b:Bytes) (hk:0≤k∧k<16) (ha:a.length≤16777216) (hb:b.length≤16777216):RInv (putR l (k,a,b)) {D with F:=Fv D.F k (a,b)}:= by
  refine⟨{h.inv with now:= fun j=> ?_,last:= fun j=> ?_},PO h.says (k,a,b), fun x hx=> ?_, ?_⟩
  · simp only[Fv];split
    · exact ha
    · exact h.inv.now j
  · simp only[Fv];split
    · exact hb
    · exact h.inv.last j
  · rcases List.mem_append.1 hx with q | q
    · exact h.num x (List.mem_filter.1 q).1
    · simp at q; subst q; exact hk
  · unfold putR
    rw[List.map_append]
    refine List.nodup_append.2 ⟨(h.nodup.sublist (List.filter_sublist.map _)), by simp, ?_⟩
    intro x hx y hy e
    obtain⟨z,hz,rfl⟩:=List.mem_map.1 hx
    simp at hy
    have :=(List.mem_filter.1 hz).2
    simp at this
    exact this (e.trans hy)
theorem RInv.count {l:List (Int×Bytes×Bytes)} {D:DS} (h:RInv l D):l.length≤16:= by
  have hs: ∀x∈(l.map (·.1)).map Int.toNat,x∈List.range 16:= by
    intro x hx
    obtain⟨y,hy,rfl⟩:=List.mem_map.1 hx
    obtain⟨z,hz,rfl⟩:=List.mem_map.1 hy
    have :=h.num z hz
    simp;omega
  have hm:((l.map (·.1)).map Int.toNat).Nodup:= by
    refine List.pairwise_map.2 (h.nodup.imp_of_mem ?_)
    intro a b ha hb hne e
    obtain⟨z,hz,rfl⟩:=List.mem_map.1 ha
    obtain⟨y,hy,rfl⟩:=List.mem_map.1 hb
    have :=h.num z hz; have :=h.num y hy
    exact hne (by omega)
  have :=List.Nodup.length_le_of_subset hm hs
  simpa using this
theorem RInv.upd {l:List (Int×Bytes×Bytes)} {D D':DS} (h:RInv l D) (hF:D'.F=D.F) (hi:DInv D'):RInv l D':=⟨hi, fun k=> by rw[hF]; exact h.says k,h.num,h.nodup⟩
end Go.Proofs.YtkgjmhcdacidoaaGreatDoor
namespace Go.Proofs.YtkgjmhcdacidoaaGreatDoor.M
open Go.RowKit Proofs.Tryz
section
variable {P:Program} {n:Nat} {ops:Array Oper} {Q:Exit→Act→World→Prop} {rest:List Oper} {L:Env} {w:World} {d:Nat} {ty:TypeId} {pos:String} {aft:Array Edge} {As:List Th}
theorem Rt {x:Operand} {t e N b o sz:Nat} (hu:P.underlying t=some (.array N e)) (hN:Nat.blt 0 N=true) (hx:look L x=some (ptrV b o)) (hs:ZL P e=some sz) (hd:Nat.blt d n=true) (hk:wl P n ops Q rest ((d,.slice (some ⟨b,o,none⟩) N N)::L) w):wl P n ops Q (⟨some d,.slice t x none none none,ty,pos,aft,none⟩::rest) L w:=
  Xq hd (fun ρ hρ=> by
    have h3: ∀w,(sizeOf e).run P w= .ok sz w:= fun w=>Ze hs w
    have hn: ¬N=0:= by simp at hN;omega
    simp [execOp,hρ _ _ hx,Instr.sliceAt,run_underlying hu,Instr.sureAddr,Instr.sliceBounds,h3,hn]
    simp [Addr.add]) hk
end
theorem Vv (l:List Int):inC.cells l=l.map intV:= by
  induction l with
  | nil=>rfl
  | cons a l ih=> simp only[RowC.cells,List.flatMap_cons,List.map_cons]at ih⊢; rw[ih];rfl
def Hm (sz:Nat) (v:Value) (A B:Nat):Value:= match v with
  | .slice a _ cap=> .slice (if cap=A then a else a.map fun p=>p.add (A*sz)) (B -A) (cap -A)
  | v=>v
section
variable {P:Program} {n:Nat} {ops:Array Oper} {Q:Exit→Act→World→Prop} {rest:List Oper} {L:Env} {w:World} {d:Nat} {ty:TypeId} {pos:String} {aft:Array Edge}
theorem ev_view {x:Operand} {t e m cap sz:Nat} {a:Option Addr} {lo hi:Option Operand} (A B:Nat) (hu:P.underlying t=some (.slice e)) (hs:ZL P e=some sz) (hx:look L x=some (.slice a m cap)) (hlo:bndL L lo 0 A) (hhi:bndL L hi m B) (h1:A≤B) (h2:B≤cap):
    Ev P L w ⟨some d,.slice t x lo hi none,ty,pos,aft,none⟩ (Hm sz (.slice a m cap) A B):= fun ρ hρ=> by
  have hb:=Vp (P:=P) true m cap _ _ A B (hlo.val hρ) (hhi.val hρ) h1 h2 w
  simp only[execOp,hρ _ _ hx]
  simp [Instr.sliceAt,Instr.slice,run_underlying hu,hb,Ze hs,Hm]
theorem RM {x:Operand} {t e m cap sz:Nat} {a:Option Addr} {lo hi:Option Operand} (A B:Nat) (hu:P.underlying t=some (.slice e)) (hs:ZL P e=some sz) (hx:look L x=some (.slice a m cap)) (hlo:bndL L lo 0 A) (hhi:bndL L hi m B) (h1:A≤B) (h2:B≤cap) (hd:Nat.blt d n=true)
    (hk:wl P n ops Q rest ((d,Hm sz (.slice a m cap) A B)::L) w):wl P n ops Q (⟨some d,.slice t x lo hi none,ty,pos,aft,none⟩::rest) L w:=Xq hd (ev_view A B hu hs hx hlo hhi h1 h2) hk
end
theorem BJ {sz b o m cap A B:Nat} (h:A<cap):Hm sz (.slice (some ⟨b,o,none⟩) m cap) A B= .slice (some ⟨b,o+A*sz,none⟩) (B -A) (cap -A):= by
  unfold Hm
  dsimp only
  rw[if_neg (by omega),Option.map_some,ZD]
section
variable {α:Type} {C:RowC α} {l:List α} {w:World}
theorem RdL.view {a:Option Addr} {m cap A B:Nat} (h:RdL C (.slice a m cap) l w) (hc:m≤cap) (h1:A≤B) (h2:B≤l.length):RdL C (Hm C.size (.slice a m cap) A B) ((l.take B).drop A) w:= by
  obtain⟨ao,cap',e1,e2,e3⟩:=h
  cases e1
  have hl:((l.take B).drop A).length=B -A:= by rw[List.length_drop,List.length_take];omega
  refine⟨_,_, by rw[hl];rfl, by omega, fun i x hx=> ?_⟩
  have hi:=(XP hx).1
  rw[List.getElem?_drop,List.getElem?_take,if_pos (by omega)]at hx
  obtain⟨b,off,rfl,hcell⟩:=e3 _ _ hx
  refine⟨b,off+A*C.size, by rw[if_neg (by omega),Option.map_some,ZD], fun j u hu=> ?_⟩
  have :=hcell j u hu
  rw[Nat.add_mul]at this
  rw[show off+A*C.size+i*C.size+j=off+(A*C.size+i*C.size)+j by omega]
  exact this
theorem TA {a:Option Addr} {cap A B:Nat} (hl:l.length≤9223372036854775807) (h1:A≤B) (h2:B≤l.length) (hc:l.length≤cap):Ent (rowT C (.slice a l.length cap) l) (RdL C (Hm C.size (.slice a l.length cap) A B) ((l.take B).drop A)):= fun h=>(Hd hl h).view hc h1 h2
theorem RdL.at_ {b off m cap i:Nat} {a:α} (h:RdL C (.slice (some ⟨b,off,none⟩) m cap) l w) (ha:l[i]? =some a): ∀(j:Nat) (u:Value),(C.enc a)[j]? =some u→w.cell? ⟨b,off+i*C.size+j,none⟩=some u:= by
  obtain⟨b',off',e,h2⟩:=h.get ha
  cases e
  exact h2
end
end Go.Proofs.YtkgjmhcdacidoaaGreatDoor.M
namespace Go.Proofs.YtkgjmhcdacidoaaGreatDoor
open Go.RowKit M Proofs.Tryz
def Wl (sl:List Bs):Nat:=(sl.filter fun p=> !decide (p=[])).length
def Rj (sl:List Bs) (slot:Int):Bool:=decide (0≤slot)&&(match sl[slot.toNat]? with | some p=> !decide (p=[]) | none=>false)
theorem J2 (sl:List Bs):Wl sl≤sl.length:=List.length_filter_le _ _
theorem KP: ∀{sl:List Bs} {k:Nat} {p:Bs},sl[k]? =some []→p≠[]→Wl (sl.set k p)=Wl sl+1
  | [],_,_,h,_=> by simp at h
  | a::sl,0,p,h,hp=> by
    simp at h; subst h
    unfold Wl; simp [hp]
  | a::sl,k+1,p,h,hp=> by
    have :=KP (sl:=sl) (k:=k) (by simpa using h) hp
    unfold Wl at this⊢
    rw[List.set_cons_succ,List.filter_cons,List.filter_cons]
    split
    · rw[List.length_cons,List.length_cons,this]
    · exact this
theorem HD: ∀{sl:List Bs} {k:Nat} {p:Bs},sl[k]? =some p→p≠[]→Wl (sl.set k [])+1=Wl sl
  | [],_,_,h,_=> by simp at h
  | a::sl,0,p,h,hp=> by
    simp at h; subst h
    unfold Wl; simp [hp]
  | a::sl,k+1,p,h,hp=> by
    have :=HD (sl:=sl) (k:=k) (by simpa using h) hp
    unfold Wl at this⊢
    rw[List.set_cons_succ,List.filter_cons,List.filter_cons]
    split
    · rw[List.length_cons,List.length_cons,←this]
    · exact this
theorem Gx {sl:List Bs}:Wl sl<sl.length↔[]∈sl:= by
  unfold Wl
  induction sl with
  | nil=> simp
  | cons a sl ih=>
    have hle:=J2 sl
    unfold Wl at hle
    by_cases ha:a=[]
    · subst ha
      rw[List.filter_cons,if_neg (by simp),List.length_cons]
      exact⟨fun _=>List.mem_cons_self, fun _=> by omega⟩
    · rw[List.filter_cons,if_pos (by simp [ha]),List.length_cons,List.length_cons,List.mem_cons]
      constructor
      · intro h; exact .inr (ih.1 (by omega))
      · rintro(h | h)
        · exact absurd h.symm ha
        · have :=ih.2 h;omega
theorem Cq (m:Nat):Wl (List.replicate m [])=0:= by unfold Wl; simp
def KF (p:Nat) (sl:List Bs):Th:=Ch fun q:Value×Int×Int=>starL [J8 (sl.length≤4096),QC p [q.1,intV (Wl sl:Nat),intV q.2.1,intV q.2.2],rowT stC q.1 sl]
theorem YF {w:World} {p:Nat} {sl:List Bs} {As:List Th} (h:Sat w (KF p sl::As)): ∃ao cap du re,sl.length≤4096∧Sat w (QC p [.slice ao sl.length cap,intV (Wl sl:Nat),intV du,intV re]::rowT stC (.slice ao sl.length cap) sl::As):= by
  obtain⟨⟨v,du,re⟩,h⟩:=h.ex
  obtain⟨h1,h2⟩:=h.flat.pure_elim
  obtain⟨ao,cap,hv,_⟩:=Sat.own_shape (As:=QC p _::rowT stC v sl::As) h2 1 rfl
  obtain rfl:=hv
  exact⟨ao,cap,du,re,h1,h2⟩
theorem WK {w:World} {p:Nat} {sl:List Bs} {As:List Th} {v:Value} {du re:Int} (hl:sl.length≤4096) (h:Sat w (QC p [v,intV (Wl sl:Nat),intV du,intV re]::rowT stC v sl::As)):Sat w (KF p sl::As):=
  Sat.ex_intro (v,du,re) (Sat.fold (As:=[J8 (sl.length≤4096),QC p _,rowT stC v sl]) (Sat.pure_intro hl h))
theorem MH {w:World} {p:Nat} {sl:List Bs} {F:Th} (hS:Sat w [KF p sl,F]):
    Calls prog 126 #[ptrV p 0] w (Ret fun v w'=>v= .tuple #[]∧Sat w' [KF p sl,F]):= by
 obtain⟨sa,sc,du,re,hsl,hS⟩:=YF hS
 refine Qm func126 U ntmps126 U ?_
 refine Qe ?_
 have j1:=hS.drew
 refine Q6 [0,1,2,3,4,5,6,7,8,9,10,11] [11] ZF (by kernel_rfl) ?_
 refine Q9 U U U (QQ U U U (QI U U U Tw (Q1 U U U (Ql U QO (by first | assumption | exact j1.cell 0 U U)) ?_)))
 refine Q9 U U U (QQ U U U (QI U U U Tx (Q1 U U U (Ql U QO (by first | assumption | exact j1.cell 0 U U)) ?_)))
 refine X9 U U U (fun _=>(Gg U U U)) ?_
 refine QQ U U U (QI U U U Tw (Xa U U U U U U ?_))
 first | (refine Qx j1 U U WI (by first | rfl | assumption | exact j1.own_one 1 U) (i:=0) U (by first | decide | exact Q5 U | (simp;done) | omega) ?_)
 intro w2 j3; dsimp only[List.set]at j3
 refine XS (Xf (by kernel_rfl)) ?_
 refine VC.nil (Qc (Qh [0] U (Qa (Qb U U (Qi U U (Qg U Tx U ?_))))))
 first | (refine Qx j3 U U WI (by first | rfl | assumption | exact j3.own_one 1 U) (i:=0) U (by first | decide | exact Q5 U | (simp;done) | omega) ?_)
 intro w4 j5; dsimp only[List.set]at j5
 exact Qf (ZT (.inl U) U (⟨_,U,U,WK hsl (j5.pick [0,1,2] U)⟩))
theorem MJ {w:World} {p:Nat} {sl:List Bs} {F:Th} (hS:Sat w [KF p sl,F]) (slot:Int):
    Calls prog 125 #[ptrV p 0,intV slot] w (Ret fun v w'=>v= .bool (Rj sl slot)∧Sat w' [KF p sl,F]):= by
 obtain⟨sa,sc,du,re,hsl,hS⟩:=YF hS
 refine Qm func125 U ntmps125 U ?_
 refine Qe (Qa (Qd U U (Qf (Qc (Qe (Qa (Qb U U (Yg U U U (Qb U U (QS 7 U (fun h1=> ?_) (fun h1=> ?_)))))))))))
 ·refine Qj U U (det h1) (Qb U U (Qj U U (det h1) (Qb U U (Qj U U (det h1) (Qi U U (Qj U U (det h1) (Qg U YL U (Qj U U (det h1) (Qn U K8 (by first | assumption | exact hS.cell 0 U U) U ?_)))))))))
  refine Qj U U (det h1) ?_
  first | refine XK underlying92 U U ?_ | refine XG 1 hS underlying92 U U U ?_
  refine Qj U U (det h1) (Xk U U U (QH U (det h1) U U (Qb U U (QS 16 U (fun h2=> ?_) (fun h2=> ?_)))))
  ·obtain⟨pg,hp⟩: ∃p,sl[slot.toNat]? =some p:=⟨_,Zk (by omega)⟩
   refine Qj U U (det h2) (Qb U U (Qj U U (det h2) (Qi U U (Qj U U (det h2) (Qg U YL U (Qj U U (det h2) (Qn U K8 (by first | assumption | exact hS.cell 0 U U) U ?_)))))))
   refine Qj U U (det h2) (Qb U U (Qj U U (det h2) (Xg stC 1 slot.toNat hS U U U (by omega) hp Dt U ?_)))
   intro bx3 capx3 hvx3
   refine Qj U U (det h2) (ZG 1 slot.toNat 0 hS U hvx3 U U hp JN U U (Qj U U (det h2) (D7 U U U (QH U (det h2) U U (Qd U U (Qf (Qc (Qh [4] U (Qv (QM (.inr U) U U ?_))))))))))
   exact⟨_,rfl, by unfold Rj; rw[hp,det (show 0≤slot by omega),Bool.true_and]; simp,WK hsl (hS.pick [0,1,2] U)⟩
  refine Qk U U (QJ h2) U (Qk U U (QJ h2) U (Qk U U (QJ h2) U (Qk U U (QJ h2) U (Qk U U (QJ h2) U (Qk U U (QJ h2) U (Qk U U (QJ h2) U (Qk U U (QJ h2) U (QG U (QJ h2) U U (Qd U U (Qf (Qc (Qh [4] U (Qv (QM (.inr U) U U ?_))))))))))))))
  exact⟨_,rfl, by unfold Rj; rw[List.getElem?_eq_none (by omega),Bool.and_false],WK hsl (hS.pick [0,1,2] U)⟩
 refine Qk U U (QJ h1) U (Qk U U (QJ h1) U (Qk U U (QJ h1) U (Qk U U (QJ h1) U (Qk U U (QJ h1) U (Qk U U (QJ h1) U (Qk U U (QJ h1) U (QG U (QJ h1) U U (Qb U U (Qk U U U U (Qk U U U U (Qk U U U U (Qk U U U U (Qk U U U U (Qk U U U U (Qk U U U U (Qk U U U U (QG U U U U (Qd U U (Qf (Qc (Qh [4] U (Qv (QM (.inr U) U U ?_)))))))))))))))))))))))
 exact⟨_,rfl, by unfold Rj; rw[QJ (show ¬0≤slot by omega),Bool.false_and],WK hsl (hS.pick [0,1,2] U)⟩
theorem Tm {sl:List Bs} {slot:Int} (h:Rj sl slot=true):0≤slot∧ ∃p,sl[slot.toNat]? =some p∧p≠[]:= by
  unfold Rj at h
  rw[Bool.and_eq_true,decide_eq_true_eq]at h
  refine⟨h.1, ?_⟩
  cases hq:sl[slot.toNat]? with
  | none=> rw[hq]at h; exact absurd h.2 (by simp)
  | some p=> rw[hq]at h; exact⟨p,rfl, by simpa using h.2⟩
def G7 (sl:List Bs) (slot:Int):Bs:= if Rj sl slot=true then(sl[slot.toNat]?).getD []else[]
def Vm (sl:List Bs) (slot:Int):List Bs:= if Rj sl slot=true then sl.set slot.toNat []else sl
theorem six_sp {w:World} {F:Th} (hS:Sat w [F]) {lv:Value} {l:List Bs} (hL:Ent F (RdL stC lv l)) (e:Bs):
    Calls prog 217 #[lv,strV e] w (Ret fun v w'=>(v=intV (-1)∧e∉l∧Sat w' [F])∨(∃k:Nat,v=intV (k:Int)∧l[k]? =some e∧Sat w' [F])):= by
 obtain⟨ao,cap,rfl,hmax⟩:=(hL.sat hS 0 rfl).shape
 refine Qm func217 U ntmps217 U ?_
 refine Qe (Qa (Qd U U (Qf (Qc (Qe (Qe (Qa (Qb U U (XK underlying92 U U (Qb U U (Qf (Qc (Qz ?_)))))))))))))
 refine Xh (fun K0 E0 W0=> ∃(i:Nat),K0=l.length -i∧E0=[(0,.slice ao l.length cap),(1,strV e),(7,intV (l.length:Int)),(8,intV (i:Int))]∧Sat W0 [F]∧(i≤l.length)∧(∀j y,j<i→l[j]? =some y→y≠e)) (L0:=[(0,_),(1,_),(7,_),(8,_)]) (l.length -0) (VF U U U U) ⟨0,rfl,rfl,hS, by omega, by omega⟩ ?_
 rintro _ _ w1 ⟨i,rfl,rfl,j1,hi,hno⟩
 refine Qe (Qa (Xk U U U (Qf (Qc (Qe (Qu U (fun h2=> ?_) (fun h2=> ?_)))))))
 ·obtain⟨x,hx⟩: ∃x,l[i]? =some x:=⟨_,Zk (by omega)⟩
  obtain⟨b,off,rfl,_⟩:=(hL.sat j1 0 rfl).get hx
  refine Qt (Qc (Qe (Qz (Qe (Qa (Qb U U (Qd U U (Qf (Qc (Qe (Qa (Qb U U (Qb U U (Qb U U (Zj i U U (by first | rfl | omega) ((XP hx).1) Dt U ?_)))))))))))))))
  refine Qn U JN (((hL.sat j1 0 U).at_ hx) 0 _ U) U (YT U U U (Qf (Qc (Qh [8,7,1,0,5,16] U (Qu U (fun h3=> ?_) (fun h3=> ?_))))))
  ·have heq:e=x:=h3
   refine Qe (Qa (Qb U U (Qd U U (Qf (Qc (Qv (Q0 (Qq (Qq (Q0 (Qq (QM (.inr U) U U ?_))))))))))))
   exact⟨_,rfl,.inr ⟨i,rfl, by rw[hx,heq],j1.pick [0] U⟩⟩
  have hne: ¬e=x:=h3
  refine Qt (Qo (Qc (Qa (QN U U (by omega) (by omega) U ?_))))
  refine Qb U U (Qf ?_)
  exact Q8 (L1:=[(0,_),(1,_),(7,_),(8,intV ((i+1:Nat):Int))]) (VF U U U U) (k1:=l.length -(i+1)) (by omega) ⟨i+1,rfl,rfl,j1.pick [0] U, by omega, fun j y hj hq=> by by_cases e:j=i;(subst e; rw[hx]at hq; cases hq; exact fun q=>hne q.symm); exact hno j y (by omega) hq⟩
 refine Xc (Qs (Qs (Q3 (Qc (Qe (Qa (Qd U U (Qf (Qc (Qv (QM (.inr U) U U ?_)))))))))))
 exact⟨_,rfl,.inl ⟨rfl, fun hm=> by obtain⟨j,hj⟩:=List.mem_iff_getElem?.1 hm; exact hno j e (by have :=(XP hj).1;omega) hj rfl,j1.pick [0] rfl⟩⟩
theorem MI {w:World} {p:Nat} {sl:List Bs} {F:Th} (hS:Sat w [KF p sl,F]) (page:Bs) (hpl:page.length=64):
    Calls prog 208 #[ptrV p 0,strV page] w (Ret fun v w'=>(Wl sl=sl.length∧v= .tuple #[intV (-1),.bool false]∧Sat w' [KF p sl,F])∨(∃k:Nat,sl[k]? =some []∧v= .tuple #[intV (k:Int),.bool true]∧Sat w' [KF p (sl.set k page),F])):= by
 refine Qm func208 U ntmps208 U ?_
 refine Qe (Qa (Qd U U (Qd U U (Qf (Qc (Qe (Qe ?_)))))))
 have hul:=J2 sl
 obtain⟨sa,sc,du,re,hsl,hSo⟩:=YF (hS.pick [0,1] rfl)
 have j1:=hSo.drew
 refine Q6 [0,1,2,3,4,5,6,7,8,9,10,11,12,13,14] [] ZF (by kernel_rfl) ?_
 refine Q9 U U U (X9 U U U (fun _=>(Gf underlying9 U)) ?_)
 refine X9 U U U (fun _=>(Md U U)) ?_
 refine Q9 U U U (KO 10 U (fun h2=> ?_) (fun h2=> ?_))
 ·exact absurd h2 (by omega)
 refine X9 U U (Xd U U (QJ h2)) (fun _=>(Ev.gd (XH U))) ?_
 refine X9 U U (Xd U U (QJ h2)) (fun _=>(Ev.gd (Hc U))) ?_
 refine X9 U U (Xd U U (QJ h2)) (fun _=>(Ev.gd (Z8 U Hv))) ?_
 refine Q1 U U (Xd U U (QJ h2)) (Ev.gd (Ql U QO (by first | assumption | exact j1.cell 0 U U))) ?_
 refine X9 U U (Xd U U (QJ h2)) (fun _=>(Ev.gd (XH U))) ?_
 refine X9 U U (Xd U U (QJ h2)) (fun _=>(Ev.gd (Hc U))) ?_
 refine X9 U U (Xd U U (QJ h2)) (fun _=>(Ev.gd (Z8 U YL))) ?_
 refine Q1 U U (Xd U U (QJ h2)) (Ev.gd (Ql U K8 (by first | assumption | exact j1.cell 0 U U))) ?_
 refine X9 U U (Xd U U (QJ h2)) (fun _=>(Ev.gd (UO underlying92 U))) ?_
 refine X9 U U (Xd U U (QJ h2)) (fun _=>(Ev.gd (Mg U U))) ?_
 refine X9 U U U (fun _=>(Yb U (QJ h2) U)) ?_
 refine VC.nil (Qc (Qh [1,0,4,5,21] U (Qu U (fun h3=> ?_) (fun h3=> ?_))))
 ·exact Qe (Qa (Qd U U (Qd U U (Qf (Qc (Qv (Qq (Jc (.inr U) U U U (⟨_,rfl,.inl ⟨by omega,rfl,WK hsl (j1.pick [0,1,2] U)⟩⟩)))))))))
 refine Qt (Qc (Qe ?_))
 have hSz:=WK hsl (j1.pick [0,1,2] U)
 refine Qa (Qb U U (Qy Ph U (MH (hSz.sp [0] U)) U ?_))
 rintro _ w4 ⟨rfl,j4⟩
 replace j4:=j4.jn U U
 clear hSz
 refine Qf (Qc (Qe ?_))
 have hul:=J2 sl
 obtain⟨sa,sc,du,re,hsl,hSo⟩:=YF (j4.pick [0,1] rfl)
 refine Qa (Qb U U (Qi U U (Qg U YL U (Qn U K8 (by first | assumption | exact hSo.cell 0 U U) U ?_))))
 refine Xv cal_217 U (six_sp (hSo.sp [] U) (Ent.starL (Hd (C:=stC) (l:=sl) (by omega)) 1 U) []) U ?_
 rintro e w5 ⟨_,rfl,(⟨rfl,hno,j5⟩ | ⟨k,rfl,hk,j5⟩)⟩
 ·exact absurd (Gx.1 (by have :=J2 sl;omega)) hno
 refine⟨_,U, ?_⟩
 replace j5:=j5.jn U U
 clear hSo
 refine Qd U U (Qf (Qc (Qh [1,0,4,5,6] U (Qe (Qa (Qb U U (Qi U U (Qg U YL U (Qn U K8 (by first | assumption | exact j5.cell 0 U U) U ?_)))))))))
 refine Qb U U (Qb U U (Xg stC 1 k j5 U U U (by first | rfl | omega) hk Dt U ?_))
 intro bx6 capx6 hvx6
 refine Wc 1 k page j5 U hvx6 U U sz_9 (by first | rfl | (simp;done)) (by first | omega | exact(XP hk).1) ?_
 intro w7 j8; dsimp only[List.set]at j8
 refine Qf (Qc (Qh [0,4,5,6] U (Qe (Qa (Qb U U (Qi U U (Qg U Hv U (Qn U QO (by first | assumption | exact j8.cell 0 U U) U ?_))))))))
 refine QN U U (by first | omega | (simp;omega)) (by first | omega | (simp;omega)) U ?_
 refine Qi U U (Qg U Hv U ?_)
 first | (refine Qx j8 U U WI (by first | rfl | assumption | exact j8.own_one 1 U) (i:=0) U (by first | decide | exact Q5 U | (simp;done) | omega) ?_)
 intro w9 j10; dsimp only[List.set]at j10
 refine Qf (Qc (Qh [4,5,6] U (Qe (Qa (Qb U U (Qd U U (Qd U U (Qf (Qc (Qv (Jc (.inr U) U U U ?_)))))))))))
 have hpn:page≠[]:= fun q=> by subst q; simp at hpl
 exact⟨_,rfl,.inr ⟨k,hk,rfl,WK (by rw[List.length_set]; exact hsl) (by rw[KP hk hpn,Int.natCast_add]; exact j10.pick [0,1,2] U)⟩⟩
theorem MK {w:World} {p:Nat} {sl:List Bs} {F:Th} (hS:Sat w [KF p sl,F]) (slot:Int):
    Calls prog 88 #[ptrV p 0,intV slot] w (Ret fun v w'=> ∃e,v= .tuple #[strV (G7 sl slot),intV e]∧Sat w' [KF p sl,F]):= by
 refine Qm func88 U ntmps88 U ?_
 refine Qe (Qa (Qd U U (Qd U U (Qf (Qc (Qe (Qe (Qa (Qb U U (Qb U U (Qy Pi U (MJ (hS.sp [0] U) slot) U ?_)))))))))))
 rintro _ w1 ⟨rfl,j1⟩
 replace j1:=j1.jn U U
 refine QV U U (Qf (Qc (QP U (fun h2=> ?_) (fun h2=> ?_))))
 ·refine Qe (Qa (Qd U U (Qd U U (Qf (Qc (Qv (Qq (Jc (.inr U) U U U ?_))))))))
  exact⟨_,rfl,_, by rw[show G7 sl slot=[] by unfold G7; rw[if_neg (by simp_all)]],j1.pick [0,1] U⟩
 have hh:Rj sl slot=true:= by simpa using h2
 obtain⟨h0,pg,hp,hpn⟩:=Tm hh
 refine Qt (Qc (Qe (Qa (Qb U U (Qy Ph U (MH (j1.sp [0] U)) U ?_)))))
 rintro _ w3 ⟨rfl,j3⟩
 replace j3:=j3.jn U U
 refine Qf (Qc (Qe ?_))
 have hul:=J2 sl
 obtain⟨sa,sc,du,re,hsl,hSo⟩:=YF (j3.pick [0,1] rfl)
 refine Qa (Qb U U (Qi U U (Qg U YL U (Qn U K8 (by first | assumption | exact hSo.cell 0 U U) U ?_))))
 refine Qb U U (Xg stC 1 slot.toNat hSo U U U (by omega) hp Dt U ?_)
 intro bx4 capx4 hvx4
 refine ZG 1 slot.toNat 0 hSo U hvx4 U U hp JN U U (Qd U U (Qd U U (Qf (Qc (Qh [4,5] U (Qv (Jc (.inr U) U U U ?_)))))))
 exact⟨_,rfl,_, by rw[show G7 sl slot=pg by unfold G7; rw[if_pos hh,hp];rfl],WK hsl (hSo.pick [0,1,2] U)⟩
theorem KT {w:World} {p:Nat} {sl:List Bs} {F:Th} (hS:Sat w [KF p sl,F]) (slot:Int):
    Calls prog 137 #[ptrV p 0,intV slot] w (Ret fun v w'=>v= .tuple #[]∧Sat w' [KF p (Vm sl slot),F]):= by
 refine Qm func137 U ntmps137 U ?_
 refine Qe (Qa (Qb U U (Qb U U (Qy Pi U (MJ (hS.sp [0] U) slot) U ?_))))
 rintro _ w1 ⟨rfl,j1⟩
 replace j1:=j1.jn U U
 refine Qf (Qc (QP U (fun h2=> ?_) (fun h2=> ?_)))
 ·have hh:Rj sl slot=true:= by simpa using h2
  obtain⟨h0,pg,hp,hpn⟩:=Tm hh
  refine Qe ?_
  have hul:=J2 sl
  obtain⟨sa,sc,du,re,hsl,hSo⟩:=YF (j1.pick [0,1] rfl)
  refine Qa (Qb U U (Qi U U (Qg U YL U (Qn U K8 (by first | assumption | exact hSo.cell 0 U U) U ?_))))
  refine Qb U U (Xg stC 1 slot.toNat hSo U U U (by omega) hp Dt U ?_)
  intro bx3 capx3 hvx3
  refine Wc 1 slot.toNat [] hSo U hvx3 U U sz_9 (by first | rfl | (simp;done)) (by first | omega | exact(XP hp).1) ?_
  intro w4 j5; dsimp only[List.set]at j5
  clear hSo
  refine Qf (Qc (Qh [0] U (Qa (Qb U U (Qi U U (Qg U Hv U (Qn U QO (by first | assumption | exact j5.cell 0 U U) U ?_)))))))
  refine VJ U U (by first | omega | (have :=HD hp hpn; have :=J2 sl;omega)) (by first | omega | (have :=HD hp hpn; have :=J2 sl;omega)) U ?_
  refine Qi U U (Qg U Hv U ?_)
  first | (refine Qx j5 U U WI (by first | rfl | assumption | exact j5.own_one 1 U) (i:=0) U (by first | decide | exact Q5 U | (simp;done) | omega) ?_)
  intro w6 j7; dsimp only[List.set]at j7
  refine Qf (ZT (.inl U) U ?_)
  exact⟨_,rfl,rfl, by rw[show Vm sl slot=sl.set slot.toNat [] by unfold Vm; rw[if_pos hh]]; exact WK (by rw[List.length_set]; exact hsl) (by rw[show((Wl (sl.set slot.toNat []):Nat):Int)=(Wl sl:Nat) -1 by have :=HD hp hpn;omega]; exact j7.pick [0,1,2] U)⟩
 refine Qt (ZT (.inl U) U ?_)
 exact⟨_,rfl,rfl, by rw[show Vm sl slot=sl by unfold Vm; rw[if_neg (by simp_all)]]; exact j1.pick [0,1] U⟩
theorem PA {w:World} {p:Nat} {sl:List Bs} {F:Th} (hS:Sat w [KF p sl,F]):
    Calls prog 216 #[ptrV p 0] w (Ret fun v w'=>v=intV (Wl sl:Nat)∧Sat w' [KF p sl,F]):= by
 obtain⟨sa,sc,du,re,hsl,hS⟩:=YF hS
 refine Qm func216 U ntmps216 U ?_
 refine Qe (Qa (Qd U U (Qf (Qc (Qe (Qa (Qb U U (Qi U U (Qg U Hv U (Qn U QO (by first | assumption | exact hS.cell 0 U U) U ?_))))))))))
 exact Qd U U (Qf (Qc (Qv (QM (.inr U) U U (⟨_,U,U,WK hsl (hS.pick [0,1,2] U)⟩)))))
theorem srow (m:Nat):(List.replicate m [strV []]).flatten=stC.cells (List.replicate m []):= by
  induction m with
  | zero=>rfl
  | succ m ih=> rw[List.replicate_succ,List.flatten_cons,ih,List.replicate_succ];rfl
theorem SY {w:World} {F:Th} (hS:Sat w [F]) (n:Int):
    Calls prog 43 #[intV n] w (Ret fun v w'=> ∃p,v=ptrV p 0∧Sat w' [KF p (List.replicate (max 0 (min n 4096)).toNat []),F]):= by
 refine Qm func43 U ntmps43 U ?_
 refine Qe (Qa (Qd U U (Qf (Qc (Qe (Qa (Qb U U (U4 U U U (JT U U U (D8 hS (max 0 (min n 4096)).toNat U U (by omega) underlying92 ifo_9 U (by omega) (by omega) U ?_))))))))))
 intro db w1 hS1a; have j1:=hS1a.row_cast (l:=List.replicate (max 0 (min n 4096)).toNat []) (C:=stC) (by simp) U (srow _)
 refine Zm U F6 asz_148 zr_148 U U (XV j1 U U U ?_)
 intro bp wbp hSbp
 refine Qd U U (Qf (Qc (Qv (QM (.inr U) U U ?_))))
 exact⟨_,rfl,_,rfl,WK (du:=0) (re:=0) (by rw[List.length_replicate];omega) (by rw[Cq]; exact hSbp.pick [0,1,2] U)⟩
end Go.Proofs.YtkgjmhcdacidoaaGreatDoor
namespace Go.Proofs.YtkgjmhcdacidoaaGreatDoor.M
open Go.RowKit Proofs.Tryz
section
variable {P:Program} {n:Nat} {ops:Array Oper} {Q:Exit→Act→World→Prop} {rest:List Oper} {L:Env} {w:World} {d:Nat} {ty:TypeId} {pos:String} {aft:Array Edge}
theorem SK {As:List Th} (i:Nat) (hS:Sat w As) {x y:Operand} {dT sT e b o off m m' cap size dl dc:Nat} {v:Value} {s:List UInt8} {xs xs':List Value} (hi:As[i]? =some (Ww v m size xs)) (hv:v= .slice (some ⟨b,o,none⟩) m' cap) (hx:look L x=some (.slice (some ⟨b,off,none⟩) dl dc)) (hy:look L y=some (strV s)) (hu:P.underlying dT=some (.slice e)) (hs:ZL P e=some 1) (hfit:off+min s.length dl≤xs.length)
    (hxs:Xo xs off (XX (s.take dl))=xs') (hd:Nat.blt d n=true) (hk: ∀w',Sat w' (As.set i (Ww v m size xs'))→wl P n ops Q rest ((d,.int .i64 ((min s.length dl:Nat):Int))::L) w'):wl P n ops Q (⟨some d,.call ⟨.builtin .copy, #[x,y], #[dT,sT]⟩,ty,pos,aft,none⟩::rest) L w:= by
  subst hxs
  obtain⟨sp,hb,hback⟩:=hS.own_row i hi hv
  refine X8 U hd (fun a ha=>BC dT sT x y U (ha.eval hx) (ha.eval hy) hb hu hs (by rw[VV]; simp;omega)) ?_
  rintro u w' ⟨rfl,h1,h2,_⟩
  rw[VV]
  have hl:off+(XX (s.take dl)).length≤xs.length:= by simp [XX];omega
  refine hk w' (hback w' _ (W7 hl) ?_ h2)
  rw[←Ju hl]
  exact h1
theorem ev_strR {As:List Th} (i:Nat) (hS:Sat w As) {x:Operand} {sT dT e b o off m m' cap size dl dc:Nat} {v:Value} (l:List UInt8) {xs:List Value} (hi:As[i]? =some (Ww v m size xs)) (hv:v= .slice (some ⟨b,o,none⟩) m' cap) (hx:look L x=some (.slice (some ⟨b,off,none⟩) dl dc)) (hs:P.underlying sT=some (.slice e)) (he:P.underlying e=some (.int .u8)) (hd:P.underlying dT=some .string) (hl:(xs.drop off).take dl=XX l) (hn:l.length=dl):Ev P L w ⟨some d,.convert sT dT x,ty,pos,aft,none⟩ (strV l):= fun ρ hρ=> by
  obtain⟨sp,hb,_⟩:=hS.own_row i hi hv
  subst hn
  have hr:=run_convert_bytes_back (P:=P) w sT dT e ⟨b,off,none⟩ dc l hs he hd (fun j hj=> by
    rw[ZD]
    refine hb.cell ?_
    have h1:=congrArg (fun q=>q[j]?) hl
    simp only[List.getElem?_take,hj,if_true,List.getElem?_drop,Br]at h1
    have hlt:off+j<xs.length:= by
      rcases Nat.lt_or_ge (off+j) xs.length with g | g
      · exact g
      · rw[List.getElem?_eq_none g,Zk hj]at h1; cases h1
    rw[List.getElem?_append_left hlt,h1,Zk hj];rfl)
  simp [execOp,hρ _ _ hx,hr]
theorem Gr {x y:Operand} {t e N b o sz:Nat} {k:IntKind} {i:Int} (hu:P.underlying t=some (.array N e)) (hN:Nat.blt 0 N=true) (hx:look L x=some (ptrV b o)) (hy:look L y=some (.int k i)) (hi:i=(N:Int)) (hs:ZL P e=some sz) (hd:Nat.blt d n=true) (hk:wl P n ops Q rest ((d,.slice (some ⟨b,o,none⟩) 0 0)::L) w):wl P n ops Q (⟨some d,.slice t x (some y) none none,ty,pos,aft,none⟩::rest) L w:=
  Xq hd (fun ρ hρ=> by
    have h3: ∀w,(sizeOf e).run P w= .ok sz w:= fun w=>Ze hs w
    have hn: ¬N=0:= by simp at hN;omega
    have hb:= fun w=>Vp (P:=P) false N N (some (.int k i)) none N N ⟨k, by rw[hi]⟩ U (Nat.le_refl _) (Nat.le_refl _) w
    simp [execOp,hρ _ _ hx,hρ _ _ hy,Instr.sliceAt,run_underlying hu,Instr.sureAddr,hb,h3,hn]) hk
end
