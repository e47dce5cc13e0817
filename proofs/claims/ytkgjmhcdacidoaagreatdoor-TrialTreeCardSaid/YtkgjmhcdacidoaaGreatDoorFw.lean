/- Closed facts of the program: offsets, sizes, zero values. -/
import Derived.Test.YtkgjmhcdacidoaaGreatDoorRow
import Derived.Test.YtkgjmhcdacidoaaGreatDoorMap
set_option linter.unusedVariables false
set_option maxRecDepth 100000
namespace Go.Proofs.YtkgjmhcdacidoaaGreatDoor
open Go.RowKit M Proofs.Tryz
theorem QM:Z5 prog 3=some false:= by kernel_rfl
theorem VU:Z5 prog 4=some false:= by kernel_rfl
theorem Yd:Z5 prog 9=some false:= by kernel_rfl
theorem Yw:Z5 prog 22=some false:= by kernel_rfl
theorem X5:Z5 prog 25=some false:= by kernel_rfl
theorem KN:Z5 prog 31=some false:= by kernel_rfl
theorem ZD:Z5 prog 75=some false:= by kernel_rfl
theorem Ye:Z5 prog 76=some false:= by kernel_rfl
theorem HM:Z5 prog 77=some false:= by kernel_rfl
theorem RG:Z5 prog 79=some false:= by kernel_rfl
theorem PS:Z5 prog 81=some false:= by kernel_rfl
theorem KM:Z5 prog 92=some false:= by kernel_rfl
theorem VV:Z5 prog 105=some false:= by kernel_rfl
theorem WN:Z5 prog 106=some false:= by kernel_rfl
theorem Ai:Z5 prog 107=some false:= by kernel_rfl
theorem WF:Z5 prog 110=some false:= by kernel_rfl
theorem R1:Z5 prog 111=some false:= by kernel_rfl
theorem X2:Z5 prog 115=some true:= by kernel_rfl
theorem JB:Z5 prog 118=some false:= by kernel_rfl
theorem Ah:Z5 prog 123=some false:= by kernel_rfl
theorem Ui:Z5 prog 144=some false:= by kernel_rfl
theorem WM:Z5 prog 149=some false:= by kernel_rfl
theorem Ag:Z5 prog 161=some true:= by kernel_rfl
theorem Uh:Z5 prog 176=some false:= by kernel_rfl
theorem ag_193:Z5 prog 193=some true:= by kernel_rfl
theorem NL:Z5 prog 194=some false:= by kernel_rfl
theorem Af:Z5 prog 249=some true:= by kernel_rfl
theorem asz_84:Jq prog 84=true:= by kernel_rfl
theorem asz_109:Jq prog 109=true:= by kernel_rfl
theorem asz_113:Jq prog 113=true:= by kernel_rfl
theorem MQ:Jq prog 115=true:= by kernel_rfl
theorem asz_120:Jq prog 120=true:= by kernel_rfl
theorem asz_146:Jq prog 146=true:= by kernel_rfl
theorem asz_148:Jq prog 148=true:= by kernel_rfl
theorem asz_151:Jq prog 151=true:= by kernel_rfl
theorem Hx:Jq prog 161=true:= by kernel_rfl
theorem asz_193:Jq prog 193=true:= by kernel_rfl
theorem MP:Jq prog 249=true:= by kernel_rfl
theorem NG:Q8 prog 33=true:= by kernel_rfl
theorem cal_42:Q8 prog 42=true:= by kernel_rfl
theorem cal_43:Q8 prog 43=true:= by kernel_rfl
theorem cal_44:Q8 prog 44=true:= by kernel_rfl
theorem B7:Q8 prog 54=true:= by kernel_rfl
theorem Hk:Q8 prog 55=true:= by kernel_rfl
theorem cal_56:Q8 prog 56=true:= by kernel_rfl
theorem NE:Q8 prog 57=true:= by kernel_rfl
theorem cal_58:Q8 prog 58=true:= by kernel_rfl
theorem ND:Q8 prog 59=true:= by kernel_rfl
theorem cal_60:Q8 prog 60=true:= by kernel_rfl
theorem cal_61:Q8 prog 61=true:= by kernel_rfl
theorem cal_62:Q8 prog 62=true:= by kernel_rfl
theorem MB:Q8 prog 63=true:= by kernel_rfl
theorem EK:Q8 prog 64=true:= by kernel_rfl
theorem EJ:Q8 prog 65=true:= by kernel_rfl
theorem cal_70:Q8 prog 70=true:= by kernel_rfl
theorem cal_71:Q8 prog 71=true:= by kernel_rfl
theorem cal_74:Q8 prog 74=true:= by kernel_rfl
theorem EG:Q8 prog 75=true:= by kernel_rfl
theorem NC:Q8 prog 76=true:= by kernel_rfl
theorem cal_77:Q8 prog 77=true:= by kernel_rfl
theorem cal_78:Q8 prog 78=true:= by kernel_rfl
theorem cal_79:Q8 prog 79=true:= by kernel_rfl
theorem EE:Q8 prog 85=true:= by kernel_rfl
theorem NB:Q8 prog 86=true:= by kernel_rfl
theorem NA:Q8 prog 87=true:= by kernel_rfl
theorem ED:Q8 prog 88=true:= by kernel_rfl
theorem EC:Q8 prog 89=true:= by kernel_rfl
theorem cal_90:Q8 prog 90=true:= by kernel_rfl
theorem EB:Q8 prog 92=true:= by kernel_rfl
theorem EA:Q8 prog 93=true:= by kernel_rfl
theorem E9:Q8 prog 94=true:= by kernel_rfl
theorem E8:Q8 prog 95=true:= by kernel_rfl
theorem N9:Q8 prog 96=true:= by kernel_rfl
theorem N8:Q8 prog 97=true:= by kernel_rfl
theorem cal_98:Q8 prog 98=true:= by kernel_rfl
theorem cal_99:Q8 prog 99=true:= by kernel_rfl
theorem cal_100:Q8 prog 100=true:= by kernel_rfl
theorem PL:Q8 prog 101=true:= by kernel_rfl
theorem cal_102:Q8 prog 102=true:= by kernel_rfl
theorem cal_103:Q8 prog 103=true:= by kernel_rfl
theorem Uf:Q8 prog 104=true:= by kernel_rfl
theorem cal_107:Q8 prog 107=true:= by kernel_rfl
theorem Gz:Q8 prog 110=true:= by kernel_rfl
theorem cal_113:Q8 prog 113=true:= by kernel_rfl
theorem PK:Q8 prog 114=true:= by kernel_rfl
theorem ML:Q8 prog 115=true:= by kernel_rfl
theorem cal_116:Q8 prog 116=true:= by kernel_rfl
theorem PJ:Q8 prog 117=true:= by kernel_rfl
theorem cal_119:Q8 prog 119=true:= by kernel_rfl
theorem Gy:Q8 prog 120=true:= by kernel_rfl
theorem Gx:Q8 prog 121=true:= by kernel_rfl
theorem PI:Q8 prog 122=true:= by kernel_rfl
theorem MK:Q8 prog 123=true:= by kernel_rfl
theorem MJ:Q8 prog 124=true:= by kernel_rfl
theorem PH:Q8 prog 125=true:= by kernel_rfl
theorem PG:Q8 prog 126=true:= by kernel_rfl
theorem PF:Q8 prog 127=true:= by kernel_rfl
theorem PE:Q8 prog 128=true:= by kernel_rfl
theorem cal_129:Q8 prog 129=true:= by kernel_rfl
theorem cal_132:Q8 prog 132=true:= by kernel_rfl
theorem MI:Q8 prog 134=true:= by kernel_rfl
theorem Gw:Q8 prog 135=true:= by kernel_rfl
theorem cal_136:Q8 prog 136=true:= by kernel_rfl
theorem MH:Q8 prog 137=true:= by kernel_rfl
theorem cal_138:Q8 prog 138=true:= by kernel_rfl
theorem cal_151:Q8 prog 151=true:= by kernel_rfl
theorem cal_153:Q8 prog 153=true:= by kernel_rfl
theorem cal_154:Q8 prog 154=true:= by kernel_rfl
theorem cal_155:Q8 prog 155=true:= by kernel_rfl
theorem Ve:Q8 prog 156=true:= by kernel_rfl
theorem KF:Q8 prog 157=true:= by kernel_rfl
theorem KE:Q8 prog 158=true:= by kernel_rfl
theorem PD:Q8 prog 159=true:= by kernel_rfl
theorem cal_160:Q8 prog 160=true:= by kernel_rfl
theorem cal_161:Q8 prog 161=true:= by kernel_rfl
theorem cal_162:Q8 prog 162=true:= by kernel_rfl
theorem cal_165:Q8 prog 165=true:= by kernel_rfl
theorem cal_166:Q8 prog 166=true:= by kernel_rfl
theorem MF:Q8 prog 167=true:= by kernel_rfl
theorem PC:Q8 prog 182=true:= by kernel_rfl
theorem cal_183:Q8 prog 183=true:= by kernel_rfl
theorem cal_184:Q8 prog 184=true:= by kernel_rfl
theorem PB:Q8 prog 185=true:= by kernel_rfl
theorem cal_187:Q8 prog 187=true:= by kernel_rfl
theorem PA:Q8 prog 188=true:= by kernel_rfl
theorem MD:Q8 prog 197=true:= by kernel_rfl
theorem cal_203:Q8 prog 203=true:= by kernel_rfl
theorem cal_204:Q8 prog 204=true:= by kernel_rfl
theorem cal_205:Q8 prog 205=true:= by kernel_rfl
theorem KC:Q8 prog 206=true:= by kernel_rfl
theorem cal_207:Q8 prog 207=true:= by kernel_rfl
theorem P9:Q8 prog 208=true:= by kernel_rfl
theorem MC:Q8 prog 209=true:= by kernel_rfl
theorem cal_214:Q8 prog 214=true:= by kernel_rfl
theorem cal_215:Q8 prog 215=true:= by kernel_rfl
theorem cal_216:Q8 prog 216=true:= by kernel_rfl
theorem cal_217:Q8 prog 217=true:= by kernel_rfl
theorem cal_219:Q8 prog 219=true:= by kernel_rfl
theorem Un:Ya prog 22=some 1:= by kernel_rfl
theorem DJ:Ya prog 92=some 1:= by kernel_rfl
theorem U8:Ya prog 123=some 2:= by kernel_rfl
theorem U7:Ya prog 144=some 65:= by kernel_rfl
theorem Y2:Ya prog 149=some 4:= by kernel_rfl
theorem Ei:Ya prog 176=some 1:= by kernel_rfl
theorem XR:Xb prog 84 0=some 0:= by kernel_rfl
theorem Ua:Xb prog 84 1=some 1:= by kernel_rfl
theorem WR:Xb prog 84 2=some 2:= by kernel_rfl
theorem Jl:Xb prog 84 3=some 3:= by kernel_rfl
theorem Hv:Xb prog 84 4=some 4:= by kernel_rfl
theorem Gk:Xb prog 84 5=some 5:= by kernel_rfl
theorem fo_84_6:Xb prog 84 6=some 6:= by kernel_rfl
theorem P1:Xb prog 84 7=some 7:= by kernel_rfl
theorem Mx:Xb prog 84 8=some 8:= by kernel_rfl
theorem P0:Xb prog 84 9=some 9:= by kernel_rfl
theorem Zx:Xb prog 109 0=some 0:= by kernel_rfl
theorem HC:Xb prog 109 1=some 1:= by kernel_rfl
theorem ZJ:Xb prog 109 2=some 2:= by kernel_rfl
theorem TX:Xb prog 109 4=some 4:= by kernel_rfl
theorem WZ:Xb prog 113 0=some 0:= by kernel_rfl
theorem ZI:Xb prog 113 1=some 1:= by kernel_rfl
theorem U5:Xb prog 113 2=some 2:= by kernel_rfl
theorem JZ:Xb prog 115 0=some 0:= by kernel_rfl
theorem K8:Xb prog 115 1=some 1:= by kernel_rfl
theorem K7:Xb prog 120 0=some 0:= by kernel_rfl
theorem W4:Xb prog 120 1=some 1:= by kernel_rfl
theorem HB:Xb prog 120 2=some 2:= by kernel_rfl
theorem Wo:Xb prog 120 3=some 3:= by kernel_rfl
theorem JY:Xb prog 146 0=some 0:= by kernel_rfl
theorem K6:Xb prog 146 1=some 1:= by kernel_rfl
theorem Hh:Xb prog 148 0=some 0:= by kernel_rfl
theorem HA:Xb prog 148 1=some 1:= by kernel_rfl
theorem TW:Xb prog 148 2=some 2:= by kernel_rfl
theorem TV:Xb prog 148 3=some 3:= by kernel_rfl
theorem ZA:Xb prog 151 0=some 0:= by kernel_rfl
theorem Yu:Xb prog 151 1=some 1:= by kernel_rfl
theorem K5:Xb prog 151 2=some 2:= by kernel_rfl
theorem U4:Xb prog 151 3=some 3:= by kernel_rfl
theorem Bu:Xb prog 151 4=some 4:= by kernel_rfl
theorem WY:Xb prog 161 0=some 0:= by kernel_rfl
theorem Yt:Xb prog 161 1=some 1:= by kernel_rfl
theorem JX:Xb prog 161 2=some 2:= by kernel_rfl
theorem Bt:Xb prog 161 3=some 3:= by kernel_rfl
theorem Br:Xb prog 193 0=some 0:= by kernel_rfl
theorem K4:Xb prog 193 1=some 1:= by kernel_rfl
theorem K3:Xb prog 196 0=some 0:= by kernel_rfl
theorem JW:Xb prog 196 1=some 1:= by kernel_rfl
theorem K2:Xb prog 249 0=some 0:= by kernel_rfl
theorem H9:Xb prog 249 1=some 1:= by kernel_rfl
theorem Bq:Xb prog 249 2=some 2:= by kernel_rfl
theorem K1:Xb prog 249 3=some 3:= by kernel_rfl
theorem Ku:Ud prog 161 0=some (0,none):= by kernel_rfl
theorem TO:Ud prog 161 3=some (3,none):= by kernel_rfl
theorem TH:(prog.info? 3).map (fun i=>(i.zero,i.size,i.bytes))=some (some (.int .i64 0),1,8):= by kernel_rfl
theorem ifo_5:(prog.info? 5).map (fun i=>(i.zero,i.size,i.bytes))=some (some (.int .u8 0),1,1):= by kernel_rfl
theorem ifo_9:(prog.info? 9).map (fun i=>(i.zero,i.size,i.bytes))=some (some (.string ⟨#[]⟩),1,16):= by kernel_rfl
theorem ifo_115:(prog.info? 115).map (fun i=>(i.zero,i.size,i.bytes))=some (some (.agg #[(.string ⟨#[]⟩),(.int .i64 0)]),2,24):= by kernel_rfl
theorem ifo_193:(prog.info? 193).map (fun i=>(i.zero,i.size,i.bytes))=some (some (.agg #[(.bool false),(.int .u8 0),(.int .u8 0),(.int .u8 0),(.int .u8 0),(.int .u8 0),(.int .u8 0),(.int .u8 0),(.int .u8 0),(.int .u8 0),(.int .u8 0),(.int .u8 0),(.int .u8 0),(.int .u8 0),(.int .u8 0),(.int .u8 0),(.int .u8 0),(.int .u8 0),(.int .u8 0),(.int .u8 0),(.int .u8 0),(.int .u8 0),(.int .u8 0),(.int .u8 0),(.int .u8 0),(.int .u8 0),(.int .u8 0),(.int .u8 0),(.int .u8 0),(.int .u8 0),(.int .u8 0),(.int .u8 0),(.int .u8 0),(.int .u8 0),(.int .u8 0),(.int .u8 0),(.int .u8 0),(.int .u8 0),(.int .u8 0),(.int .u8 0),(.int .u8 0),(.int .u8 0),(.int .u8 0),(.int .u8 0),(.int .u8 0),(.int .u8 0),(.int .u8 0),(.int .u8 0),(.int .u8 0),(.int .u8 0),(.int .u8 0),(.int .u8 0),(.int .u8 0),(.int .u8 0),(.int .u8 0),(.int .u8 0),(.int .u8 0),(.int .u8 0),(.int .u8 0),(.int .u8 0),(.int .u8 0),(.int .u8 0),(.int .u8 0),(.int .u8 0),(.int .u8 0)]),65,65):= by kernel_rfl
theorem ifo_249:(prog.info? 249).map (fun i=>(i.zero,i.size,i.bytes))=some (some (.agg #[(.bool false),(.bool false),(.bool false),(.int .i64 0)]),4,16):= by kernel_rfl
theorem Bl:(prog.info? 3).map (fun i=>(i.zero,i.size))=some (some (.int .i64 0),1):= by kernel_rfl
theorem ifz_5:(prog.info? 5).map (fun i=>(i.zero,i.size))=some (some (.int .u8 0),1):= by kernel_rfl
theorem ifz_9:(prog.info? 9).map (fun i=>(i.zero,i.size))=some (some (.string ⟨#[]⟩),1):= by kernel_rfl
theorem ifz_115:(prog.info? 115).map (fun i=>(i.zero,i.size))=some (some (.agg #[(.string ⟨#[]⟩),(.int .i64 0)]),2):= by kernel_rfl
theorem ZW:prog.follows .mixedOrders=true:= by kernel_rfl
theorem Uo:XS prog 84 [0,1,3,4,5,6,7,8]=some [(0,1),(1,1),(3,1),(4,1),(5,1),(6,1),(7,1),(8,1)]:= by kernel_rfl
theorem Bb:XS prog 109 [0,1,2,4]=some [(0,1),(1,1),(2,1),(4,1)]:= by kernel_rfl
theorem Mo:XS prog 113 [0,1,2]=some [(0,1),(1,1),(2,1)]:= by kernel_rfl
theorem Pe:XS prog 115 []=some []:= by kernel_rfl
theorem Nh:XS prog 115 [0,1]=some [(0,1),(1,1)]:= by kernel_rfl
theorem Ng:XS prog 120 [0,1]=some [(0,1),(1,1)]:= by kernel_rfl
theorem Lp:XS prog 146 [0]=some [(0,1)]:= by kernel_rfl
theorem Lo:XS prog 148 [0]=some [(0,1)]:= by kernel_rfl
theorem Ba:XS prog 151 [0,2,3,4]=some [(0,1),(2,1),(3,1),(4,1)]:= by kernel_rfl
theorem WE:XS prog 161 [0,1,2]=some [(0,1),(1,1),(2,1)]:= by kernel_rfl
theorem Mn:XS prog 161 [0,1,3]=some [(0,1),(1,1),(3,1)]:= by kernel_rfl
theorem Ln:XS prog 193 [0]=some [(0,1)]:= by kernel_rfl
theorem pl_249_:XS prog 249 []=some []:= by kernel_rfl
theorem GZ:XS prog 249 [0,3]=some [(0,1),(3,1)]:= by kernel_rfl
theorem Js:ZO prog 3=some 1:= by kernel_rfl
theorem Ki:ZO prog 4=some 1:= by kernel_rfl
theorem Tc:ZO prog 5=some 1:= by kernel_rfl
theorem sz_9:ZO prog 9=some 1:= by kernel_rfl
theorem ZM:ZO prog 22=some 1:= by kernel_rfl
theorem Zn:ZO prog 31=some 1:= by kernel_rfl
theorem sz_76:ZO prog 76=some 1:= by kernel_rfl
theorem sz_92:ZO prog 92=some 1:= by kernel_rfl
theorem Xf:ZO prog 115=some 2:= by kernel_rfl
theorem GO:ZO prog 118=some 1:= by kernel_rfl
theorem sz_123:ZO prog 123=some 1:= by kernel_rfl
theorem Zc:ZO prog 161=some 4:= by kernel_rfl
theorem FP:ZO prog 176=some 1:= by kernel_rfl
theorem FO:ZO prog 193=some 65:= by kernel_rfl
theorem sz_194:ZO prog 194=some 1:= by kernel_rfl
theorem HT:ZO prog 249=some 4:= by kernel_rfl
theorem Hm:XQ prog 3=some (some (.int .i64 0)):= by kernel_rfl
theorem zr_4:XQ prog 4=some (some (.bool false)):= by kernel_rfl
theorem zr_5:XQ prog 5=some (some (.int .u8 0)):= by kernel_rfl
theorem zr_22:XQ prog 22=some (some (.slice none 0 0)):= by kernel_rfl
theorem zr_31:XQ prog 31=some (some (.int .i64 0)):= by kernel_rfl
theorem zr_84:XQ prog 84=some (some (.agg #[(.map none),(.map none),(.slice none 0 0),(.pointer none),(.pointer none),(.pointer none),(.int .i64 0),(.int .i64 0),(.int .i64 0),(.slice none 0 0)])):= by kernel_rfl
theorem Yf:XQ prog 104=some (some (.pointer none)):= by kernel_rfl
theorem zr_109:XQ prog 109=some (some (.agg #[(.pointer none),(.map none),(.map none),(.int .i64 0),(.map none)])):= by kernel_rfl
theorem zr_113:XQ prog 113=some (some (.agg #[(.int .i64 0),(.map none),(.map none)])):= by kernel_rfl
theorem WK:XQ prog 115=some (some (.agg #[(.string ⟨#[]⟩),(.int .i64 0)])):= by kernel_rfl
theorem Yz:XQ prog 116=some (some (.pointer none)):= by kernel_rfl
theorem zr_120:XQ prog 120=some (some (.agg #[(.int .i64 0),(.int .i64 0),(.int .u64 0),(.int .u64 0)])):= by kernel_rfl
theorem zr_146:XQ prog 146=some (some (.agg #[(.slice none 0 0),(.int .i64 0)])):= by kernel_rfl
theorem zr_148:XQ prog 148=some (some (.agg #[(.slice none 0 0),(.int .i64 0),(.int .i64 0),(.int .i64 0)])):= by kernel_rfl
theorem zr_151:XQ prog 151=some (some (.agg #[(.slice none 0 0),(.int .i64 0),(.map none),(.map none),(.map none)])):= by kernel_rfl
theorem X9:XQ prog 161=some (some (.agg #[(.int .i64 0),(.int .i64 0),(.int .i64 0),(.string ⟨#[]⟩)])):= by kernel_rfl
theorem zr_193:XQ prog 193=some (some (.agg #[(.bool false),(.int .u8 0),(.int .u8 0),(.int .u8 0),(.int .u8 0),(.int .u8 0),(.int .u8 0),(.int .u8 0),(.int .u8 0),(.int .u8 0),(.int .u8 0),(.int .u8 0),(.int .u8 0),(.int .u8 0),(.int .u8 0),(.int .u8 0),(.int .u8 0),(.int .u8 0),(.int .u8 0),(.int .u8 0),(.int .u8 0),(.int .u8 0),(.int .u8 0),(.int .u8 0),(.int .u8 0),(.int .u8 0),(.int .u8 0),(.int .u8 0),(.int .u8 0),(.int .u8 0),(.int .u8 0),(.int .u8 0),(.int .u8 0),(.int .u8 0),(.int .u8 0),(.int .u8 0),(.int .u8 0),(.int .u8 0),(.int .u8 0),(.int .u8 0),(.int .u8 0),(.int .u8 0),(.int .u8 0),(.int .u8 0),(.int .u8 0),(.int .u8 0),(.int .u8 0),(.int .u8 0),(.int .u8 0),(.int .u8 0),(.int .u8 0),(.int .u8 0),(.int .u8 0),(.int .u8 0),(.int .u8 0),(.int .u8 0),(.int .u8 0),(.int .u8 0),(.int .u8 0),(.int .u8 0),(.int .u8 0),(.int .u8 0),(.int .u8 0),(.int .u8 0),(.int .u8 0)])):= by kernel_rfl
theorem F8:XQ prog 196=some (some (.agg #[(.pointer none),(.slice none 0 0)])):= by kernel_rfl
theorem G3:XQ prog 249=some (some (.agg #[(.bool false),(.bool false),(.bool false),(.int .i64 0)])):= by kernel_rfl
abbrev Bytes:=List UInt8
structure DS where
  F:Int→Bytes×Bytes
  Q:List (Int×Int)
  lost:Int
  down:Bool
  armed:Int
  keep:List Int
def Lj (F:Int→Bytes×Bytes) (f:Int) (x:Bytes×Bytes):Int→Bytes×Bytes:= fun k=> if k=f then x else F k
structure DInv (D:DS):Prop where
  now: ∀k,(D.F k).1.length≤16777216
  last: ∀k,(D.F k).2.length≤16777216
  nodup:D.Q.Nodup
  secs: ∀p∈D.Q,(0≤p.1∧p.1<16)∧0≤p.2∧p.2≤262144
  lost:0≤D.lost∧D.lost≤9223372036854775807
  armed:0≤D.armed∧D.armed≤9223372036854775807
structure DL where
  bf:Nat
  bs:Nat
  qv:Value
def inC:RowC Int:=⟨fun x=>[intV x],1, by decide, fun _=>rfl, fun _=>rfl⟩
def VI:List (Int×Bytes×Bytes)→Int→Bytes×Bytes
  | [],_=>([],[])
  | x::l,f=> if x.1=f then x.2 else VI l f
structure RInv (l:List (Int×Bytes×Bytes)) (D:DS):Prop where
  inv:DInv D
  says: ∀k,VI l k=D.F k
  num: ∀x∈l,0≤x.1∧x.1<16
  nodup:(l.map (·.1)).Nodup
structure RL where
  fv:Value
  qv:Value
  l:List (Int×Bytes×Bytes)
theorem LW {l m:List (Int×Bytes×Bytes)} {f:Int} (h: ∀x∈l,x.1≠f):VI (l++m) f=VI m f:= by
  induction l with
  | nil=>rfl
  | cons x l ih=> rw[List.cons_append,VI,if_neg (h x (by simp)),ih fun y hy=>h y (by simp [hy])]
theorem TN {l:List (Int×Bytes×Bytes)} {f k:Int} (h:k≠f) (m:List (Int×Bytes×Bytes)) (hm:VI m k=([],[])):VI (l.filter (fun x=>decide (x.1≠f))++m) k=VI l k:= by
  induction l with
  | nil=> exact hm
  | cons x l ih=>
    by_cases e:x.1=f
    · rw[List.filter_cons_of_neg (by simp [e]),ih,VI,if_neg (by omega)]
    · rw[List.filter_cons_of_pos (by simp [e]),List.cons_append,VI,VI,ih]
def putR (l:List (Int×Bytes×Bytes)) (x:Int×Bytes×Bytes):List (Int×Bytes×Bytes):=l.filter (fun y=>decide (y.1≠x.1))++[x]
theorem Sx {l:List (Int×Bytes×Bytes)} {F:Int→Bytes×Bytes} (h: ∀k,VI l k=F k) (x:Int×Bytes×Bytes) (k:Int):VI (putR l x) k=Lj F x.1 x.2 k:= by
  unfold putR Lj
  by_cases e:k=x.1
  · subst e
    rw[LW (fun y hy=> by simpa using(List.mem_filter.1 hy).2),if_pos U]
    simp [VI]
  · rw[TN e [x] (by rw[VI,if_neg (Ne.symm e)];rfl),if_neg e]; exact h k
theorem RInv.put {l:List (Int×Bytes×Bytes)} {D:DS} (h:RInv l D) (k:Int) (a b:Bytes) (hk:0≤k∧k<16) (ha:a.length≤16777216) (hb:b.length≤16777216):RInv (putR l (k,a,b)) {D with F:=Lj D.F k (a,b)}:= by
  refine⟨{h.inv with now:= fun j=> ?_,last:= fun j=> ?_},Sx h.says (k,a,b), fun x hx=> ?_, ?_⟩
  · simp only[Lj];split
    · exact ha
    · exact h.inv.now j
  · simp only[Lj];split
    · exact hb
    · exact h.inv.last j
  · rcases List.mem_append.1 hx with q | q
    · exact h.num x (List.mem_filter.1 q).1
    · simp at q; subst q; exact hk
  · unfold putR
    rw[List.map_append]
    refine List.nodup_append.2 ⟨(h.nodup.sublist (List.filter_sublist.map _)), by simp, ?_⟩
    intro x hx y hy e
    obtain⟨z,hz,rfl⟩:=List.mem_map.1 hx
    simp at hy
    have :=(List.mem_filter.1 hz).2
    simp at this
    exact this (e.trans hy)
theorem RInv.count {l:List (Int×Bytes×Bytes)} {D:DS} (h:RInv l D):l.length≤16:= by
  have hs: ∀x∈(l.map (·.1)).map Int.toNat,x∈List.range 16:= by
    intro x hx
    obtain⟨y,hy,rfl⟩:=List.mem_map.1 hx
    obtain⟨z,hz,rfl⟩:=List.mem_map.1 hy
    have :=h.num z hz
    simp;omega
  have hm:((l.map (·.1)).map Int.toNat).Nodup:= by
    refine List.pairwise_map.2 (h.nodup.imp_of_mem ?_)
    intro a b ha hb hne e
    obtain⟨z,hz,rfl⟩:=List.mem_map.1 ha
    obtain⟨y,hy,rfl⟩:=List.mem_map.1 hb
    have :=h.num z hz; have :=h.num y hy
    exact hne (by omega)
  have :=List.Nodup.length_le_of_subset hm hs
  simpa using this
theorem RInv.upd {l:List (Int×Bytes×Bytes)} {D D':DS} (h:RInv l D) (hF:D'.F=D.F) (hi:DInv D'):RInv l D':=⟨hi, fun k=> by rw[hF]; exact h.says k,h.num,h.nodup⟩
end Go.Proofs.YtkgjmhcdacidoaaGreatDoor
namespace Go.Proofs.YtkgjmhcdacidoaaGreatDoor.M
open Go.RowKit Proofs.Tryz
section
variable {P:Program} {n:Nat} {ops:Array Oper} {Q:Exit→Act→World→Prop} {rest:List Oper} {L:Env} {w:World} {d:Nat} {ty:TypeId} {pos:String} {aft:Array Edge} {As:List Th}
theorem R2 {x:Operand} {t e N b o sz:Nat} (hu:P.underlying t=some (.array N e)) (hN:Nat.blt 0 N=true) (hx:look L x=some (ptrV b o)) (hs:ZO P e=some sz) (hd:Nat.blt d n=true) (hk:wl P n ops Q rest ((d,.slice (some ⟨b,o,none⟩) N N)::L) w):wl P n ops Q (⟨some d,.slice t x none none none,ty,pos,aft,none⟩::rest) L w:=
  Xv hd (fun ρ hρ=> by
    have h3: ∀w,(sizeOf e).run P w= .ok sz w:= fun w=>Zm hs w
    have hn: ¬N=0:= by simp at hN;omega
    simp [execOp,hρ _ _ hx,Instr.sliceAt,run_underlying hu,Instr.sureAddr,Instr.sliceBounds,h3,hn]
    simp [Addr.add]) hk
end
theorem VG (l:List Int):inC.cells l=l.map intV:= by
  induction l with
  | nil=>rfl
  | cons a l ih=> simp only[RowC.cells,List.flatMap_cons,List.map_cons]at ih⊢; rw[ih];rfl
def H2 (sz:Nat) (v:Value) (A B:Nat):Value:= match v with
  | .slice a _ cap=> .slice (if cap=A then a else a.map fun p=>p.add (A*sz)) (B -A) (cap -A)
  | v=>v
section
variable {P:Program} {n:Nat} {ops:Array Oper} {Q:Exit→Act→World→Prop} {rest:List Oper} {L:Env} {w:World} {d:Nat} {ty:TypeId} {pos:String} {aft:Array Edge}
theorem ev_view {x:Operand} {t e m cap sz:Nat} {a:Option Addr} {lo hi:Option Operand} (A B:Nat) (hu:P.underlying t=some (.slice e)) (hs:ZO P e=some sz) (hx:look L x=some (.slice a m cap)) (hlo:bndL L lo 0 A) (hhi:bndL L hi m B) (h1:A≤B) (h2:B≤cap):
    Ev P L w ⟨some d,.slice t x lo hi none,ty,pos,aft,none⟩ (H2 sz (.slice a m cap) A B):= fun ρ hρ=> by
  have hb:=VD (P:=P) true m cap _ _ A B (hlo.val hρ) (hhi.val hρ) h1 h2 w
  simp only[execOp,hρ _ _ hx]
  simp [Instr.sliceAt,Instr.slice,run_underlying hu,hb,Zm hs,H2]
theorem RY {x:Operand} {t e m cap sz:Nat} {a:Option Addr} {lo hi:Option Operand} (A B:Nat) (hu:P.underlying t=some (.slice e)) (hs:ZO P e=some sz) (hx:look L x=some (.slice a m cap)) (hlo:bndL L lo 0 A) (hhi:bndL L hi m B) (h1:A≤B) (h2:B≤cap) (hd:Nat.blt d n=true)
    (hk:wl P n ops Q rest ((d,H2 sz (.slice a m cap) A B)::L) w):wl P n ops Q (⟨some d,.slice t x lo hi none,ty,pos,aft,none⟩::rest) L w:=Xv hd (ev_view A B hu hs hx hlo hhi h1 h2) hk
end
theorem Dc {sz b o m cap A B:Nat} (h:A<cap):H2 sz (.slice (some ⟨b,o,none⟩) m cap) A B= .slice (some ⟨b,o+A*sz,none⟩) (B -A) (cap -A):= by
  unfold H2
  dsimp only
  rw[if_neg (by omega),Option.map_some,ZL]
section
variable {α:Type} {C:RowC α} {l:List α} {w:World}
theorem RdL.view {a:Option Addr} {m cap A B:Nat} (h:RdL C (.slice a m cap) l w) (hc:m≤cap) (h1:A≤B) (h2:B≤l.length):RdL C (H2 C.size (.slice a m cap) A B) ((l.take B).drop A) w:= by
  obtain⟨ao,cap',e1,e2,e3⟩:=h
  cases e1
  have hl:((l.take B).drop A).length=B -A:= by rw[List.length_drop,List.length_take];omega
  refine⟨_,_, by rw[hl];rfl, by omega, fun i x hx=> ?_⟩
  have hi:=(XL hx).1
  rw[List.getElem?_drop,List.getElem?_take,if_pos (by omega)]at hx
  obtain⟨b,off,rfl,hcell⟩:=e3 _ _ hx
  refine⟨b,off+A*C.size, by rw[if_neg (by omega),Option.map_some,ZL], fun j u hu=> ?_⟩
  have :=hcell j u hu
  rw[Nat.add_mul]at this
  rw[show off+A*C.size+i*C.size+j=off+(A*C.size+i*C.size)+j by omega]
  exact this
theorem Cc {a:Option Addr} {cap A B:Nat} (hl:l.length≤9223372036854775807) (h1:A≤B) (h2:B≤l.length) (hc:l.length≤cap):Ent (rowT C (.slice a l.length cap) l) (RdL C (H2 C.size (.slice a l.length cap) A B) ((l.take B).drop A)):= fun h=>(YD hl h).view hc h1 h2
theorem RdL.at_ {b off m cap i:Nat} {a:α} (h:RdL C (.slice (some ⟨b,off,none⟩) m cap) l w) (ha:l[i]? =some a): ∀(j:Nat) (u:Value),(C.enc a)[j]? =some u→w.cell? ⟨b,off+i*C.size+j,none⟩=some u:= by
  obtain⟨b',off',e,h2⟩:=h.get ha
  cases e
  exact h2
end
end Go.Proofs.YtkgjmhcdacidoaaGreatDoor.M
namespace Go.Proofs.YtkgjmhcdacidoaaGreatDoor
open Go.RowKit M Proofs.Tryz
def Wt (sl:List Bs):Nat:=(sl.filter fun p=> !decide (p=[])).length
def Ru (sl:List Bs) (slot:Int):Bool:=decide (0≤slot)&&(match sl[slot.toNat]? with | some p=> !decide (p=[]) | none=>false)
theorem JH (sl:List Bs):Wt sl≤sl.length:=List.length_filter_le _ _
theorem KZ: ∀{sl:List Bs} {k:Nat} {p:Bs},sl[k]? =some []→p≠[]→Wt (sl.set k p)=Wt sl+1
  | [],_,_,h,_=> by simp at h
  | a::sl,0,p,h,hp=> by
    simp at h; subst h
    unfold Wt; simp [hp]
  | a::sl,k+1,p,h,hp=> by
    have :=KZ (sl:=sl) (k:=k) (by simpa using h) hp
    unfold Wt at this⊢
    rw[List.set_cons_succ,List.filter_cons,List.filter_cons]
    split
    · rw[List.length_cons,List.length_cons,this]
    · exact this
theorem HQ: ∀{sl:List Bs} {k:Nat} {p:Bs},sl[k]? =some p→p≠[]→Wt (sl.set k [])+1=Wt sl
  | [],_,_,h,_=> by simp at h
  | a::sl,0,p,h,hp=> by
    simp at h; subst h
    unfold Wt; simp [hp]
  | a::sl,k+1,p,h,hp=> by
    have :=HQ (sl:=sl) (k:=k) (by simpa using h) hp
    unfold Wt at this⊢
    rw[List.set_cons_succ,List.filter_cons,List.filter_cons]
    split
    · rw[List.length_cons,List.length_cons,←this]
    · exact this
theorem GE {sl:List Bs}:Wt sl<sl.length↔[]∈sl:= by
  unfold Wt
  induction sl with
  | nil=> simp
  | cons a sl ih=>
    have hle:=JH sl
    unfold Wt at hle
    by_cases ha:a=[]
    · subst ha
      rw[List.filter_cons,if_neg (by simp),List.length_cons]
      exact⟨fun _=>List.mem_cons_self, fun _=> by omega⟩
    · rw[List.filter_cons,if_pos (by simp [ha]),List.length_cons,List.length_cons,List.mem_cons]
      constructor
      · intro h; exact .inr (ih.1 (by omega))
      · rintro(h | h)
        · exact absurd h.symm ha
        · have :=ih.2 h;omega
theorem CO (m:Nat):Wt (List.replicate m [])=0:= by unfold Wt; simp
def KR (p:Nat) (sl:List Bs):Th:=CH fun q:Value×Int×Int=>starL [JN (sl.length≤4096),QE p [q.1,intV (Wt sl:Nat),intV q.2.1,intV q.2.2],rowT stC q.1 sl]
theorem YZ {w:World} {p:Nat} {sl:List Bs} {As:List Th} (h:Sat w (KR p sl::As)): ∃ao cap du re,sl.length≤4096∧Sat w (QE p [.slice ao sl.length cap,intV (Wt sl:Nat),intV du,intV re]::rowT stC (.slice ao sl.length cap) sl::As):= by
  obtain⟨⟨v,du,re⟩,h⟩:=h.ex
  obtain⟨h1,h2⟩:=h.flat.pure_elim
  obtain⟨ao,cap,hv,_⟩:=Sat.own_shape (As:=QE p _::rowT stC v sl::As) h2 1 rfl
  obtain rfl:=hv
  exact⟨ao,cap,du,re,h1,h2⟩
theorem WV {w:World} {p:Nat} {sl:List Bs} {As:List Th} {v:Value} {du re:Int} (hl:sl.length≤4096) (h:Sat w (QE p [v,intV (Wt sl:Nat),intV du,intV re]::rowT stC v sl::As)):Sat w (KR p sl::As):=
  Sat.ex_intro (v,du,re) (Sat.fold (As:=[JN (sl.length≤4096),QE p _,rowT stC v sl]) (Sat.pure_intro hl h))
theorem Td {w:World} {p:Nat} {sl:List Bs} {F:Th} (hS:Sat w [KR p sl,F]):
    Calls prog 126 #[ptrV p 0] w (Ret fun v w'=>v= .tuple #[]∧Sat w' [KR p sl,F]):= by
 obtain⟨sa,sc,du,re,hsl,hS⟩:=YZ hS
 refine Qn func126 U ntmps126 U ?_
 refine Qe ?_
 have j1:=hS.drew
 refine QH [0,1,2,3,4,5,6,7,8,9,10,11] [11] ZW (by kernel_rfl) ?_
 refine QJ U U U (Xd U U U (QP U U U TV (Q3 U U U (Qm U QM (by first | assumption | exact j1.cell 0 U U)) ?_)))
 refine QJ U U U (Xd U U U (QP U U U TW (Q3 U U U (Qm U QM (by first | assumption | exact j1.cell 0 U U)) ?_)))
 refine Xh U U U (fun _=>(Gs U U U)) ?_
 refine Xd U U U (QP U U U TV (Xl U U U U U U ?_))
 first | (refine Qx j1 U U Js (by first | rfl | assumption | exact j1.own_one 1 U) (i:=0) U (by first | decide | exact Q7 U | (simp;done) | omega) ?_)
 intro w2 j3; dsimp only[List.set]at j3
 refine Zj (Xq (by kernel_rfl)) ?_
 refine VC.nil (Qc (Qh [0] U (Qa (Qb U U (Qi U U (Qg U TW U ?_))))))
 first | (refine Qx j3 U U Js (by first | rfl | assumption | exact j3.own_one 1 U) (i:=0) U (by first | decide | exact Q7 U | (simp;done) | omega) ?_)
 intro w4 j5; dsimp only[List.set]at j5
 exact Qf (ZP (.inl U) U (⟨_,U,U,WV hsl (j5.pick [0,1,2] U)⟩))
theorem Tf {w:World} {p:Nat} {sl:List Bs} {F:Th} (hS:Sat w [KR p sl,F]) (slot:Int):
    Calls prog 125 #[ptrV p 0,intV slot] w (Ret fun v w'=>v= .bool (Ru sl slot)∧Sat w' [KR p sl,F]):= by
 obtain⟨sa,sc,du,re,hsl,hS⟩:=YZ hS
 refine Qn func125 U ntmps125 U ?_
 refine Qe (Qa (Qd U U (Qf (Qc (Qe (Qa (Qb U U (Jr U U U (Qb U U (QZ 7 U (fun h1=> ?_) (fun h1=> ?_)))))))))))
 ·refine Qj U U (det h1) (Qb U U (Qj U U (det h1) (Qb U U (Qj U U (det h1) (Qi U U (Qj U U (det h1) (Qg U Hh U (Qj U U (det h1) (Qo U KM (by first | assumption | exact hS.cell 0 U U) U ?_)))))))))
  refine Qj U U (det h1) ?_
  first | refine XB underlying92 U U ?_ | refine Xo 1 hS underlying92 U U U ?_
  refine Qj U U (det h1) (Xn U U U (QN U (det h1) U U (Qb U U (QZ 16 U (fun h2=> ?_) (fun h2=> ?_)))))
  ·obtain⟨pg,hp⟩: ∃p,sl[slot.toNat]? =some p:=⟨_,Zd (by omega)⟩
   refine Qj U U (det h2) (Qb U U (Qj U U (det h2) (Qi U U (Qj U U (det h2) (Qg U Hh U (Qj U U (det h2) (Qo U KM (by first | assumption | exact hS.cell 0 U U) U ?_)))))))
   refine Qj U U (det h2) (Qb U U (Qj U U (det h2) (Xg stC 1 slot.toNat hS U U U (by omega) hp DJ U ?_)))
   intro bx3 capx3 hvx3
   refine Qj U U (det h2) (XY 1 slot.toNat 0 hS U hvx3 U U hp Yd U U (Qj U U (det h2) (DZ U U U (QN U (det h2) U U (Qd U U (Qf (Qc (Qh [4] U (Qv (QR (.inr U) U U ?_))))))))))
   exact⟨_,rfl, by unfold Ru; rw[hp,det (show 0≤slot by omega),Bool.true_and]; simp,WV hsl (hS.pick [0,1,2] U)⟩
  refine Qk U U (QF h2) U (Qk U U (QF h2) U (Qk U U (QF h2) U (Qk U U (QF h2) U (Qk U U (QF h2) U (Qk U U (QF h2) U (Qk U U (QF h2) U (Qk U U (QF h2) U (QC U (QF h2) U U (Qd U U (Qf (Qc (Qh [4] U (Qv (QR (.inr U) U U ?_))))))))))))))
  exact⟨_,rfl, by unfold Ru; rw[List.getElem?_eq_none (by omega),Bool.and_false],WV hsl (hS.pick [0,1,2] U)⟩
 refine Qk U U (QF h1) U (Qk U U (QF h1) U (Qk U U (QF h1) U (Qk U U (QF h1) U (Qk U U (QF h1) U (Qk U U (QF h1) U (Qk U U (QF h1) U (QC U (QF h1) U U (Qb U U (Qk U U U U (Qk U U U U (Qk U U U U (Qk U U U U (Qk U U U U (Qk U U U U (Qk U U U U (Qk U U U U (QC U U U U (Qd U U (Qf (Qc (Qh [4] U (Qv (QR (.inr U) U U ?_)))))))))))))))))))))))
 exact⟨_,rfl, by unfold Ru; rw[QF (show ¬0≤slot by omega),Bool.false_and],WV hsl (hS.pick [0,1,2] U)⟩
theorem TI {sl:List Bs} {slot:Int} (h:Ru sl slot=true):0≤slot∧ ∃p,sl[slot.toNat]? =some p∧p≠[]:= by
  unfold Ru at h
  rw[Bool.and_eq_true,decide_eq_true_eq]at h
  refine⟨h.1, ?_⟩
  cases hq:sl[slot.toNat]? with
  | none=> rw[hq]at h; exact absurd h.2 (by simp)
  | some p=> rw[hq]at h; exact⟨p,rfl, by simpa using h.2⟩
def GP (sl:List Bs) (slot:Int):Bs:= if Ru sl slot=true then(sl[slot.toNat]?).getD []else[]
def V8 (sl:List Bs) (slot:Int):List Bs:= if Ru sl slot=true then sl.set slot.toNat []else sl
theorem six_sp {w:World} {F:Th} (hS:Sat w [F]) {lv:Value} {l:List Bs} (hL:Ent F (RdL stC lv l)) (e:Bs):
    Calls prog 217 #[lv,strV e] w (Ret fun v w'=>(v=intV (-1)∧e∉l∧Sat w' [F])∨(∃k:Nat,v=intV (k:Int)∧l[k]? =some e∧Sat w' [F])):= by
 obtain⟨ao,cap,rfl,hmax⟩:=(hL.sat hS 0 rfl).shape
 refine Qn func217 U ntmps217 U ?_
 refine Qe (Qa (Qd U U (Qf (Qc (Qe (Qe (Qa (Qb U U (XB underlying92 U U (Qb U U (Qf (Qc (Qw ?_)))))))))))))
 refine Xe (fun K0 E0 W0=> ∃(i:Nat),K0=l.length -i∧E0=[(0,.slice ao l.length cap),(1,strV e),(7,intV (l.length:Int)),(8,intV (i:Int))]∧Sat W0 [F]∧(i≤l.length)∧(∀j y,j<i→l[j]? =some y→y≠e)) (L0:=[(0,_),(1,_),(7,_),(8,_)]) (l.length -0) (Vj U U U U) ⟨0,rfl,rfl,hS, by omega, by omega⟩ ?_
 rintro _ _ w1 ⟨i,rfl,rfl,j1,hi,hno⟩
 refine Qe (Qa (Xn U U U (Qf (Qc (Qe (Qt U (fun h2=> ?_) (fun h2=> ?_)))))))
 ·obtain⟨x,hx⟩: ∃x,l[i]? =some x:=⟨_,Zd (by omega)⟩
  obtain⟨b,off,rfl,_⟩:=(hL.sat j1 0 rfl).get hx
  refine Qs (Qc (Qe (Qw (Qe (Qa (Qb U U (Qd U U (Qf (Qc (Qe (Qa (Qb U U (Qb U U (Qb U U (Za i U U (by first | rfl | omega) ((XL hx).1) DJ U ?_)))))))))))))))
  refine Qo U Yd (((hL.sat j1 0 U).at_ hx) 0 _ U) U (Hp U U U (Qf (Qc (Qh [8,7,1,0,5,16] U (Qt U (fun h3=> ?_) (fun h3=> ?_))))))
  ·have heq:e=x:=h3
   refine Qe (Qa (Qb U U (Qd U U (Qf (Qc (Qv (Q1 (Qr (Qr (Q1 (Qr (QR (.inr U) U U ?_))))))))))))
   exact⟨_,rfl,.inr ⟨i,rfl, by rw[hx,heq],j1.pick [0] U⟩⟩
  have hne: ¬e=x:=h3
  refine Qs (Ql (Qc (Qa (QK U U (by omega) (by omega) U ?_))))
  refine Qb U U (Qf ?_)
  exact Q5 (L1:=[(0,_),(1,_),(7,_),(8,intV ((i+1:Nat):Int))]) (Vj U U U U) (k1:=l.length -(i+1)) (by omega) ⟨i+1,rfl,rfl,j1.pick [0] U, by omega, fun j y hj hq=> by by_cases e:j=i;(subst e; rw[hx]at hq; cases hq; exact fun q=>hne q.symm); exact hno j y (by omega) hq⟩
 refine QT (Qq (Qq (Qy (Qc (Qe (Qa (Qd U U (Qf (Qc (Qv (QR (.inr U) U U ?_)))))))))))
 exact⟨_,rfl,.inl ⟨rfl, fun hm=> by obtain⟨j,hj⟩:=List.mem_iff_getElem?.1 hm; exact hno j e (by have :=(XL hj).1;omega) hj rfl,j1.pick [0] rfl⟩⟩
theorem Te {w:World} {p:Nat} {sl:List Bs} {F:Th} (hS:Sat w [KR p sl,F]) (page:Bs) (hpl:page.length=64):
    Calls prog 208 #[ptrV p 0,strV page] w (Ret fun v w'=>(Wt sl=sl.length∧v= .tuple #[intV (-1),.bool false]∧Sat w' [KR p sl,F])∨(∃k:Nat,sl[k]? =some []∧v= .tuple #[intV (k:Int),.bool true]∧Sat w' [KR p (sl.set k page),F])):= by
 refine Qn func208 U ntmps208 U ?_
 refine Qe (Qa (Qd U U (Qd U U (Qf (Qc (Qe (Qe ?_)))))))
 have hul:=JH sl
 obtain⟨sa,sc,du,re,hsl,hSo⟩:=YZ (hS.pick [0,1] rfl)
 have j1:=hSo.drew
 refine QH [0,1,2,3,4,5,6,7,8,9,10,11,12,13,14] [] ZW (by kernel_rfl) ?_
 refine QJ U U U (Xh U U U (fun _=>(Gr underlying9 U)) ?_)
 refine Xh U U U (fun _=>(Bw U U)) ?_
 refine QJ U U U (YN 10 U (fun h2=> ?_) (fun h2=> ?_))
 ·exact absurd h2 (by omega)
 refine Xh U U (Q4 U U (QF h2)) (fun _=>(Ev.gd (Xk U))) ?_
 refine Xh U U (Q4 U U (QF h2)) (fun _=>(Ev.gd (Hw U))) ?_
 refine Xh U U (Q4 U U (QF h2)) (fun _=>(Ev.gd (XU U HA))) ?_
 refine Q3 U U (Q4 U U (QF h2)) (Ev.gd (Qm U QM (by first | assumption | exact j1.cell 0 U U))) ?_
 refine Xh U U (Q4 U U (QF h2)) (fun _=>(Ev.gd (Xk U))) ?_
 refine Xh U U (Q4 U U (QF h2)) (fun _=>(Ev.gd (Hw U))) ?_
 refine Xh U U (Q4 U U (QF h2)) (fun _=>(Ev.gd (XU U Hh))) ?_
 refine Q3 U U (Q4 U U (QF h2)) (Ev.gd (Qm U KM (by first | assumption | exact j1.cell 0 U U))) ?_
 refine Xh U U (Q4 U U (QF h2)) (fun _=>(Ev.gd (UZ underlying92 U))) ?_
 refine Xh U U (Q4 U U (QF h2)) (fun _=>(Ev.gd (M5 U U))) ?_
 refine Xh U U U (fun _=>(ZZ U (QF h2) U)) ?_
 refine VC.nil (Qc (Qh [1,0,4,5,21] U (Qt U (fun h3=> ?_) (fun h3=> ?_))))
 ·exact Qe (Qa (Qd U U (Qd U U (Qf (Qc (Qv (Qr (Jm (.inr U) U U U (⟨_,rfl,.inl ⟨by omega,rfl,WV hsl (j1.pick [0,1,2] U)⟩⟩)))))))))
 refine Qs (Qc (Qe ?_))
 have hSz:=WV hsl (j1.pick [0,1,2] U)
 refine Qa (Qb U U (Q0 PG U (Td (hSz.sp [0] U)) U ?_))
 rintro _ w4 ⟨rfl,j4⟩
 replace j4:=j4.jn U U
 clear hSz
 refine Qf (Qc (Qe ?_))
 have hul:=JH sl
 obtain⟨sa,sc,du,re,hsl,hSo⟩:=YZ (j4.pick [0,1] rfl)
 refine Qa (Qb U U (Qi U U (Qg U Hh U (Qo U KM (by first | assumption | exact hSo.cell 0 U U) U ?_))))
 refine Xr cal_217 U (six_sp (hSo.sp [] U) (Ent.starL (YD (C:=stC) (l:=sl) (by omega)) 1 U) []) U ?_
 rintro e w5 ⟨_,rfl,(⟨rfl,hno,j5⟩ | ⟨k,rfl,hk,j5⟩)⟩
 ·exact absurd (GE.1 (by have :=JH sl;omega)) hno
 refine⟨_,U, ?_⟩
 replace j5:=j5.jn U U
 clear hSo
 refine Qd U U (Qf (Qc (Qh [1,0,4,5,6] U (Qe (Qa (Qb U U (Qi U U (Qg U Hh U (Qo U KM (by first | assumption | exact j5.cell 0 U U) U ?_)))))))))
 refine Qb U U (Qb U U (Xg stC 1 k j5 U U U (by first | rfl | omega) hk DJ U ?_))
 intro bx6 capx6 hvx6
 refine Wh 1 k page j5 U hvx6 U U sz_9 (by first | rfl | (simp;done)) (by first | omega | exact(XL hk).1) ?_
 intro w7 j8; dsimp only[List.set]at j8
 refine Qf (Qc (Qh [0,4,5,6] U (Qe (Qa (Qb U U (Qi U U (Qg U HA U (Qo U QM (by first | assumption | exact j8.cell 0 U U) U ?_))))))))
 refine QK U U (by first | omega | (simp;omega)) (by first | omega | (simp;omega)) U ?_
 refine Qi U U (Qg U HA U ?_)
 first | (refine Qx j8 U U Js (by first | rfl | assumption | exact j8.own_one 1 U) (i:=0) U (by first | decide | exact Q7 U | (simp;done) | omega) ?_)
 intro w9 j10; dsimp only[List.set]at j10
 refine Qf (Qc (Qh [4,5,6] U (Qe (Qa (Qb U U (Qd U U (Qd U U (Qf (Qc (Qv (Jm (.inr U) U U U ?_)))))))))))
 have hpn:page≠[]:= fun q=> by subst q; simp at hpl
 exact⟨_,rfl,.inr ⟨k,hk,rfl,WV (by rw[List.length_set]; exact hsl) (by rw[KZ hk hpn,Int.natCast_add]; exact j10.pick [0,1,2] U)⟩⟩
theorem Tg {w:World} {p:Nat} {sl:List Bs} {F:Th} (hS:Sat w [KR p sl,F]) (slot:Int):
    Calls prog 88 #[ptrV p 0,intV slot] w (Ret fun v w'=> ∃e,v= .tuple #[strV (GP sl slot),intV e]∧Sat w' [KR p sl,F]):= by
 refine Qn func88 U ntmps88 U ?_
 refine Qe (Qa (Qd U U (Qd U U (Qf (Qc (Qe (Qe (Qa (Qb U U (Qb U U (Q0 PH U (Tf (hS.sp [0] U) slot) U ?_)))))))))))
 rintro _ w1 ⟨rfl,j1⟩
 replace j1:=j1.jn U U
 refine QU U U (Qf (Qc (QS U (fun h2=> ?_) (fun h2=> ?_))))
 ·refine Qe (Qa (Qd U U (Qd U U (Qf (Qc (Qv (Qr (Jm (.inr U) U U U ?_))))))))
  exact⟨_,rfl,_, by rw[show GP sl slot=[] by unfold GP; rw[if_neg (by simp_all)]],j1.pick [0,1] U⟩
 have hh:Ru sl slot=true:= by simpa using h2
 obtain⟨h0,pg,hp,hpn⟩:=TI hh
 refine Qs (Qc (Qe (Qa (Qb U U (Q0 PG U (Td (j1.sp [0] U)) U ?_)))))
 rintro _ w3 ⟨rfl,j3⟩
 replace j3:=j3.jn U U
 refine Qf (Qc (Qe ?_))
 have hul:=JH sl
 obtain⟨sa,sc,du,re,hsl,hSo⟩:=YZ (j3.pick [0,1] rfl)
 refine Qa (Qb U U (Qi U U (Qg U Hh U (Qo U KM (by first | assumption | exact hSo.cell 0 U U) U ?_))))
 refine Qb U U (Xg stC 1 slot.toNat hSo U U U (by omega) hp DJ U ?_)
 intro bx4 capx4 hvx4
 refine XY 1 slot.toNat 0 hSo U hvx4 U U hp Yd U U (Qd U U (Qd U U (Qf (Qc (Qh [4,5] U (Qv (Jm (.inr U) U U U ?_)))))))
 exact⟨_,rfl,_, by rw[show GP sl slot=pg by unfold GP; rw[if_pos hh,hp];rfl],WV hsl (hSo.pick [0,1,2] U)⟩
theorem Re {w:World} {p:Nat} {sl:List Bs} {F:Th} (hS:Sat w [KR p sl,F]) (slot:Int):
    Calls prog 137 #[ptrV p 0,intV slot] w (Ret fun v w'=>v= .tuple #[]∧Sat w' [KR p (V8 sl slot),F]):= by
 refine Qn func137 U ntmps137 U ?_
 refine Qe (Qa (Qb U U (Qb U U (Q0 PH U (Tf (hS.sp [0] U) slot) U ?_))))
 rintro _ w1 ⟨rfl,j1⟩
 replace j1:=j1.jn U U
 refine Qf (Qc (QS U (fun h2=> ?_) (fun h2=> ?_)))
 ·have hh:Ru sl slot=true:= by simpa using h2
  obtain⟨h0,pg,hp,hpn⟩:=TI hh
  refine Qe ?_
  have hul:=JH sl
  obtain⟨sa,sc,du,re,hsl,hSo⟩:=YZ (j1.pick [0,1] rfl)
  refine Qa (Qb U U (Qi U U (Qg U Hh U (Qo U KM (by first | assumption | exact hSo.cell 0 U U) U ?_))))
  refine Qb U U (Xg stC 1 slot.toNat hSo U U U (by omega) hp DJ U ?_)
  intro bx3 capx3 hvx3
  refine Wh 1 slot.toNat [] hSo U hvx3 U U sz_9 (by first | rfl | (simp;done)) (by first | omega | exact(XL hp).1) ?_
  intro w4 j5; dsimp only[List.set]at j5
  clear hSo
  refine Qf (Qc (Qh [0] U (Qa (Qb U U (Qi U U (Qg U HA U (Qo U QM (by first | assumption | exact j5.cell 0 U U) U ?_)))))))
  refine Ka U U (by first | omega | (have :=HQ hp hpn; have :=JH sl;omega)) (by first | omega | (have :=HQ hp hpn; have :=JH sl;omega)) U ?_
  refine Qi U U (Qg U HA U ?_)
  first | (refine Qx j5 U U Js (by first | rfl | assumption | exact j5.own_one 1 U) (i:=0) U (by first | decide | exact Q7 U | (simp;done) | omega) ?_)
  intro w6 j7; dsimp only[List.set]at j7
  refine Qf (ZP (.inl U) U ?_)
  exact⟨_,rfl,rfl, by rw[show V8 sl slot=sl.set slot.toNat [] by unfold V8; rw[if_pos hh]]; exact WV (by rw[List.length_set]; exact hsl) (by rw[show((Wt (sl.set slot.toNat []):Nat):Int)=(Wt sl:Nat) -1 by have :=HQ hp hpn;omega]; exact j7.pick [0,1,2] U)⟩
 refine Qs (ZP (.inl U) U ?_)
 exact⟨_,rfl,rfl, by rw[show V8 sl slot=sl by unfold V8; rw[if_neg (by simp_all)]]; exact j1.pick [0,1] U⟩
theorem Sk {w:World} {p:Nat} {sl:List Bs} {F:Th} (hS:Sat w [KR p sl,F]):
    Calls prog 216 #[ptrV p 0] w (Ret fun v w'=>v=intV (Wt sl:Nat)∧Sat w' [KR p sl,F]):= by
 obtain⟨sa,sc,du,re,hsl,hS⟩:=YZ hS
 refine Qn func216 U ntmps216 U ?_
 refine Qe (Qa (Qd U U (Qf (Qc (Qe (Qa (Qb U U (Qi U U (Qg U HA U (Qo U QM (by first | assumption | exact hS.cell 0 U U) U ?_))))))))))
 exact Qd U U (Qf (Qc (Qv (QR (.inr U) U U (⟨_,U,U,WV hsl (hS.pick [0,1,2] U)⟩)))))
theorem srow (m:Nat):(List.replicate m [strV []]).flatten=stC.cells (List.replicate m []):= by
  induction m with
  | zero=>rfl
  | succ m ih=> rw[List.replicate_succ,List.flatten_cons,ih,List.replicate_succ];rfl
theorem FQ {w:World} {F:Th} (hS:Sat w [F]) (n:Int):
    Calls prog 43 #[intV n] w (Ret fun v w'=> ∃p,v=ptrV p 0∧Sat w' [KR p (List.replicate (max 0 (min n 4096)).toNat []),F]):= by
 refine Qn func43 U ntmps43 U ?_
 refine Qe (Qa (Qd U U (Qf (Qc (Qe (Qa (Qb U U (Kd U U U (Ho U U U (Ma hS (max 0 (min n 4096)).toNat U U (by omega) underlying92 ifo_9 U (by omega) (by omega) U ?_))))))))))
 intro db w1 hS1a; have j1:=hS1a.row_cast (l:=List.replicate (max 0 (min n 4096)).toNat []) (C:=stC) (by simp) U (srow _)
 refine Zw U Lo asz_148 zr_148 U U (XV j1 U U U ?_)
 intro bp wbp hSbp
 refine Qd U U (Qf (Qc (Qv (QR (.inr U) U U ?_))))
 exact⟨_,rfl,_,rfl,WV (du:=0) (re:=0) (by rw[List.length_replicate];omega) (by rw[CO]; exact hSbp.pick [0,1,2] U)⟩
