/- Closed facts of the program: offsets, sizes, zero values. -/
import Derived.Test.YtkcjfoaejijdoaaGreatDoorRow
import Derived.Test.YtkcjfoaejijdoaaGreatDoorMap
namespace Go.Proofs.YtkcjfoaejijdoaaGreatDoor
open Go.RowKit M
theorem QO:ZK Tryz.prog 3=some false:= by kernel_rfl
theorem MQ:ZK Tryz.prog 4=some false:= by kernel_rfl
theorem ag_5:ZK Tryz.prog 5=some false:= by kernel_rfl
theorem ZC:ZK Tryz.prog 9=some false:= by kernel_rfl
theorem Y0:ZK Tryz.prog 22=some false:= by kernel_rfl
theorem Xm:ZK Tryz.prog 25=some false:= by kernel_rfl
theorem Gv:ZK Tryz.prog 28=some false:= by kernel_rfl
theorem VT:ZK Tryz.prog 43=some true:= by kernel_rfl
theorem YX:ZK Tryz.prog 47=some false:= by kernel_rfl
theorem Gu:ZK Tryz.prog 61=some false:= by kernel_rfl
theorem X9:ZK Tryz.prog 76=some true:= by kernel_rfl
theorem B9:ZK Tryz.prog 81=some false:= by kernel_rfl
theorem Y4:ZK Tryz.prog 82=some false:= by kernel_rfl
theorem ag_83:ZK Tryz.prog 83=some false:= by kernel_rfl
theorem JH:ZK Tryz.prog 90=some false:= by kernel_rfl
theorem Ck:ZK Tryz.prog 91=some false:= by kernel_rfl
theorem ag_98:ZK Tryz.prog 98=some false:= by kernel_rfl
theorem Zk:ZK Tryz.prog 108=some false:= by kernel_rfl
theorem Jo:ZK Tryz.prog 109=some false:= by kernel_rfl
theorem YI:ZK Tryz.prog 110=some false:= by kernel_rfl
theorem VU:ZK Tryz.prog 112=some false:= by kernel_rfl
theorem Nz:ZK Tryz.prog 114=some false:= by kernel_rfl
theorem qbe:ZK Tryz.prog 127=some true:= by kernel_rfl
theorem Ui:ZK Tryz.prog 143=some false:= by kernel_rfl
theorem YH:ZK Tryz.prog 155=some false:= by kernel_rfl
theorem Yc:ZK Tryz.prog 156=some false:= by kernel_rfl
theorem ag_164:ZK Tryz.prog 164=some false:= by kernel_rfl
theorem Bl:ZK Tryz.prog 167=some true:= by kernel_rfl
theorem Ve:ZK Tryz.prog 181=some false:= by kernel_rfl
theorem Jn:ZK Tryz.prog 186=some false:= by kernel_rfl
theorem ag_195:ZK Tryz.prog 195=some true:= by kernel_rfl
theorem qbd:ZK Tryz.prog 199=some true:= by kernel_rfl
theorem F8:ZK Tryz.prog 203=some false:= by kernel_rfl
theorem Uh:He Tryz.prog 76=true:= by kernel_rfl
theorem asz_85:He Tryz.prog 85=true:= by kernel_rfl
theorem asz_88:He Tryz.prog 88=true:= by kernel_rfl
theorem asz_93:He Tryz.prog 93=true:= by kernel_rfl
theorem asz_117:He Tryz.prog 117=true:= by kernel_rfl
theorem HX:He Tryz.prog 127=true:= by kernel_rfl
theorem Dp:He Tryz.prog 158=true:= by kernel_rfl
theorem asz_183:He Tryz.prog 183=true:= by kernel_rfl
theorem asz_185:He Tryz.prog 185=true:= by kernel_rfl
theorem asz_188:He Tryz.prog 188=true:= by kernel_rfl
theorem asz_195:He Tryz.prog 195=true:= by kernel_rfl
theorem Nw:He Tryz.prog 199=true:= by kernel_rfl
theorem cal_8:QH Tryz.prog 8=true:= by kernel_rfl
theorem cal_9:QH Tryz.prog 9=true:= by kernel_rfl
theorem Bh:QH Tryz.prog 10=true:= by kernel_rfl
theorem F4:QH Tryz.prog 11=true:= by kernel_rfl
theorem Bg:QH Tryz.prog 12=true:= by kernel_rfl
theorem Np:QH Tryz.prog 13=true:= by kernel_rfl
theorem Nn:QH Tryz.prog 14=true:= by kernel_rfl
theorem cal_15:QH Tryz.prog 15=true:= by kernel_rfl
theorem cal_16:QH Tryz.prog 16=true:= by kernel_rfl
theorem F3:QH Tryz.prog 17=true:= by kernel_rfl
theorem Nf:QH Tryz.prog 19=true:= by kernel_rfl
theorem Bf:QH Tryz.prog 23=true:= by kernel_rfl
theorem Fz:QH Tryz.prog 27=true:= by kernel_rfl
theorem cal_31:QH Tryz.prog 31=true:= by kernel_rfl
theorem cal_32:QH Tryz.prog 32=true:= by kernel_rfl
theorem Fy:QH Tryz.prog 33=true:= by kernel_rfl
theorem JQ:QH Tryz.prog 34=true:= by kernel_rfl
theorem cal_35:QH Tryz.prog 35=true:= by kernel_rfl
theorem Nb:QH Tryz.prog 36=true:= by kernel_rfl
theorem Fx:QH Tryz.prog 37=true:= by kernel_rfl
theorem Na:QH Tryz.prog 38=true:= by kernel_rfl
theorem Fw:QH Tryz.prog 40=true:= by kernel_rfl
theorem Fv:QH Tryz.prog 41=true:= by kernel_rfl
theorem Be:QH Tryz.prog 42=true:= by kernel_rfl
theorem Hd:QH Tryz.prog 43=true:= by kernel_rfl
theorem qay:QH Tryz.prog 44=true:= by kernel_rfl
theorem qax:QH Tryz.prog 45=true:= by kernel_rfl
theorem Bd:QH Tryz.prog 46=true:= by kernel_rfl
theorem qaw:QH Tryz.prog 47=true:= by kernel_rfl
theorem YE:QH Tryz.prog 48=true:= by kernel_rfl
theorem Fu:QH Tryz.prog 49=true:= by kernel_rfl
theorem cal_50:QH Tryz.prog 50=true:= by kernel_rfl
theorem Ft:QH Tryz.prog 51=true:= by kernel_rfl
theorem qav:QH Tryz.prog 52=true:= by kernel_rfl
theorem MI:QH Tryz.prog 53=true:= by kernel_rfl
theorem qau:QH Tryz.prog 54=true:= by kernel_rfl
theorem cal_55:QH Tryz.prog 55=true:= by kernel_rfl
theorem cal_56:QH Tryz.prog 56=true:= by kernel_rfl
theorem cal_57:QH Tryz.prog 57=true:= by kernel_rfl
theorem cal_58:QH Tryz.prog 58=true:= by kernel_rfl
theorem cal_59:QH Tryz.prog 59=true:= by kernel_rfl
theorem cal_62:QH Tryz.prog 62=true:= by kernel_rfl
theorem Fq:QH Tryz.prog 71=true:= by kernel_rfl
theorem MH:QH Tryz.prog 72=true:= by kernel_rfl
theorem qat:QH Tryz.prog 73=true:= by kernel_rfl
theorem CZ:QH Tryz.prog 76=true:= by kernel_rfl
theorem cal_85:QH Tryz.prog 85=true:= by kernel_rfl
theorem Fp:QH Tryz.prog 90=true:= by kernel_rfl
theorem Fo:QH Tryz.prog 91=true:= by kernel_rfl
theorem Fn:QH Tryz.prog 92=true:= by kernel_rfl
theorem qas:QH Tryz.prog 93=true:= by kernel_rfl
theorem Fm:QH Tryz.prog 94=true:= by kernel_rfl
theorem CY:QH Tryz.prog 95=true:= by kernel_rfl
theorem Fk:QH Tryz.prog 96=true:= by kernel_rfl
theorem Fj:QH Tryz.prog 97=true:= by kernel_rfl
theorem Bc:QH Tryz.prog 98=true:= by kernel_rfl
theorem Fi:QH Tryz.prog 99=true:= by kernel_rfl
theorem cal_100:QH Tryz.prog 100=true:= by kernel_rfl
theorem cal_101:QH Tryz.prog 101=true:= by kernel_rfl
theorem UY:QH Tryz.prog 102=true:= by kernel_rfl
theorem LB:QH Tryz.prog 103=true:= by kernel_rfl
theorem Gm:QH Tryz.prog 104=true:= by kernel_rfl
theorem Gl:QH Tryz.prog 105=true:= by kernel_rfl
theorem UX:QH Tryz.prog 106=true:= by kernel_rfl
theorem cal_107:QH Tryz.prog 107=true:= by kernel_rfl
theorem LA:QH Tryz.prog 108=true:= by kernel_rfl
theorem L9:QH Tryz.prog 109=true:= by kernel_rfl
theorem cal_110:QH Tryz.prog 110=true:= by kernel_rfl
theorem L8:QH Tryz.prog 112=true:= by kernel_rfl
theorem L7:QH Tryz.prog 113=true:= by kernel_rfl
theorem L6:QH Tryz.prog 114=true:= by kernel_rfl
theorem L5:QH Tryz.prog 115=true:= by kernel_rfl
theorem cal_116:QH Tryz.prog 116=true:= by kernel_rfl
theorem cal_117:QH Tryz.prog 117=true:= by kernel_rfl
theorem L4:QH Tryz.prog 118=true:= by kernel_rfl
theorem cal_119:QH Tryz.prog 119=true:= by kernel_rfl
theorem cal_120:QH Tryz.prog 120=true:= by kernel_rfl
theorem cal_121:QH Tryz.prog 121=true:= by kernel_rfl
theorem cal_125:QH Tryz.prog 125=true:= by kernel_rfl
theorem cal_137:QH Tryz.prog 137=true:= by kernel_rfl
theorem Do:QH Tryz.prog 138=true:= by kernel_rfl
theorem Dn:QH Tryz.prog 139=true:= by kernel_rfl
theorem Lz:QH Tryz.prog 140=true:= by kernel_rfl
theorem Nl:QH Tryz.prog 141=true:= by kernel_rfl
theorem Dm:QH Tryz.prog 142=true:= by kernel_rfl
theorem Ly:QH Tryz.prog 143=true:= by kernel_rfl
theorem Lx:QH Tryz.prog 144=true:= by kernel_rfl
theorem Lw:QH Tryz.prog 145=true:= by kernel_rfl
theorem Dl:QH Tryz.prog 146=true:= by kernel_rfl
theorem cal_147:QH Tryz.prog 147=true:= by kernel_rfl
theorem cal_148:QH Tryz.prog 148=true:= by kernel_rfl
theorem cal_149:QH Tryz.prog 149=true:= by kernel_rfl
theorem cal_150:QH Tryz.prog 150=true:= by kernel_rfl
theorem cal_151:QH Tryz.prog 151=true:= by kernel_rfl
theorem Nk:QH Tryz.prog 152=true:= by kernel_rfl
theorem Nj:QH Tryz.prog 153=true:= by kernel_rfl
theorem cal_154:QH Tryz.prog 154=true:= by kernel_rfl
theorem Ni:QH Tryz.prog 155=true:= by kernel_rfl
theorem cal_156:QH Tryz.prog 156=true:= by kernel_rfl
theorem cal_157:QH Tryz.prog 157=true:= by kernel_rfl
theorem Kv:QH Tryz.prog 158=true:= by kernel_rfl
theorem Gk:QH Tryz.prog 159=true:= by kernel_rfl
theorem Gj:QH Tryz.prog 160=true:= by kernel_rfl
theorem Lv:QH Tryz.prog 161=true:= by kernel_rfl
theorem Lu:QH Tryz.prog 162=true:= by kernel_rfl
theorem cal_163:QH Tryz.prog 163=true:= by kernel_rfl
theorem cal_166:QH Tryz.prog 166=true:= by kernel_rfl
theorem cal_169:QH Tryz.prog 169=true:= by kernel_rfl
theorem Gi:QH Tryz.prog 170=true:= by kernel_rfl
theorem cal_171:QH Tryz.prog 171=true:= by kernel_rfl
theorem Lt:QH Tryz.prog 172=true:= by kernel_rfl
theorem cal_173:QH Tryz.prog 173=true:= by kernel_rfl
theorem cal_175:QH Tryz.prog 175=true:= by kernel_rfl
theorem Nh:QH Tryz.prog 176=true:= by kernel_rfl
theorem cal_177:QH Tryz.prog 177=true:= by kernel_rfl
theorem cal_178:QH Tryz.prog 178=true:= by kernel_rfl
theorem cal_179:QH Tryz.prog 179=true:= by kernel_rfl
theorem cal_180:QH Tryz.prog 180=true:= by kernel_rfl
theorem cal_185:QH Tryz.prog 185=true:= by kernel_rfl
theorem Ng:QH Tryz.prog 186=true:= by kernel_rfl
theorem Ls:QH Tryz.prog 187=true:= by kernel_rfl
theorem Lr:QH Tryz.prog 188=true:= by kernel_rfl
theorem cal_189:QH Tryz.prog 189=true:= by kernel_rfl
theorem cal_203:QH Tryz.prog 203=true:= by kernel_rfl
theorem cal_204:QH Tryz.prog 204=true:= by kernel_rfl
theorem cal_205:QH Tryz.prog 205=true:= by kernel_rfl
theorem cal_215:QH Tryz.prog 215=true:= by kernel_rfl
theorem Lq:QH Tryz.prog 216=true:= by kernel_rfl
theorem Nd:QH Tryz.prog 220=true:= by kernel_rfl
theorem cal_221:QH Tryz.prog 221=true:= by kernel_rfl
theorem cal_222:QH Tryz.prog 222=true:= by kernel_rfl
theorem Nc:QH Tryz.prog 223=true:= by kernel_rfl
theorem cal_238:QH Tryz.prog 238=true:= by kernel_rfl
theorem VG:YC Tryz.prog 36=some 8:= by kernel_rfl
theorem Ge:YC Tryz.prog 47=some 1:= by kernel_rfl
theorem KG:YC Tryz.prog 61=some 1:= by kernel_rfl
theorem B2:YC Tryz.prog 98=some 2:= by kernel_rfl
theorem IS:YC Tryz.prog 143=some 1:= by kernel_rfl
theorem VH:YC Tryz.prog 181=some 65:= by kernel_rfl
theorem Hc:YC Tryz.prog 186=some 4:= by kernel_rfl
theorem Db:Xv Tryz.prog 43 0=some 0:= by kernel_rfl
theorem ZL:Xv Tryz.prog 43 2=some 2:= by kernel_rfl
theorem UU:Xv Tryz.prog 43 3=some 3:= by kernel_rfl
theorem HV:Xv Tryz.prog 43 4=some 4:= by kernel_rfl
theorem HU:Xv Tryz.prog 43 5=some 5:= by kernel_rfl
theorem Wv:Xv Tryz.prog 43 6=some 6:= by kernel_rfl
theorem RT:Xv Tryz.prog 43 7=some 7:= by kernel_rfl
theorem Yx:Xv Tryz.prog 76 0=some 0:= by kernel_rfl
theorem Da:Xv Tryz.prog 76 1=some 1:= by kernel_rfl
theorem XF:Xv Tryz.prog 85 0=some 0:= by kernel_rfl
theorem UT:Xv Tryz.prog 85 1=some 1:= by kernel_rfl
theorem Wu:Xv Tryz.prog 85 2=some 2:= by kernel_rfl
theorem Lg:Xv Tryz.prog 85 4=some 4:= by kernel_rfl
theorem BZ:Xv Tryz.prog 88 0=some 0:= by kernel_rfl
theorem Jt:Xv Tryz.prog 88 1=some 1:= by kernel_rfl
theorem YN:Xv Tryz.prog 88 2=some 2:= by kernel_rfl
theorem W8:Xv Tryz.prog 88 3=some 3:= by kernel_rfl
theorem Yw:Xv Tryz.prog 93 0=some 0:= by kernel_rfl
theorem Wd:Xv Tryz.prog 93 1=some 1:= by kernel_rfl
theorem RS:Xv Tryz.prog 93 2=some 2:= by kernel_rfl
theorem XL:Xv Tryz.prog 117 0=some 0:= by kernel_rfl
theorem HB:Xv Tryz.prog 117 1=some 1:= by kernel_rfl
theorem W9:Xv Tryz.prog 117 2=some 2:= by kernel_rfl
theorem WJ:Xv Tryz.prog 117 3=some 3:= by kernel_rfl
theorem YV:Xv Tryz.prog 117 4=some 4:= by kernel_rfl
theorem Ga:Xv Tryz.prog 117 5=some 5:= by kernel_rfl
theorem IC:Xv Tryz.prog 117 6=some 6:= by kernel_rfl
theorem PC:Xv Tryz.prog 117 7=some 7:= by kernel_rfl
theorem M3:Xv Tryz.prog 117 8=some 8:= by kernel_rfl
theorem PB:Xv Tryz.prog 117 9=some 9:= by kernel_rfl
theorem J6:Xv Tryz.prog 127 0=some 0:= by kernel_rfl
theorem YU:Xv Tryz.prog 127 1=some 1:= by kernel_rfl
theorem Yz:Xv Tryz.prog 127 2=some 2:= by kernel_rfl
theorem M2:Xv Tryz.prog 127 3=some 3:= by kernel_rfl
theorem M1:Xv Tryz.prog 158 0=some 0:= by kernel_rfl
theorem Je:Xv Tryz.prog 158 1=some 1:= by kernel_rfl
theorem M0:Xv Tryz.prog 158 2=some 2:= by kernel_rfl
theorem Mz:Xv Tryz.prog 158 3=some 3:= by kernel_rfl
theorem Yy:Xv Tryz.prog 183 0=some 0:= by kernel_rfl
theorem RZ:Xv Tryz.prog 183 1=some 1:= by kernel_rfl
theorem HA:Xv Tryz.prog 185 0=some 0:= by kernel_rfl
theorem U1:Xv Tryz.prog 185 1=some 1:= by kernel_rfl
theorem PA:Xv Tryz.prog 185 2=some 2:= by kernel_rfl
theorem P9:Xv Tryz.prog 185 3=some 3:= by kernel_rfl
theorem ZP:Xv Tryz.prog 188 0=some 0:= by kernel_rfl
theorem YT:Xv Tryz.prog 188 1=some 1:= by kernel_rfl
theorem RY:Xv Tryz.prog 188 2=some 2:= by kernel_rfl
theorem V9:Xv Tryz.prog 188 3=some 3:= by kernel_rfl
theorem My:Xv Tryz.prog 188 4=some 4:= by kernel_rfl
theorem Mx:Xv Tryz.prog 195 0=some 0:= by kernel_rfl
theorem RX:Xv Tryz.prog 195 1=some 1:= by kernel_rfl
theorem RW:Xv Tryz.prog 199 0=some 0:= by kernel_rfl
theorem U0:Xv Tryz.prog 199 1=some 1:= by kernel_rfl
theorem Mw:Xv Tryz.prog 199 2=some 2:= by kernel_rfl
theorem RV:Xv Tryz.prog 199 3=some 3:= by kernel_rfl
theorem RU:Xv Tryz.prog 205 0=some 0:= by kernel_rfl
theorem J5:Xv Tryz.prog 205 1=some 1:= by kernel_rfl
theorem RO:M4 Tryz.prog 127 0=some (0,none):= by kernel_rfl
theorem P5:M4 Tryz.prog 127 3=some (3,none):= by kernel_rfl
theorem KE:(Tryz.prog.info? 3).map (fun i=>(i.zero,i.size,i.bytes))=some (some (.int .i64 0),1,8):= by kernel_rfl
theorem Py:(Tryz.prog.info? 5).map (fun i=>(i.zero,i.size,i.bytes))=some (some (.int .u8 0),1,1):= by kernel_rfl
theorem ifo_9:(Tryz.prog.info? 9).map (fun i=>(i.zero,i.size,i.bytes))=some (some (.string ⟨#[]⟩),1,16):= by kernel_rfl
theorem ifo_76:(Tryz.prog.info? 76).map (fun i=>(i.zero,i.size,i.bytes))=some (some (.agg #[(.string ⟨#[]⟩),(.int .i64 0)]),2,24):= by kernel_rfl
theorem ifo_195:(Tryz.prog.info? 195).map (fun i=>(i.zero,i.size,i.bytes))=some (some (.agg #[(.bool false),(.int .u8 0),(.int .u8 0),(.int .u8 0),(.int .u8 0),(.int .u8 0),(.int .u8 0),(.int .u8 0),(.int .u8 0),(.int .u8 0),(.int .u8 0),(.int .u8 0),(.int .u8 0),(.int .u8 0),(.int .u8 0),(.int .u8 0),(.int .u8 0),(.int .u8 0),(.int .u8 0),(.int .u8 0),(.int .u8 0),(.int .u8 0),(.int .u8 0),(.int .u8 0),(.int .u8 0),(.int .u8 0),(.int .u8 0),(.int .u8 0),(.int .u8 0),(.int .u8 0),(.int .u8 0),(.int .u8 0),(.int .u8 0),(.int .u8 0),(.int .u8 0),(.int .u8 0),(.int .u8 0),(.int .u8 0),(.int .u8 0),(.int .u8 0),(.int .u8 0),(.int .u8 0),(.int .u8 0),(.int .u8 0),(.int .u8 0),(.int .u8 0),(.int .u8 0),(.int .u8 0),(.int .u8 0),(.int .u8 0),(.int .u8 0),(.int .u8 0),(.int .u8 0),(.int .u8 0),(.int .u8 0),(.int .u8 0),(.int .u8 0),(.int .u8 0),(.int .u8 0),(.int .u8 0),(.int .u8 0),(.int .u8 0),(.int .u8 0),(.int .u8 0),(.int .u8 0)]),65,65):= by kernel_rfl
theorem ifo_199:(Tryz.prog.info? 199).map (fun i=>(i.zero,i.size,i.bytes))=some (some (.agg #[(.bool false),(.bool false),(.bool false),(.int .i64 0)]),4,16):= by kernel_rfl
theorem Vi:(Tryz.prog.info? 3).map (fun i=>(i.zero,i.size))=some (some (.int .i64 0),1):= by kernel_rfl
theorem ifz_5:(Tryz.prog.info? 5).map (fun i=>(i.zero,i.size))=some (some (.int .u8 0),1):= by kernel_rfl
theorem ifz_9:(Tryz.prog.info? 9).map (fun i=>(i.zero,i.size))=some (some (.string ⟨#[]⟩),1):= by kernel_rfl
theorem ifz_76:(Tryz.prog.info? 76).map (fun i=>(i.zero,i.size))=some (some (.agg #[(.string ⟨#[]⟩),(.int .i64 0)]),2):= by kernel_rfl
theorem Wp:Tryz.prog.follows .mixedOrders=true:= by kernel_rfl
theorem FU:Ux Tryz.prog 155=true:= by kernel_rfl
theorem FT:Ux Tryz.prog 164=true:= by kernel_rfl
theorem OE:Z6 Tryz.prog 76 []=some []:= by kernel_rfl
theorem Yf:Z6 Tryz.prog 76 [0,1]=some [(0,1),(1,1)]:= by kernel_rfl
theorem MZ:Z6 Tryz.prog 85 [0,1,2,4]=some [(0,1),(1,1),(2,1),(4,1)]:= by kernel_rfl
theorem E7:Z6 Tryz.prog 88 [0,1]=some [(0,1),(1,1)]:= by kernel_rfl
theorem Pi:Z6 Tryz.prog 93 [0,1,2]=some [(0,1),(1,1),(2,1)]:= by kernel_rfl
theorem UO:Z6 Tryz.prog 117 [0,1,3,4,5,6,7,8]=some [(0,1),(1,1),(3,1),(4,1),(5,1),(6,1),(7,1),(8,1)]:= by kernel_rfl
theorem WY:Z6 Tryz.prog 127 [0,1,2]=some [(0,1),(1,1),(2,1)]:= by kernel_rfl
theorem C4:Z6 Tryz.prog 127 [0,1,3]=some [(0,1),(1,1),(3,1)]:= by kernel_rfl
theorem C3:Z6 Tryz.prog 158 [0,1,2]=some [(0,1),(1,1),(2,1)]:= by kernel_rfl
theorem H4:Z6 Tryz.prog 158 [0,1,2,3]=some [(0,1),(1,1),(2,1),(3,1)]:= by kernel_rfl
theorem OH:Z6 Tryz.prog 183 [0]=some [(0,1)]:= by kernel_rfl
theorem OG:Z6 Tryz.prog 185 [0]=some [(0,1)]:= by kernel_rfl
theorem Mc:Z6 Tryz.prog 188 [0,2,3,4]=some [(0,1),(2,1),(3,1),(4,1)]:= by kernel_rfl
theorem OF:Z6 Tryz.prog 195 [0]=some [(0,1)]:= by kernel_rfl
theorem pl_199_:Z6 Tryz.prog 199 []=some []:= by kernel_rfl
theorem Mb:Z6 Tryz.prog 199 [0,3]=some [(0,1),(3,1)]:= by kernel_rfl
theorem Ug:ZW Tryz.prog 3=some 1:= by kernel_rfl
theorem AW:ZW Tryz.prog 4=some 1:= by kernel_rfl
theorem UH:ZW Tryz.prog 5=some 1:= by kernel_rfl
theorem sz_9:ZW Tryz.prog 9=some 1:= by kernel_rfl
theorem Br:ZW Tryz.prog 22=some 1:= by kernel_rfl
theorem Wm:ZW Tryz.prog 28=some 1:= by kernel_rfl
theorem HO:ZW Tryz.prog 43=some 8:= by kernel_rfl
theorem Rz:ZW Tryz.prog 47=some 1:= by kernel_rfl
theorem sz_61:ZW Tryz.prog 61=some 1:= by kernel_rfl
theorem Xh:ZW Tryz.prog 76=some 2:= by kernel_rfl
theorem sz_98:ZW Tryz.prog 98=some 1:= by kernel_rfl
theorem AY:ZW Tryz.prog 109=some 1:= by kernel_rfl
theorem JY:ZW Tryz.prog 127=some 4:= by kernel_rfl
theorem Sw:ZW Tryz.prog 143=some 1:= by kernel_rfl
theorem UI:ZW Tryz.prog 167=some 64:= by kernel_rfl
theorem AX:ZW Tryz.prog 195=some 65:= by kernel_rfl
theorem KM:ZW Tryz.prog 199=some 4:= by kernel_rfl
theorem sz_203:ZW Tryz.prog 203=some 1:= by kernel_rfl
theorem HH:XZ Tryz.prog 3=some (some (.int .i64 0)):= by kernel_rfl
theorem zr_4:XZ Tryz.prog 4=some (some (.bool false)):= by kernel_rfl
theorem zr_5:XZ Tryz.prog 5=some (some (.int .u8 0)):= by kernel_rfl
theorem zr_28:XZ Tryz.prog 28=some (some (.int .i64 0)):= by kernel_rfl
theorem zr_43:XZ Tryz.prog 43=some (some (.agg #[(.int .i64 0),(.int .i64 0),(.string ⟨#[]⟩),(.string ⟨#[]⟩),(.int .i64 0),(.int .i64 0),(.int .i64 0),(.int .i64 0)])):= by kernel_rfl
theorem zr_47:XZ Tryz.prog 47=some (some (.slice none 0 0)):= by kernel_rfl
theorem ZM:XZ Tryz.prog 76=some (some (.agg #[(.string ⟨#[]⟩),(.int .i64 0)])):= by kernel_rfl
theorem zr_85:XZ Tryz.prog 85=some (some (.agg #[(.pointer none),(.map none),(.map none),(.int .i64 0),(.map none)])):= by kernel_rfl
theorem zr_88:XZ Tryz.prog 88=some (some (.agg #[(.int .i64 0),(.int .i64 0),(.int .u64 0),(.int .u64 0)])):= by kernel_rfl
theorem HI:XZ Tryz.prog 89=some (some (.pointer none)):= by kernel_rfl
theorem zr_93:XZ Tryz.prog 93=some (some (.agg #[(.int .i64 0),(.map none),(.map none)])):= by kernel_rfl
theorem Hv:XZ Tryz.prog 94=some (some (.pointer none)):= by kernel_rfl
theorem zr_117:XZ Tryz.prog 117=some (some (.agg #[(.map none),(.map none),(.slice none 0 0),(.pointer none),(.pointer none),(.pointer none),(.int .i64 0),(.int .i64 0),(.int .i64 0),(.slice none 0 0)])):= by kernel_rfl
theorem XH:XZ Tryz.prog 127=some (some (.agg #[(.int .i64 0),(.int .i64 0),(.int .i64 0),(.string ⟨#[]⟩)])):= by kernel_rfl
theorem Cm:XZ Tryz.prog 158=some (some (.agg #[(.map none),(.map none),(.map none),(.int .i64 0)])):= by kernel_rfl
theorem Uc:XZ Tryz.prog 164=some (some (.map none)):= by kernel_rfl
theorem zr_183:XZ Tryz.prog 183=some (some (.agg #[(.slice none 0 0),(.int .i64 0)])):= by kernel_rfl
theorem zr_185:XZ Tryz.prog 185=some (some (.agg #[(.slice none 0 0),(.int .i64 0),(.int .i64 0),(.int .i64 0)])):= by kernel_rfl
theorem zr_188:XZ Tryz.prog 188=some (some (.agg #[(.slice none 0 0),(.int .i64 0),(.map none),(.map none),(.map none)])):= by kernel_rfl
theorem zr_195:XZ Tryz.prog 195=some (some (.agg #[(.bool false),(.int .u8 0),(.int .u8 0),(.int .u8 0),(.int .u8 0),(.int .u8 0),(.int .u8 0),(.int .u8 0),(.int .u8 0),(.int .u8 0),(.int .u8 0),(.int .u8 0),(.int .u8 0),(.int .u8 0),(.int .u8 0),(.int .u8 0),(.int .u8 0),(.int .u8 0),(.int .u8 0),(.int .u8 0),(.int .u8 0),(.int .u8 0),(.int .u8 0),(.int .u8 0),(.int .u8 0),(.int .u8 0),(.int .u8 0),(.int .u8 0),(.int .u8 0),(.int .u8 0),(.int .u8 0),(.int .u8 0),(.int .u8 0),(.int .u8 0),(.int .u8 0),(.int .u8 0),(.int .u8 0),(.int .u8 0),(.int .u8 0),(.int .u8 0),(.int .u8 0),(.int .u8 0),(.int .u8 0),(.int .u8 0),(.int .u8 0),(.int .u8 0),(.int .u8 0),(.int .u8 0),(.int .u8 0),(.int .u8 0),(.int .u8 0),(.int .u8 0),(.int .u8 0),(.int .u8 0),(.int .u8 0),(.int .u8 0),(.int .u8 0),(.int .u8 0),(.int .u8 0),(.int .u8 0),(.int .u8 0),(.int .u8 0),(.int .u8 0),(.int .u8 0),(.int .u8 0)])):= by kernel_rfl
theorem Dq:XZ Tryz.prog 199=some (some (.agg #[(.bool false),(.bool false),(.bool false),(.int .i64 0)])):= by kernel_rfl
theorem Sn:XZ Tryz.prog 205=some (some (.agg #[(.pointer none),(.slice none 0 0)])):= by kernel_rfl
abbrev Bytes:=List UInt8
structure DS where
  F:Int→Bytes×Bytes
  Q:List (Int×Int)
  lost:Int
  down:Bool
  armed:Int
  keep:List Int
def Oy (F:Int→Bytes×Bytes) (f:Int) (x:Bytes×Bytes):Int→Bytes×Bytes:= fun k=> if k=f then x else F k
structure DInv (D:DS):Prop where
  now: ∀k,(D.F k).1.length≤16777216
  last: ∀k,(D.F k).2.length≤16777216
  nodup:D.Q.Nodup
  secs: ∀p∈D.Q,(0≤p.1∧p.1<16)∧0≤p.2∧p.2≤262144
  lost:0≤D.lost∧D.lost≤9223372036854775807
  armed:0≤D.armed∧D.armed≤9223372036854775807
structure DL where
  bf:Nat
  bs:Nat
  qv:Value
theorem Tj (a b:Bytes):X8 (a++b)=X8 a++X8 b:= by simp [X8]
theorem PX (a:Bytes) (k:Nat):(X8 a).take k=X8 (a.take k):= by simp [X8]
theorem PY (a:Bytes) (k:Nat):(X8 a).drop k=X8 (a.drop k):= by simp [X8]
theorem Ti (X t:Bytes) (a:Nat):X3 (X8 X) a (X8 t)=X8 (X.take a++t++X.drop (a+t.length)):= by
  simp [X3,Tj,PX,PY,YO]
theorem Dt (m:Nat):(List.replicate m (Value.int .u8 0).cells.toList).flatten=X8 (List.replicate m 0):= by
  have :(Value.int .u8 0).cells.toList=[.int .u8 0]:=rfl
  rw[this,flat1]; simp [X8]
def fillB (s:Bytes) (m:Nat):Bytes:=s++List.replicate (m -s.length) 0
theorem put1 (s:Bytes) (m:Nat) (h:s.length≤m):X3 (X8 (List.replicate m 0)) 0 (X8 (s.take m))=X8 (fillB s m):= by
  rw[Ti,List.take_of_length_le h]
  simp [fillB]
def inC:RowC Int:=⟨fun x=>[intV x],1, by decide, fun _=>rfl, fun _=>rfl⟩
def Rb:List (Int×Bytes×Bytes)→Int→Bytes×Bytes
  | [],_=>([],[])
  | x::l,f=> if x.1=f then x.2 else Rb l f
structure RInv (l:List (Int×Bytes×Bytes)) (D:DS):Prop where
  inv:DInv D
  says: ∀k,Rb l k=D.F k
  num: ∀x∈l,0≤x.1∧x.1<16
  nodup:(l.map (·.1)).Nodup
structure RL where
  fv:Value
  qv:Value
  l:List (Int×Bytes×Bytes)
theorem I7 {l m:List (Int×Bytes×Bytes)} {f:Int} (h: ∀x∈l,x.1≠f):Rb (l++m) f=Rb m f:= by
  induction l with
  | nil=>rfl
  | cons x l ih=> rw[List.cons_append,Rb,if_neg (h x (by simp)),ih fun y hy=>h y (by simp [hy])]
theorem P3 {l:List (Int×Bytes×Bytes)} {f k:Int} (h:k≠f) (m:List (Int×Bytes×Bytes)) (hm:Rb m k=([],[])):Rb (l.filter (fun x=>decide (x.1≠f))++m) k=Rb l k:= by
  induction l with
  | nil=> exact hm
  | cons x l ih=>
    by_cases e:x.1=f
    · rw[List.filter_cons_of_neg (by simp [e]),ih,Rb,if_neg (by omega)]
    · rw[List.filter_cons_of_pos (by simp [e]),List.cons_append,Rb,Rb,ih]
def putR (l:List (Int×Bytes×Bytes)) (x:Int×Bytes×Bytes):List (Int×Bytes×Bytes):=l.filter (fun y=>decide (y.1≠x.1))++[x]
theorem E1 {l:List (Int×Bytes×Bytes)} {F:Int→Bytes×Bytes} (h: ∀k,Rb l k=F k) (x:Int×Bytes×Bytes) (k:Int):Rb (putR l x) k=Oy F x.1 x.2 k:= by
  unfold putR Oy
  by_cases e:k=x.1
  · subst e
    rw[I7 (fun y hy=> by simpa using(List.mem_filter.1 hy).2),if_pos rfl]
    simp [Rb]
  · rw[P3 e [x] (by rw[Rb,if_neg (Ne.symm e)];rfl),if_neg e]; exact h k
theorem RInv.put {l:List (Int×Bytes×Bytes)} {D:DS} (h:RInv l D) (k:Int) (a b:Bytes) (hk:0≤k∧k<16) (ha:a.length≤16777216) (hb:b.length≤16777216):RInv (putR l (k,a,b)) {D with F:=Oy D.F k (a,b)}:= by
  refine⟨{h.inv with now:= fun j=> ?_,last:= fun j=> ?_},E1 h.says (k,a,b), fun x hx=> ?_, ?_⟩
  · simp only[Oy];split
    · exact ha
    · exact h.inv.now j
  · simp only[Oy];split
    · exact hb
    · exact h.inv.last j
  · rcases List.mem_append.1 hx with q | q
    · exact h.num x (List.mem_filter.1 q).1
    · simp at q; subst q; exact hk
  · unfold putR
    rw[List.map_append]
    refine List.nodup_append.2 ⟨(h.nodup.sublist (List.filter_sublist.map _)), by simp, ?_⟩
    intro x hx y hy e
    obtain⟨z,hz,rfl⟩:=List.mem_map.1 hx
    simp at hy
    have :=(List.mem_filter.1 hz).2
    simp at this
    exact this (e.trans hy)
theorem RInv.count {l:List (Int×Bytes×Bytes)} {D:DS} (h:RInv l D):l.length≤16:= by
  have hs: ∀x∈(l.map (·.1)).map Int.toNat,x∈List.range 16:= by
    intro x hx
    obtain⟨y,hy,rfl⟩:=List.mem_map.1 hx
    obtain⟨z,hz,rfl⟩:=List.mem_map.1 hy
    have :=h.num z hz
    simp;omega
  have hm:((l.map (·.1)).map Int.toNat).Nodup:= by
    refine List.pairwise_map.2 (h.nodup.imp_of_mem ?_)
    intro a b ha hb hne e
    obtain⟨z,hz,rfl⟩:=List.mem_map.1 ha
    obtain⟨y,hy,rfl⟩:=List.mem_map.1 hb
    have :=h.num z hz; have :=h.num y hy
    exact hne (by omega)
  have :=List.Nodup.length_le_of_subset hm hs
  simpa using this
theorem RInv.upd {l:List (Int×Bytes×Bytes)} {D D':DS} (h:RInv l D) (hF:D'.F=D.F) (hi:DInv D'):RInv l D':=⟨hi, fun k=> by rw[hF]; exact h.says k,h.num,h.nodup⟩
end Go.Proofs.YtkcjfoaejijdoaaGreatDoor
namespace Go.Proofs.YtkcjfoaejijdoaaGreatDoor.M
open Go.RowKit
section
variable {P:Program} {n:Nat} {ops:Array Oper} {Q:Exit→Act→World→Prop} {rest:List Oper} {L:Env} {w:World} {d:Nat} {ty:TypeId} {pos:String} {aft:Array Edge} {As:List Th}
theorem HK {x:Operand} {t e N b o sz:Nat} (hu:P.underlying t=some (.array N e)) (hN:Nat.blt 0 N=true) (hx:look L x=some (ptrV b o)) (hs:ZW P e=some sz) (hd:Nat.blt d n=true) (hk:wl P n ops Q rest ((d,.slice (some ⟨b,o,none⟩) N N)::L) w):wl P n ops Q (⟨some d,.slice t x none none none,ty,pos,aft,none⟩::rest) L w:=
  Xo hd (fun ρ hρ=> by
    have h3: ∀w,(sizeOf e).run P w= .ok sz w:= fun w=>run_sizeOf hs w
    have hn: ¬N=0:= by simp at hN;omega
    simp [execOp,hρ _ _ hx,Instr.sliceAt,run_underlying hu,Instr.sureAddr,Instr.sliceBounds,h3,hn]
    simp [Addr.add]) hk
end
def Un (sz:Nat) (v:Value) (A B:Nat):Value:= match v with
  | .slice a _ cap=> .slice (if cap=A then a else a.map fun p=>p.add (A*sz)) (B -A) (cap -A)
  | v=>v
section
variable {P:Program} {n:Nat} {ops:Array Oper} {Q:Exit→Act→World→Prop} {rest:List Oper} {L:Env} {w:World} {d:Nat} {ty:TypeId} {pos:String} {aft:Array Edge}
theorem CH {x:Operand} {t e m cap sz:Nat} {a:Option Addr} {lo hi:Option Operand} (A B:Nat) (hu:P.underlying t=some (.slice e)) (hs:ZW P e=some sz) (hx:look L x=some (.slice a m cap)) (hlo:bndL L lo 0 A) (hhi:bndL L hi m B) (h1:A≤B) (h2:B≤cap):
    Ev P L w ⟨some d,.slice t x lo hi none,ty,pos,aft,none⟩ (Un sz (.slice a m cap) A B):= fun ρ hρ=> by
  have hb:=KS (P:=P) true m cap _ _ A B (hlo.val hρ) (hhi.val hρ) h1 h2 w
  simp only[execOp,hρ _ _ hx]
  simp [Instr.sliceAt,Instr.slice,run_underlying hu,hb,run_sizeOf hs,Un]
theorem BG {x:Operand} {t e m cap sz:Nat} {a:Option Addr} {lo hi:Option Operand} (A B:Nat) (hu:P.underlying t=some (.slice e)) (hs:ZW P e=some sz) (hx:look L x=some (.slice a m cap)) (hlo:bndL L lo 0 A) (hhi:bndL L hi m B) (h1:A≤B) (h2:B≤cap) (hd:Nat.blt d n=true)
    (hk:wl P n ops Q rest ((d,Un sz (.slice a m cap) A B)::L) w):wl P n ops Q (⟨some d,.slice t x lo hi none,ty,pos,aft,none⟩::rest) L w:=Xo hd (CH A B hu hs hx hlo hhi h1 h2) hk
end
theorem Tu {sz b o m cap A B:Nat} (h:A<cap):Un sz (.slice (some ⟨b,o,none⟩) m cap) A B= .slice (some ⟨b,o+A*sz,none⟩) (B -A) (cap -A):= by
  unfold Un
  dsimp only
  rw[if_neg (by omega),Option.map_some,Wb]
section
variable {α:Type} {C:RowC α} {l:List α} {w:World}
theorem RdL.view {a:Option Addr} {m cap A B:Nat} (h:RdL C (.slice a m cap) l w) (hc:m≤cap) (h1:A≤B) (h2:B≤l.length):RdL C (Un C.size (.slice a m cap) A B) ((l.take B).drop A) w:= by
  obtain⟨ao,cap',e1,e2,e3⟩:=h
  cases e1
  have hl:((l.take B).drop A).length=B -A:= by rw[List.length_drop,List.length_take];omega
  refine⟨_,_, by rw[hl];rfl, by omega, fun i x hx=> ?_⟩
  have hi:=(XQ hx).1
  rw[List.getElem?_drop,List.getElem?_take,if_pos (by omega)]at hx
  obtain⟨b,off,rfl,hcell⟩:=e3 _ _ hx
  refine⟨b,off+A*C.size, by rw[if_neg (by omega),Option.map_some,Wb], fun j u hu=> ?_⟩
  have :=hcell j u hu
  rw[Nat.add_mul]at this
  rw[show off+A*C.size+i*C.size+j=off+(A*C.size+i*C.size)+j by omega]
  exact this
theorem PH {a:Option Addr} {cap A B:Nat} (hl:l.length≤9223372036854775807) (h1:A≤B) (h2:B≤l.length) (hc:l.length≤cap):Ent (rowT C (.slice a l.length cap) l) (RdL C (Un C.size (.slice a l.length cap) A B) ((l.take B).drop A)):= fun h=>(Hj hl h).view hc h1 h2
theorem RdL.at_ {b off m cap i:Nat} {a:α} (h:RdL C (.slice (some ⟨b,off,none⟩) m cap) l w) (ha:l[i]? =some a): ∀(j:Nat) (u:Value),(C.enc a)[j]? =some u→w.cell? ⟨b,off+i*C.size+j,none⟩=some u:= by
  obtain⟨b',off',e,h2⟩:=h.get ha
  cases e
  exact h2
end
end Go.Proofs.YtkcjfoaejijdoaaGreatDoor.M
