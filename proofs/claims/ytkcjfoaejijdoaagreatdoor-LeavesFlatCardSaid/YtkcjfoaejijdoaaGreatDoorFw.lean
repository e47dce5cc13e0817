/- Closed facts of the program: offsets, sizes, zero values. -/
import Derived.Test.YtkcjfoaejijdoaaGreatDoorRow
import Derived.Test.YtkcjfoaejijdoaaGreatDoorMap
namespace Go.Proofs.YtkcjfoaejijdoaaGreatDoor
open Go.RowKit M
theorem QS:ZQ Tryz.prog 3=some false:= by kernel_rfl
theorem MQ:ZQ Tryz.prog 4=some false:= by kernel_rfl
theorem ag_5:ZQ Tryz.prog 5=some false:= by kernel_rfl
theorem ZI:ZQ Tryz.prog 9=some false:= by kernel_rfl
theorem Y2:ZQ Tryz.prog 22=some false:= by kernel_rfl
theorem Xu:ZQ Tryz.prog 25=some false:= by kernel_rfl
theorem Gw:ZQ Tryz.prog 28=some false:= by kernel_rfl
theorem VU:ZQ Tryz.prog 43=some true:= by kernel_rfl
theorem YZ:ZQ Tryz.prog 47=some false:= by kernel_rfl
theorem Gv:ZQ Tryz.prog 61=some false:= by kernel_rfl
theorem XE:ZQ Tryz.prog 76=some true:= by kernel_rfl
theorem BB:ZQ Tryz.prog 81=some false:= by kernel_rfl
theorem Y6:ZQ Tryz.prog 82=some false:= by kernel_rfl
theorem ag_83:ZQ Tryz.prog 83=some false:= by kernel_rfl
theorem JM:ZQ Tryz.prog 90=some false:= by kernel_rfl
theorem Ck:ZQ Tryz.prog 91=some false:= by kernel_rfl
theorem ag_98:ZQ Tryz.prog 98=some false:= by kernel_rfl
theorem Zq:ZQ Tryz.prog 108=some false:= by kernel_rfl
theorem Ju:ZQ Tryz.prog 109=some false:= by kernel_rfl
theorem YK:ZQ Tryz.prog 110=some false:= by kernel_rfl
theorem VV:ZQ Tryz.prog 112=some false:= by kernel_rfl
theorem Nz:ZQ Tryz.prog 114=some false:= by kernel_rfl
theorem qbc:ZQ Tryz.prog 127=some true:= by kernel_rfl
theorem Uj:ZQ Tryz.prog 143=some false:= by kernel_rfl
theorem YJ:ZQ Tryz.prog 155=some false:= by kernel_rfl
theorem Ye:ZQ Tryz.prog 156=some false:= by kernel_rfl
theorem ag_164:ZQ Tryz.prog 164=some false:= by kernel_rfl
theorem Bm:ZQ Tryz.prog 167=some true:= by kernel_rfl
theorem Vf:ZQ Tryz.prog 181=some false:= by kernel_rfl
theorem Jt:ZQ Tryz.prog 186=some false:= by kernel_rfl
theorem ag_195:ZQ Tryz.prog 195=some true:= by kernel_rfl
theorem qbb:ZQ Tryz.prog 199=some true:= by kernel_rfl
theorem F8:ZQ Tryz.prog 203=some false:= by kernel_rfl
theorem Ui:Hi Tryz.prog 76=true:= by kernel_rfl
theorem asz_85:Hi Tryz.prog 85=true:= by kernel_rfl
theorem asz_88:Hi Tryz.prog 88=true:= by kernel_rfl
theorem asz_93:Hi Tryz.prog 93=true:= by kernel_rfl
theorem asz_117:Hi Tryz.prog 117=true:= by kernel_rfl
theorem HZ:Hi Tryz.prog 127=true:= by kernel_rfl
theorem Dr:Hi Tryz.prog 158=true:= by kernel_rfl
theorem asz_183:Hi Tryz.prog 183=true:= by kernel_rfl
theorem asz_185:Hi Tryz.prog 185=true:= by kernel_rfl
theorem asz_188:Hi Tryz.prog 188=true:= by kernel_rfl
theorem asz_195:Hi Tryz.prog 195=true:= by kernel_rfl
theorem Nw:Hi Tryz.prog 199=true:= by kernel_rfl
theorem cal_8:QM Tryz.prog 8=true:= by kernel_rfl
theorem cal_9:QM Tryz.prog 9=true:= by kernel_rfl
theorem Bi:QM Tryz.prog 10=true:= by kernel_rfl
theorem F4:QM Tryz.prog 11=true:= by kernel_rfl
theorem Bh:QM Tryz.prog 12=true:= by kernel_rfl
theorem Np:QM Tryz.prog 13=true:= by kernel_rfl
theorem Nn:QM Tryz.prog 14=true:= by kernel_rfl
theorem cal_15:QM Tryz.prog 15=true:= by kernel_rfl
theorem cal_16:QM Tryz.prog 16=true:= by kernel_rfl
theorem F3:QM Tryz.prog 17=true:= by kernel_rfl
theorem Nf:QM Tryz.prog 19=true:= by kernel_rfl
theorem Bg:QM Tryz.prog 23=true:= by kernel_rfl
theorem Fz:QM Tryz.prog 27=true:= by kernel_rfl
theorem cal_31:QM Tryz.prog 31=true:= by kernel_rfl
theorem cal_32:QM Tryz.prog 32=true:= by kernel_rfl
theorem Fy:QM Tryz.prog 33=true:= by kernel_rfl
theorem JU:QM Tryz.prog 34=true:= by kernel_rfl
theorem cal_35:QM Tryz.prog 35=true:= by kernel_rfl
theorem Nb:QM Tryz.prog 36=true:= by kernel_rfl
theorem Fx:QM Tryz.prog 37=true:= by kernel_rfl
theorem Na:QM Tryz.prog 38=true:= by kernel_rfl
theorem qax:QM Tryz.prog 39=true:= by kernel_rfl
theorem Fw:QM Tryz.prog 40=true:= by kernel_rfl
theorem Fv:QM Tryz.prog 41=true:= by kernel_rfl
theorem Bf:QM Tryz.prog 42=true:= by kernel_rfl
theorem Hf:QM Tryz.prog 43=true:= by kernel_rfl
theorem qaw:QM Tryz.prog 44=true:= by kernel_rfl
theorem qav:QM Tryz.prog 45=true:= by kernel_rfl
theorem Be:QM Tryz.prog 46=true:= by kernel_rfl
theorem qau:QM Tryz.prog 47=true:= by kernel_rfl
theorem YG:QM Tryz.prog 48=true:= by kernel_rfl
theorem Fu:QM Tryz.prog 49=true:= by kernel_rfl
theorem cal_50:QM Tryz.prog 50=true:= by kernel_rfl
theorem Ft:QM Tryz.prog 51=true:= by kernel_rfl
theorem qat:QM Tryz.prog 52=true:= by kernel_rfl
theorem MI:QM Tryz.prog 53=true:= by kernel_rfl
theorem qas:QM Tryz.prog 54=true:= by kernel_rfl
theorem cal_55:QM Tryz.prog 55=true:= by kernel_rfl
theorem cal_56:QM Tryz.prog 56=true:= by kernel_rfl
theorem cal_57:QM Tryz.prog 57=true:= by kernel_rfl
theorem cal_58:QM Tryz.prog 58=true:= by kernel_rfl
theorem cal_59:QM Tryz.prog 59=true:= by kernel_rfl
theorem cal_62:QM Tryz.prog 62=true:= by kernel_rfl
theorem Fq:QM Tryz.prog 71=true:= by kernel_rfl
theorem MH:QM Tryz.prog 72=true:= by kernel_rfl
theorem qar:QM Tryz.prog 73=true:= by kernel_rfl
theorem CZ:QM Tryz.prog 76=true:= by kernel_rfl
theorem cal_85:QM Tryz.prog 85=true:= by kernel_rfl
theorem Fp:QM Tryz.prog 90=true:= by kernel_rfl
theorem Fo:QM Tryz.prog 91=true:= by kernel_rfl
theorem Fn:QM Tryz.prog 92=true:= by kernel_rfl
theorem qaq:QM Tryz.prog 93=true:= by kernel_rfl
theorem Fm:QM Tryz.prog 94=true:= by kernel_rfl
theorem CY:QM Tryz.prog 95=true:= by kernel_rfl
theorem Fk:QM Tryz.prog 96=true:= by kernel_rfl
theorem Fj:QM Tryz.prog 97=true:= by kernel_rfl
theorem Bd:QM Tryz.prog 98=true:= by kernel_rfl
theorem Fi:QM Tryz.prog 99=true:= by kernel_rfl
theorem cal_100:QM Tryz.prog 100=true:= by kernel_rfl
theorem cal_101:QM Tryz.prog 101=true:= by kernel_rfl
theorem UZ:QM Tryz.prog 102=true:= by kernel_rfl
theorem LA:QM Tryz.prog 103=true:= by kernel_rfl
theorem Gn:QM Tryz.prog 104=true:= by kernel_rfl
theorem Gm:QM Tryz.prog 105=true:= by kernel_rfl
theorem UY:QM Tryz.prog 106=true:= by kernel_rfl
theorem cal_107:QM Tryz.prog 107=true:= by kernel_rfl
theorem L9:QM Tryz.prog 108=true:= by kernel_rfl
theorem L8:QM Tryz.prog 109=true:= by kernel_rfl
theorem cal_110:QM Tryz.prog 110=true:= by kernel_rfl
theorem L7:QM Tryz.prog 112=true:= by kernel_rfl
theorem L6:QM Tryz.prog 113=true:= by kernel_rfl
theorem L5:QM Tryz.prog 114=true:= by kernel_rfl
theorem L4:QM Tryz.prog 115=true:= by kernel_rfl
theorem cal_116:QM Tryz.prog 116=true:= by kernel_rfl
theorem cal_117:QM Tryz.prog 117=true:= by kernel_rfl
theorem Lz:QM Tryz.prog 118=true:= by kernel_rfl
theorem cal_119:QM Tryz.prog 119=true:= by kernel_rfl
theorem cal_120:QM Tryz.prog 120=true:= by kernel_rfl
theorem cal_121:QM Tryz.prog 121=true:= by kernel_rfl
theorem cal_125:QM Tryz.prog 125=true:= by kernel_rfl
theorem cal_137:QM Tryz.prog 137=true:= by kernel_rfl
theorem Dq:QM Tryz.prog 138=true:= by kernel_rfl
theorem Dp:QM Tryz.prog 139=true:= by kernel_rfl
theorem Ly:QM Tryz.prog 140=true:= by kernel_rfl
theorem Nl:QM Tryz.prog 141=true:= by kernel_rfl
theorem Do:QM Tryz.prog 142=true:= by kernel_rfl
theorem Lx:QM Tryz.prog 143=true:= by kernel_rfl
theorem Lw:QM Tryz.prog 144=true:= by kernel_rfl
theorem Lv:QM Tryz.prog 145=true:= by kernel_rfl
theorem Dn:QM Tryz.prog 146=true:= by kernel_rfl
theorem cal_147:QM Tryz.prog 147=true:= by kernel_rfl
theorem cal_148:QM Tryz.prog 148=true:= by kernel_rfl
theorem cal_149:QM Tryz.prog 149=true:= by kernel_rfl
theorem cal_150:QM Tryz.prog 150=true:= by kernel_rfl
theorem cal_151:QM Tryz.prog 151=true:= by kernel_rfl
theorem Nk:QM Tryz.prog 152=true:= by kernel_rfl
theorem Nj:QM Tryz.prog 153=true:= by kernel_rfl
theorem cal_154:QM Tryz.prog 154=true:= by kernel_rfl
theorem Ni:QM Tryz.prog 155=true:= by kernel_rfl
theorem cal_156:QM Tryz.prog 156=true:= by kernel_rfl
theorem cal_157:QM Tryz.prog 157=true:= by kernel_rfl
theorem Kw:QM Tryz.prog 158=true:= by kernel_rfl
theorem Gl:QM Tryz.prog 159=true:= by kernel_rfl
theorem Gk:QM Tryz.prog 160=true:= by kernel_rfl
theorem Lu:QM Tryz.prog 161=true:= by kernel_rfl
theorem Lt:QM Tryz.prog 162=true:= by kernel_rfl
theorem cal_163:QM Tryz.prog 163=true:= by kernel_rfl
theorem cal_166:QM Tryz.prog 166=true:= by kernel_rfl
theorem cal_169:QM Tryz.prog 169=true:= by kernel_rfl
theorem Gj:QM Tryz.prog 170=true:= by kernel_rfl
theorem cal_171:QM Tryz.prog 171=true:= by kernel_rfl
theorem Ls:QM Tryz.prog 172=true:= by kernel_rfl
theorem cal_173:QM Tryz.prog 173=true:= by kernel_rfl
theorem cal_175:QM Tryz.prog 175=true:= by kernel_rfl
theorem Nh:QM Tryz.prog 176=true:= by kernel_rfl
theorem cal_177:QM Tryz.prog 177=true:= by kernel_rfl
theorem cal_178:QM Tryz.prog 178=true:= by kernel_rfl
theorem cal_179:QM Tryz.prog 179=true:= by kernel_rfl
theorem cal_180:QM Tryz.prog 180=true:= by kernel_rfl
theorem cal_185:QM Tryz.prog 185=true:= by kernel_rfl
theorem Ng:QM Tryz.prog 186=true:= by kernel_rfl
theorem Lr:QM Tryz.prog 187=true:= by kernel_rfl
theorem Lq:QM Tryz.prog 188=true:= by kernel_rfl
theorem cal_189:QM Tryz.prog 189=true:= by kernel_rfl
theorem cal_203:QM Tryz.prog 203=true:= by kernel_rfl
theorem cal_204:QM Tryz.prog 204=true:= by kernel_rfl
theorem cal_205:QM Tryz.prog 205=true:= by kernel_rfl
theorem cal_215:QM Tryz.prog 215=true:= by kernel_rfl
theorem Lp:QM Tryz.prog 216=true:= by kernel_rfl
theorem Nd:QM Tryz.prog 220=true:= by kernel_rfl
theorem cal_221:QM Tryz.prog 221=true:= by kernel_rfl
theorem cal_222:QM Tryz.prog 222=true:= by kernel_rfl
theorem Nc:QM Tryz.prog 223=true:= by kernel_rfl
theorem cal_238:QM Tryz.prog 238=true:= by kernel_rfl
theorem VH:YE Tryz.prog 36=some 8:= by kernel_rfl
theorem Gf:YE Tryz.prog 47=some 1:= by kernel_rfl
theorem KG:YE Tryz.prog 61=some 1:= by kernel_rfl
theorem B4:YE Tryz.prog 98=some 2:= by kernel_rfl
theorem IQ:YE Tryz.prog 143=some 1:= by kernel_rfl
theorem VI:YE Tryz.prog 181=some 65:= by kernel_rfl
theorem He:YE Tryz.prog 186=some 4:= by kernel_rfl
theorem Dd:X1 Tryz.prog 43 0=some 0:= by kernel_rfl
theorem ZR:X1 Tryz.prog 43 2=some 2:= by kernel_rfl
theorem UV:X1 Tryz.prog 43 3=some 3:= by kernel_rfl
theorem HX:X1 Tryz.prog 43 4=some 4:= by kernel_rfl
theorem HW:X1 Tryz.prog 43 5=some 5:= by kernel_rfl
theorem W3:X1 Tryz.prog 43 6=some 6:= by kernel_rfl
theorem RU:X1 Tryz.prog 43 7=some 7:= by kernel_rfl
theorem Yz:X1 Tryz.prog 76 0=some 0:= by kernel_rfl
theorem Dc:X1 Tryz.prog 76 1=some 1:= by kernel_rfl
theorem XM:X1 Tryz.prog 85 0=some 0:= by kernel_rfl
theorem UU:X1 Tryz.prog 85 1=some 1:= by kernel_rfl
theorem W2:X1 Tryz.prog 85 2=some 2:= by kernel_rfl
theorem Lf:X1 Tryz.prog 85 4=some 4:= by kernel_rfl
theorem Db:X1 Tryz.prog 88 0=some 0:= by kernel_rfl
theorem Jy:X1 Tryz.prog 88 1=some 1:= by kernel_rfl
theorem YP:X1 Tryz.prog 88 2=some 2:= by kernel_rfl
theorem WD:X1 Tryz.prog 88 3=some 3:= by kernel_rfl
theorem Yy:X1 Tryz.prog 93 0=some 0:= by kernel_rfl
theorem Wj:X1 Tryz.prog 93 1=some 1:= by kernel_rfl
theorem RT:X1 Tryz.prog 93 2=some 2:= by kernel_rfl
theorem XS:X1 Tryz.prog 117 0=some 0:= by kernel_rfl
theorem HE:X1 Tryz.prog 117 1=some 1:= by kernel_rfl
theorem WE:X1 Tryz.prog 117 2=some 2:= by kernel_rfl
theorem WP:X1 Tryz.prog 117 3=some 3:= by kernel_rfl
theorem YX:X1 Tryz.prog 117 4=some 4:= by kernel_rfl
theorem Gb:X1 Tryz.prog 117 5=some 5:= by kernel_rfl
theorem IB:X1 Tryz.prog 117 6=some 6:= by kernel_rfl
theorem PC:X1 Tryz.prog 117 7=some 7:= by kernel_rfl
theorem M3:X1 Tryz.prog 117 8=some 8:= by kernel_rfl
theorem PB:X1 Tryz.prog 117 9=some 9:= by kernel_rfl
theorem JB:X1 Tryz.prog 127 0=some 0:= by kernel_rfl
theorem YW:X1 Tryz.prog 127 1=some 1:= by kernel_rfl
theorem Y1:X1 Tryz.prog 127 2=some 2:= by kernel_rfl
theorem M2:X1 Tryz.prog 127 3=some 3:= by kernel_rfl
theorem M1:X1 Tryz.prog 158 0=some 0:= by kernel_rfl
theorem Jj:X1 Tryz.prog 158 1=some 1:= by kernel_rfl
theorem M0:X1 Tryz.prog 158 2=some 2:= by kernel_rfl
theorem Mz:X1 Tryz.prog 158 3=some 3:= by kernel_rfl
theorem Y0:X1 Tryz.prog 183 0=some 0:= by kernel_rfl
theorem Ga:X1 Tryz.prog 183 1=some 1:= by kernel_rfl
theorem HD:X1 Tryz.prog 185 0=some 0:= by kernel_rfl
theorem U3:X1 Tryz.prog 185 1=some 1:= by kernel_rfl
theorem PA:X1 Tryz.prog 185 2=some 2:= by kernel_rfl
theorem P9:X1 Tryz.prog 185 3=some 3:= by kernel_rfl
theorem ZV:X1 Tryz.prog 188 0=some 0:= by kernel_rfl
theorem YV:X1 Tryz.prog 188 1=some 1:= by kernel_rfl
theorem RZ:X1 Tryz.prog 188 2=some 2:= by kernel_rfl
theorem VB:X1 Tryz.prog 188 3=some 3:= by kernel_rfl
theorem My:X1 Tryz.prog 188 4=some 4:= by kernel_rfl
theorem Mx:X1 Tryz.prog 195 0=some 0:= by kernel_rfl
theorem RY:X1 Tryz.prog 195 1=some 1:= by kernel_rfl
theorem RX:X1 Tryz.prog 199 0=some 0:= by kernel_rfl
theorem U2:X1 Tryz.prog 199 1=some 1:= by kernel_rfl
theorem Mw:X1 Tryz.prog 199 2=some 2:= by kernel_rfl
theorem RW:X1 Tryz.prog 199 3=some 3:= by kernel_rfl
theorem RV:X1 Tryz.prog 205 0=some 0:= by kernel_rfl
theorem JA:X1 Tryz.prog 205 1=some 1:= by kernel_rfl
theorem RP:M4 Tryz.prog 127 0=some (0,none):= by kernel_rfl
theorem P5:M4 Tryz.prog 127 3=some (3,none):= by kernel_rfl
theorem KE:(Tryz.prog.info? 3).map (fun i=>(i.zero,i.size,i.bytes))=some (some (.int .i64 0),1,8):= by kernel_rfl
theorem Py:(Tryz.prog.info? 5).map (fun i=>(i.zero,i.size,i.bytes))=some (some (.int .u8 0),1,1):= by kernel_rfl
theorem ifo_9:(Tryz.prog.info? 9).map (fun i=>(i.zero,i.size,i.bytes))=some (some (.string ⟨#[]⟩),1,16):= by kernel_rfl
theorem ifo_76:(Tryz.prog.info? 76).map (fun i=>(i.zero,i.size,i.bytes))=some (some (.agg #[(.string ⟨#[]⟩),(.int .i64 0)]),2,24):= by kernel_rfl
theorem ifo_195:(Tryz.prog.info? 195).map (fun i=>(i.zero,i.size,i.bytes))=some (some (.agg #[(.bool false),(.int .u8 0),(.int .u8 0),(.int .u8 0),(.int .u8 0),(.int .u8 0),(.int .u8 0),(.int .u8 0),(.int .u8 0),(.int .u8 0),(.int .u8 0),(.int .u8 0),(.int .u8 0),(.int .u8 0),(.int .u8 0),(.int .u8 0),(.int .u8 0),(.int .u8 0),(.int .u8 0),(.int .u8 0),(.int .u8 0),(.int .u8 0),(.int .u8 0),(.int .u8 0),(.int .u8 0),(.int .u8 0),(.int .u8 0),(.int .u8 0),(.int .u8 0),(.int .u8 0),(.int .u8 0),(.int .u8 0),(.int .u8 0),(.int .u8 0),(.int .u8 0),(.int .u8 0),(.int .u8 0),(.int .u8 0),(.int .u8 0),(.int .u8 0),(.int .u8 0),(.int .u8 0),(.int .u8 0),(.int .u8 0),(.int .u8 0),(.int .u8 0),(.int .u8 0),(.int .u8 0),(.int .u8 0),(.int .u8 0),(.int .u8 0),(.int .u8 0),(.int .u8 0),(.int .u8 0),(.int .u8 0),(.int .u8 0),(.int .u8 0),(.int .u8 0),(.int .u8 0),(.int .u8 0),(.int .u8 0),(.int .u8 0),(.int .u8 0),(.int .u8 0),(.int .u8 0)]),65,65):= by kernel_rfl
theorem ifo_199:(Tryz.prog.info? 199).map (fun i=>(i.zero,i.size,i.bytes))=some (some (.agg #[(.bool false),(.bool false),(.bool false),(.int .i64 0)]),4,16):= by kernel_rfl
theorem Vj:(Tryz.prog.info? 3).map (fun i=>(i.zero,i.size))=some (some (.int .i64 0),1):= by kernel_rfl
theorem ifz_5:(Tryz.prog.info? 5).map (fun i=>(i.zero,i.size))=some (some (.int .u8 0),1):= by kernel_rfl
theorem ifz_9:(Tryz.prog.info? 9).map (fun i=>(i.zero,i.size))=some (some (.string ⟨#[]⟩),1):= by kernel_rfl
theorem ifz_76:(Tryz.prog.info? 76).map (fun i=>(i.zero,i.size))=some (some (.agg #[(.string ⟨#[]⟩),(.int .i64 0)]),2):= by kernel_rfl
theorem Wu:Tryz.prog.follows .mixedOrders=true:= by kernel_rfl
theorem FT:Uz Tryz.prog 155=true:= by kernel_rfl
theorem zFS:Uz Tryz.prog 164=true:= by kernel_rfl
theorem OD:ZC Tryz.prog 76 []=some []:= by kernel_rfl
theorem Yh:ZC Tryz.prog 76 [0,1]=some [(0,1),(1,1)]:= by kernel_rfl
theorem MZ:ZC Tryz.prog 85 [0,1,2,4]=some [(0,1),(1,1),(2,1),(4,1)]:= by kernel_rfl
theorem E6:ZC Tryz.prog 88 [0,1]=some [(0,1),(1,1)]:= by kernel_rfl
theorem Pi:ZC Tryz.prog 93 [0,1,2]=some [(0,1),(1,1),(2,1)]:= by kernel_rfl
theorem UP:ZC Tryz.prog 117 [0,1,3,4,5,6,7,8]=some [(0,1),(1,1),(3,1),(4,1),(5,1),(6,1),(7,1),(8,1)]:= by kernel_rfl
theorem Jc:ZC Tryz.prog 127 [0,1,2]=some [(0,1),(1,1),(2,1)]:= by kernel_rfl
theorem C4:ZC Tryz.prog 127 [0,1,3]=some [(0,1),(1,1),(3,1)]:= by kernel_rfl
theorem C3:ZC Tryz.prog 158 [0,1,2]=some [(0,1),(1,1),(2,1)]:= by kernel_rfl
theorem H8:ZC Tryz.prog 158 [0,1,2,3]=some [(0,1),(1,1),(2,1),(3,1)]:= by kernel_rfl
theorem OG:ZC Tryz.prog 183 [0]=some [(0,1)]:= by kernel_rfl
theorem OF:ZC Tryz.prog 185 [0]=some [(0,1)]:= by kernel_rfl
theorem Mc:ZC Tryz.prog 188 [0,2,3,4]=some [(0,1),(2,1),(3,1),(4,1)]:= by kernel_rfl
theorem OE:ZC Tryz.prog 195 [0]=some [(0,1)]:= by kernel_rfl
theorem pl_199_:ZC Tryz.prog 199 []=some []:= by kernel_rfl
theorem Mb:ZC Tryz.prog 199 [0,3]=some [(0,1),(3,1)]:= by kernel_rfl
theorem Uq:Wc Tryz.prog 3=some 1:= by kernel_rfl
theorem AV:Wc Tryz.prog 4=some 1:= by kernel_rfl
theorem UJ:Wc Tryz.prog 5=some 1:= by kernel_rfl
theorem sz_9:Wc Tryz.prog 9=some 1:= by kernel_rfl
theorem Bu:Wc Tryz.prog 22=some 1:= by kernel_rfl
theorem Bt:Wc Tryz.prog 28=some 1:= by kernel_rfl
theorem HQ:Wc Tryz.prog 43=some 8:= by kernel_rfl
theorem Rz:Wc Tryz.prog 47=some 1:= by kernel_rfl
theorem sz_61:Wc Tryz.prog 61=some 1:= by kernel_rfl
theorem Xn:Wc Tryz.prog 76=some 2:= by kernel_rfl
theorem sz_98:Wc Tryz.prog 98=some 1:= by kernel_rfl
theorem AX:Wc Tryz.prog 109=some 1:= by kernel_rfl
theorem Ya:Wc Tryz.prog 127=some 4:= by kernel_rfl
theorem Sw:Wc Tryz.prog 143=some 1:= by kernel_rfl
theorem UK:Wc Tryz.prog 167=some 64:= by kernel_rfl
theorem AW:Wc Tryz.prog 195=some 65:= by kernel_rfl
theorem KM:Wc Tryz.prog 199=some 4:= by kernel_rfl
theorem sz_203:Wc Tryz.prog 203=some 1:= by kernel_rfl
theorem HJ:Zf Tryz.prog 3=some (some (.int .i64 0)):= by kernel_rfl
theorem zr_4:Zf Tryz.prog 4=some (some (.bool false)):= by kernel_rfl
theorem zr_5:Zf Tryz.prog 5=some (some (.int .u8 0)):= by kernel_rfl
theorem zr_28:Zf Tryz.prog 28=some (some (.int .i64 0)):= by kernel_rfl
theorem zr_43:Zf Tryz.prog 43=some (some (.agg #[(.int .i64 0),(.int .i64 0),(.string ⟨#[]⟩),(.string ⟨#[]⟩),(.int .i64 0),(.int .i64 0),(.int .i64 0),(.int .i64 0)])):= by kernel_rfl
theorem zr_47:Zf Tryz.prog 47=some (some (.slice none 0 0)):= by kernel_rfl
theorem ZS:Zf Tryz.prog 76=some (some (.agg #[(.string ⟨#[]⟩),(.int .i64 0)])):= by kernel_rfl
theorem zr_85:Zf Tryz.prog 85=some (some (.agg #[(.pointer none),(.map none),(.map none),(.int .i64 0),(.map none)])):= by kernel_rfl
theorem zr_88:Zf Tryz.prog 88=some (some (.agg #[(.int .i64 0),(.int .i64 0),(.int .u64 0),(.int .u64 0)])):= by kernel_rfl
theorem HK:Zf Tryz.prog 89=some (some (.pointer none)):= by kernel_rfl
theorem zr_93:Zf Tryz.prog 93=some (some (.agg #[(.int .i64 0),(.map none),(.map none)])):= by kernel_rfl
theorem Hz:Zf Tryz.prog 94=some (some (.pointer none)):= by kernel_rfl
theorem zr_117:Zf Tryz.prog 117=some (some (.agg #[(.map none),(.map none),(.slice none 0 0),(.pointer none),(.pointer none),(.pointer none),(.int .i64 0),(.int .i64 0),(.int .i64 0),(.slice none 0 0)])):= by kernel_rfl
theorem XO:Zf Tryz.prog 127=some (some (.agg #[(.int .i64 0),(.int .i64 0),(.int .i64 0),(.string ⟨#[]⟩)])):= by kernel_rfl
theorem Cm:Zf Tryz.prog 158=some (some (.agg #[(.map none),(.map none),(.map none),(.int .i64 0)])):= by kernel_rfl
theorem Ue:Zf Tryz.prog 164=some (some (.map none)):= by kernel_rfl
theorem zr_183:Zf Tryz.prog 183=some (some (.agg #[(.slice none 0 0),(.int .i64 0)])):= by kernel_rfl
theorem zr_185:Zf Tryz.prog 185=some (some (.agg #[(.slice none 0 0),(.int .i64 0),(.int .i64 0),(.int .i64 0)])):= by kernel_rfl
theorem zr_188:Zf Tryz.prog 188=some (some (.agg #[(.slice none 0 0),(.int .i64 0),(.map none),(.map none),(.map none)])):= by kernel_rfl
theorem zr_195:Zf Tryz.prog 195=some (some (.agg #[(.bool false),(.int .u8 0),(.int .u8 0),(.int .u8 0),(.int .u8 0),(.int .u8 0),(.int .u8 0),(.int .u8 0),(.int .u8 0),(.int .u8 0),(.int .u8 0),(.int .u8 0),(.int .u8 0),(.int .u8 0),(.int .u8 0),(.int .u8 0),(.int .u8 0),(.int .u8 0),(.int .u8 0),(.int .u8 0),(.int .u8 0),(.int .u8 0),(.int .u8 0),(.int .u8 0),(.int .u8 0),(.int .u8 0),(.int .u8 0),(.int .u8 0),(.int .u8 0),(.int .u8 0),(.int .u8 0),(.int .u8 0),(.int .u8 0),(.int .u8 0),(.int .u8 0),(.int .u8 0),(.int .u8 0),(.int .u8 0),(.int .u8 0),(.int .u8 0),(.int .u8 0),(.int .u8 0),(.int .u8 0),(.int .u8 0),(.int .u8 0),(.int .u8 0),(.int .u8 0),(.int .u8 0),(.int .u8 0),(.int .u8 0),(.int .u8 0),(.int .u8 0),(.int .u8 0),(.int .u8 0),(.int .u8 0),(.int .u8 0),(.int .u8 0),(.int .u8 0),(.int .u8 0),(.int .u8 0),(.int .u8 0),(.int .u8 0),(.int .u8 0),(.int .u8 0),(.int .u8 0)])):= by kernel_rfl
theorem Ds:Zf Tryz.prog 199=some (some (.agg #[(.bool false),(.bool false),(.bool false),(.int .i64 0)])):= by kernel_rfl
theorem Sn:Zf Tryz.prog 205=some (some (.agg #[(.pointer none),(.slice none 0 0)])):= by kernel_rfl
abbrev Bytes:=List UInt8
structure DS where
  F:Int→Bytes×Bytes
  Q:List (Int×Int)
  lost:Int
  down:Bool
  armed:Int
  keep:List Int
def Ox (F:Int→Bytes×Bytes) (f:Int) (x:Bytes×Bytes):Int→Bytes×Bytes:= fun k=> if k=f then x else F k
structure DInv (D:DS):Prop where
  now: ∀k,(D.F k).1.length≤16777216
  last: ∀k,(D.F k).2.length≤16777216
  nodup:D.Q.Nodup
  secs: ∀p∈D.Q,(0≤p.1∧p.1<16)∧0≤p.2∧p.2≤262144
  lost:0≤D.lost∧D.lost≤9223372036854775807
  armed:0≤D.armed∧D.armed≤9223372036854775807
structure DL where
  bf:Nat
  bs:Nat
  qv:Value
theorem Tj (a b:Bytes):XD (a++b)=XD a++XD b:= by simp [XD]
theorem PX (a:Bytes) (k:Nat):(XD a).take k=XD (a.take k):= by simp [XD]
theorem PY (a:Bytes) (k:Nat):(XD a).drop k=XD (a.drop k):= by simp [XD]
theorem Ti (X t:Bytes) (a:Nat):XL (XD X) a (XD t)=XD (X.take a++t++X.drop (a+t.length)):= by
  simp [XL,Tj,PX,PY,YQ]
theorem Dt (m:Nat):(List.replicate m (Value.int .u8 0).cells.toList).flatten=XD (List.replicate m 0):= by
  have :(Value.int .u8 0).cells.toList=[.int .u8 0]:=rfl
  rw[this,flat1]; simp [XD]
def fillB (s:Bytes) (m:Nat):Bytes:=s++List.replicate (m -s.length) 0
theorem put1 (s:Bytes) (m:Nat) (h:s.length≤m):XL (XD (List.replicate m 0)) 0 (XD (s.take m))=XD (fillB s m):= by
  rw[Ti,List.take_of_length_le h]
  simp [fillB]
def inC:RowC Int:=⟨fun x=>[intV x],1, by decide, fun _=>rfl, fun _=>rfl⟩
def Rb:List (Int×Bytes×Bytes)→Int→Bytes×Bytes
  | [],_=>([],[])
  | x::l,f=> if x.1=f then x.2 else Rb l f
structure RInv (l:List (Int×Bytes×Bytes)) (D:DS):Prop where
  inv:DInv D
  says: ∀k,Rb l k=D.F k
  num: ∀x∈l,0≤x.1∧x.1<16
  nodup:(l.map (·.1)).Nodup
structure RL where
  fv:Value
  qv:Value
  l:List (Int×Bytes×Bytes)
theorem I6 {l m:List (Int×Bytes×Bytes)} {f:Int} (h: ∀x∈l,x.1≠f):Rb (l++m) f=Rb m f:= by
  induction l with
  | nil=>rfl
  | cons x l ih=> rw[List.cons_append,Rb,if_neg (h x (by simp)),ih fun y hy=>h y (by simp [hy])]
theorem P3 {l:List (Int×Bytes×Bytes)} {f k:Int} (h:k≠f) (m:List (Int×Bytes×Bytes)) (hm:Rb m k=([],[])):Rb (l.filter (fun x=>decide (x.1≠f))++m) k=Rb l k:= by
  induction l with
  | nil=> exact hm
  | cons x l ih=>
    by_cases e:x.1=f
    · rw[List.filter_cons_of_neg (by simp [e]),ih,Rb,if_neg (by omega)]
    · rw[List.filter_cons_of_pos (by simp [e]),List.cons_append,Rb,Rb,ih]
def putR (l:List (Int×Bytes×Bytes)) (x:Int×Bytes×Bytes):List (Int×Bytes×Bytes):=l.filter (fun y=>decide (y.1≠x.1))++[x]
theorem Ez {l:List (Int×Bytes×Bytes)} {F:Int→Bytes×Bytes} (h: ∀k,Rb l k=F k) (x:Int×Bytes×Bytes) (k:Int):Rb (putR l x) k=Ox F x.1 x.2 k:= by
  unfold putR Ox
  by_cases e:k=x.1
  · subst e
    rw[I6 (fun y hy=> by simpa using(List.mem_filter.1 hy).2),if_pos rfl]
    simp [Rb]
  · rw[P3 e [x] (by rw[Rb,if_neg (Ne.symm e)];rfl),if_neg e]; exact h k
theorem RInv.put {l:List (Int×Bytes×Bytes)} {D:DS} (h:RInv l D) (k:Int) (a b:Bytes) (hk:0≤k∧k<16) (ha:a.length≤16777216) (hb:b.length≤16777216):RInv (putR l (k,a,b)) {D with F:=Ox D.F k (a,b)}:= by
  refine⟨{h.inv with now:= fun j=> ?_,last:= fun j=> ?_},Ez h.says (k,a,b), fun x hx=> ?_, ?_⟩
  · simp only[Ox];split
    · exact ha
    · exact h.inv.now j
  · simp only[Ox];split
    · exact hb
    · exact h.inv.last j
  · rcases List.mem_append.1 hx with q | q
    · exact h.num x (List.mem_filter.1 q).1
    · simp at q; subst q; exact hk
  · unfold putR
    rw[List.map_append]
    refine List.nodup_append.2 ⟨(h.nodup.sublist (List.filter_sublist.map _)), by simp, ?_⟩
    intro x hx y hy e
    obtain⟨z,hz,rfl⟩:=List.mem_map.1 hx
    simp at hy
    have :=(List.mem_filter.1 hz).2
    simp at this
    exact this (e.trans hy)
theorem RInv.count {l:List (Int×Bytes×Bytes)} {D:DS} (h:RInv l D):l.length≤16:= by
  have hs: ∀x∈(l.map (·.1)).map Int.toNat,x∈List.range 16:= by
    intro x hx
    obtain⟨y,hy,rfl⟩:=List.mem_map.1 hx
    obtain⟨z,hz,rfl⟩:=List.mem_map.1 hy
    have :=h.num z hz
    simp;omega
  have hm:((l.map (·.1)).map Int.toNat).Nodup:= by
    refine List.pairwise_map.2 (h.nodup.imp_of_mem ?_)
    intro a b ha hb hne e
    obtain⟨z,hz,rfl⟩:=List.mem_map.1 ha
    obtain⟨y,hy,rfl⟩:=List.mem_map.1 hb
    have :=h.num z hz; have :=h.num y hy
    exact hne (by omega)
  have :=List.Nodup.length_le_of_subset hm hs
  simpa using this
theorem RInv.upd {l:List (Int×Bytes×Bytes)} {D D':DS} (h:RInv l D) (hF:D'.F=D.F) (hi:DInv D'):RInv l D':=⟨hi, fun k=> by rw[hF]; exact h.says k,h.num,h.nodup⟩
end Go.Proofs.YtkcjfoaejijdoaaGreatDoor
namespace Go.Proofs.YtkcjfoaejijdoaaGreatDoor.M
open Go.RowKit
section
variable {P:Program} {n:Nat} {ops:Array Oper} {Q:Exit→Act→World→Prop} {rest:List Oper} {L:Env} {w:World} {d:Nat} {ty:TypeId} {pos:String} {aft:Array Edge} {As:List Th}
theorem HM {x:Operand} {t e N b o sz:Nat} (hu:P.underlying t=some (.array N e)) (hN:Nat.blt 0 N=true) (hx:look L x=some (ptrV b o)) (hs:Wc P e=some sz) (hd:Nat.blt d n=true) (hk:wl P n ops Q rest ((d,.slice (some ⟨b,o,none⟩) N N)::L) w):wl P n ops Q (⟨some d,.slice t x none none none,ty,pos,aft,none⟩::rest) L w:=
  Xv hd (fun ρ hρ=> by
    have h3: ∀w,(sizeOf e).run P w= .ok sz w:= fun w=>run_sizeOf hs w
    have hn: ¬N=0:= by simp at hN;omega
    simp [execOp,hρ _ _ hx,Instr.sliceAt,run_underlying hu,Instr.sureAddr,Instr.sliceBounds,h3,hn]
    simp [Addr.add]) hk
end
def Uo (sz:Nat) (v:Value) (A B:Nat):Value:= match v with
  | .slice a _ cap=> .slice (if cap=A then a else a.map fun p=>p.add (A*sz)) (B -A) (cap -A)
  | v=>v
section
variable {P:Program} {n:Nat} {ops:Array Oper} {Q:Exit→Act→World→Prop} {rest:List Oper} {L:Env} {w:World} {d:Nat} {ty:TypeId} {pos:String} {aft:Array Edge}
theorem CH {x:Operand} {t e m cap sz:Nat} {a:Option Addr} {lo hi:Option Operand} (A B:Nat) (hu:P.underlying t=some (.slice e)) (hs:Wc P e=some sz) (hx:look L x=some (.slice a m cap)) (hlo:bndL L lo 0 A) (hhi:bndL L hi m B) (h1:A≤B) (h2:B≤cap):
    Ev P L w ⟨some d,.slice t x lo hi none,ty,pos,aft,none⟩ (Uo sz (.slice a m cap) A B):= fun ρ hρ=> by
  have hb:=KS (P:=P) true m cap _ _ A B (hlo.val hρ) (hhi.val hρ) h1 h2 w
  simp only[execOp,hρ _ _ hx]
  simp [Instr.sliceAt,Instr.slice,run_underlying hu,hb,run_sizeOf hs,Uo]
theorem BI {x:Operand} {t e m cap sz:Nat} {a:Option Addr} {lo hi:Option Operand} (A B:Nat) (hu:P.underlying t=some (.slice e)) (hs:Wc P e=some sz) (hx:look L x=some (.slice a m cap)) (hlo:bndL L lo 0 A) (hhi:bndL L hi m B) (h1:A≤B) (h2:B≤cap) (hd:Nat.blt d n=true)
    (hk:wl P n ops Q rest ((d,Uo sz (.slice a m cap) A B)::L) w):wl P n ops Q (⟨some d,.slice t x lo hi none,ty,pos,aft,none⟩::rest) L w:=Xv hd (CH A B hu hs hx hlo hhi h1 h2) hk
end
theorem Tu {sz b o m cap A B:Nat} (h:A<cap):Uo sz (.slice (some ⟨b,o,none⟩) m cap) A B= .slice (some ⟨b,o+A*sz,none⟩) (B -A) (cap -A):= by
  unfold Uo
  dsimp only
  rw[if_neg (by omega),Option.map_some,Wh]
section
variable {α:Type} {C:RowC α} {l:List α} {w:World}
theorem RdL.view {a:Option Addr} {m cap A B:Nat} (h:RdL C (.slice a m cap) l w) (hc:m≤cap) (h1:A≤B) (h2:B≤l.length):RdL C (Uo C.size (.slice a m cap) A B) ((l.take B).drop A) w:= by
  obtain⟨ao,cap',e1,e2,e3⟩:=h
  cases e1
  have hl:((l.take B).drop A).length=B -A:= by rw[List.length_drop,List.length_take];omega
  refine⟨_,_, by rw[hl];rfl, by omega, fun i x hx=> ?_⟩
  have hi:=(XX hx).1
  rw[List.getElem?_drop,List.getElem?_take,if_pos (by omega)]at hx
  obtain⟨b,off,rfl,hcell⟩:=e3 _ _ hx
  refine⟨b,off+A*C.size, by rw[if_neg (by omega),Option.map_some,Wh], fun j u hu=> ?_⟩
  have :=hcell j u hu
  rw[Nat.add_mul]at this
  rw[show off+A*C.size+i*C.size+j=off+(A*C.size+i*C.size)+j by omega]
  exact this
theorem PH {a:Option Addr} {cap A B:Nat} (hl:l.length≤9223372036854775807) (h1:A≤B) (h2:B≤l.length) (hc:l.length≤cap):Ent (rowT C (.slice a l.length cap) l) (RdL C (Uo C.size (.slice a l.length cap) A B) ((l.take B).drop A)):= fun h=>(Hn hl h).view hc h1 h2
theorem RdL.at_ {b off m cap i:Nat} {a:α} (h:RdL C (.slice (some ⟨b,off,none⟩) m cap) l w) (ha:l[i]? =some a): ∀(j:Nat) (u:Value),(C.enc a)[j]? =some u→w.cell? ⟨b,off+i*C.size+j,none⟩=some u:= by
  obtain⟨b',off',e,h2⟩:=h.get ha
  cases e
  exact h2
end
end Go.Proofs.YtkcjfoaejijdoaaGreatDoor.M
