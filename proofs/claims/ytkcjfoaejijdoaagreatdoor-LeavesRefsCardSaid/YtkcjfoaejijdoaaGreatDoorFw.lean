/- Closed facts of the program: offsets, sizes, zero values. -/
import Derived.Test.YtkcjfoaejijdoaaGreatDoorRow
import Derived.Test.YtkcjfoaejijdoaaGreatDoorMap
set_option linter.unusedVariables false
set_option maxRecDepth 100000
namespace Go.Proofs.YtkcjfoaejijdoaaGreatDoor
open Go.RowKit M
theorem QL:Wi Tryz.prog 3=some false:= by kernel_rfl
theorem D3:Wi Tryz.prog 4=some false:= by kernel_rfl
theorem WC:Wi Tryz.prog 9=some false:= by kernel_rfl
theorem Jm:Wi Tryz.prog 22=some false:= by kernel_rfl
theorem Xk:Wi Tryz.prog 25=some false:= by kernel_rfl
theorem R5:Wi Tryz.prog 28=some false:= by kernel_rfl
theorem ag_43:Wi Tryz.prog 43=some true:= by kernel_rfl
theorem YK:Wi Tryz.prog 47=some false:= by kernel_rfl
theorem R4:Wi Tryz.prog 61=some false:= by kernel_rfl
theorem X7:Wi Tryz.prog 76=some true:= by kernel_rfl
theorem Up:Wi Tryz.prog 81=some false:= by kernel_rfl
theorem WN:Wi Tryz.prog 82=some false:= by kernel_rfl
theorem D0:Wi Tryz.prog 83=some false:= by kernel_rfl
theorem Jy:Wi Tryz.prog 90=some false:= by kernel_rfl
theorem MQ:Wi Tryz.prog 91=some false:= by kernel_rfl
theorem ag_98:Wi Tryz.prog 98=some false:= by kernel_rfl
theorem Zn:Wi Tryz.prog 108=some false:= by kernel_rfl
theorem Jg:Wi Tryz.prog 109=some false:= by kernel_rfl
theorem JF:Wi Tryz.prog 110=some false:= by kernel_rfl
theorem H2:Wi Tryz.prog 112=some false:= by kernel_rfl
theorem D4:Wi Tryz.prog 114=some false:= by kernel_rfl
theorem Iw:Wi Tryz.prog 127=some true:= by kernel_rfl
theorem U8:Wi Tryz.prog 143=some false:= by kernel_rfl
theorem HP:Wi Tryz.prog 181=some false:= by kernel_rfl
theorem Jf:Wi Tryz.prog 186=some false:= by kernel_rfl
theorem ag_195:Wi Tryz.prog 195=some true:= by kernel_rfl
theorem Iv:Wi Tryz.prog 199=some true:= by kernel_rfl
theorem PK:Wi Tryz.prog 203=some false:= by kernel_rfl
theorem HN:YJ Tryz.prog 76=true:= by kernel_rfl
theorem asz_85:YJ Tryz.prog 85=true:= by kernel_rfl
theorem asz_88:YJ Tryz.prog 88=true:= by kernel_rfl
theorem asz_93:YJ Tryz.prog 93=true:= by kernel_rfl
theorem asz_117:YJ Tryz.prog 117=true:= by kernel_rfl
theorem HG:YJ Tryz.prog 127=true:= by kernel_rfl
theorem asz_183:YJ Tryz.prog 183=true:= by kernel_rfl
theorem asz_185:YJ Tryz.prog 185=true:= by kernel_rfl
theorem asz_188:YJ Tryz.prog 188=true:= by kernel_rfl
theorem asz_195:YJ Tryz.prog 195=true:= by kernel_rfl
theorem TW:YJ Tryz.prog 199=true:= by kernel_rfl
theorem cal_8:QE Tryz.prog 8=true:= by kernel_rfl
theorem cal_9:QE Tryz.prog 9=true:= by kernel_rfl
theorem Gi:QE Tryz.prog 10=true:= by kernel_rfl
theorem OY:QE Tryz.prog 11=true:= by kernel_rfl
theorem Gh:QE Tryz.prog 12=true:= by kernel_rfl
theorem OX:QE Tryz.prog 13=true:= by kernel_rfl
theorem OW:QE Tryz.prog 14=true:= by kernel_rfl
theorem OV:QE Tryz.prog 15=true:= by kernel_rfl
theorem OU:QE Tryz.prog 16=true:= by kernel_rfl
theorem cal_17:QE Tryz.prog 17=true:= by kernel_rfl
theorem OS:QE Tryz.prog 19=true:= by kernel_rfl
theorem Dw:QE Tryz.prog 23=true:= by kernel_rfl
theorem TI:QE Tryz.prog 24=true:= by kernel_rfl
theorem PG:QE Tryz.prog 25=true:= by kernel_rfl
theorem PF:QE Tryz.prog 27=true:= by kernel_rfl
theorem OP:QE Tryz.prog 33=true:= by kernel_rfl
theorem Ya:QE Tryz.prog 34=true:= by kernel_rfl
theorem OO:QE Tryz.prog 41=true:= by kernel_rfl
theorem Y2:QE Tryz.prog 42=true:= by kernel_rfl
theorem WX:QE Tryz.prog 43=true:= by kernel_rfl
theorem TH:QE Tryz.prog 44=true:= by kernel_rfl
theorem ON:QE Tryz.prog 45=true:= by kernel_rfl
theorem K6:QE Tryz.prog 46=true:= by kernel_rfl
theorem OM:QE Tryz.prog 47=true:= by kernel_rfl
theorem HM:QE Tryz.prog 48=true:= by kernel_rfl
theorem TG:QE Tryz.prog 49=true:= by kernel_rfl
theorem cal_50:QE Tryz.prog 50=true:= by kernel_rfl
theorem cal_51:QE Tryz.prog 51=true:= by kernel_rfl
theorem OL:QE Tryz.prog 52=true:= by kernel_rfl
theorem K5:QE Tryz.prog 53=true:= by kernel_rfl
theorem OK:QE Tryz.prog 54=true:= by kernel_rfl
theorem OJ:QE Tryz.prog 55=true:= by kernel_rfl
theorem cal_56:QE Tryz.prog 56=true:= by kernel_rfl
theorem cal_57:QE Tryz.prog 57=true:= by kernel_rfl
theorem cal_58:QE Tryz.prog 58=true:= by kernel_rfl
theorem cal_59:QE Tryz.prog 59=true:= by kernel_rfl
theorem cal_60:QE Tryz.prog 60=true:= by kernel_rfl
theorem cal_61:QE Tryz.prog 61=true:= by kernel_rfl
theorem OI:QE Tryz.prog 62=true:= by kernel_rfl
theorem Dv:QE Tryz.prog 68=true:= by kernel_rfl
theorem cal_70:QE Tryz.prog 70=true:= by kernel_rfl
theorem Du:QE Tryz.prog 71=true:= by kernel_rfl
theorem K4:QE Tryz.prog 72=true:= by kernel_rfl
theorem TF:QE Tryz.prog 73=true:= by kernel_rfl
theorem TE:QE Tryz.prog 76=true:= by kernel_rfl
theorem OH:QE Tryz.prog 85=true:= by kernel_rfl
theorem OE:QE Tryz.prog 90=true:= by kernel_rfl
theorem PD:QE Tryz.prog 91=true:= by kernel_rfl
theorem PC:QE Tryz.prog 92=true:= by kernel_rfl
theorem OD:QE Tryz.prog 93=true:= by kernel_rfl
theorem U6:QE Tryz.prog 102=true:= by kernel_rfl
theorem Fa:QE Tryz.prog 103=true:= by kernel_rfl
theorem Rw:QE Tryz.prog 104=true:= by kernel_rfl
theorem Rv:QE Tryz.prog 105=true:= by kernel_rfl
theorem HF:QE Tryz.prog 106=true:= by kernel_rfl
theorem cal_107:QE Tryz.prog 107=true:= by kernel_rfl
theorem SZ:QE Tryz.prog 108=true:= by kernel_rfl
theorem SY:QE Tryz.prog 109=true:= by kernel_rfl
theorem cal_110:QE Tryz.prog 110=true:= by kernel_rfl
theorem SX:QE Tryz.prog 112=true:= by kernel_rfl
theorem SW:QE Tryz.prog 113=true:= by kernel_rfl
theorem SV:QE Tryz.prog 114=true:= by kernel_rfl
theorem SU:QE Tryz.prog 115=true:= by kernel_rfl
theorem cal_116:QE Tryz.prog 116=true:= by kernel_rfl
theorem cal_117:QE Tryz.prog 117=true:= by kernel_rfl
theorem cal_118:QE Tryz.prog 118=true:= by kernel_rfl
theorem ST:QE Tryz.prog 119=true:= by kernel_rfl
theorem SR:QE Tryz.prog 120=true:= by kernel_rfl
theorem cal_121:QE Tryz.prog 121=true:= by kernel_rfl
theorem cal_122:QE Tryz.prog 122=true:= by kernel_rfl
theorem cal_123:QE Tryz.prog 123=true:= by kernel_rfl
theorem cal_124:QE Tryz.prog 124=true:= by kernel_rfl
theorem cal_125:QE Tryz.prog 125=true:= by kernel_rfl
theorem cal_137:QE Tryz.prog 137=true:= by kernel_rfl
theorem Bj:QE Tryz.prog 138=true:= by kernel_rfl
theorem Bi:QE Tryz.prog 139=true:= by kernel_rfl
theorem SP:QE Tryz.prog 140=true:= by kernel_rfl
theorem TQ:QE Tryz.prog 141=true:= by kernel_rfl
theorem TP:QE Tryz.prog 142=true:= by kernel_rfl
theorem SO:QE Tryz.prog 143=true:= by kernel_rfl
theorem SN:QE Tryz.prog 144=true:= by kernel_rfl
theorem TO:QE Tryz.prog 152=true:= by kernel_rfl
theorem TN:QE Tryz.prog 153=true:= by kernel_rfl
theorem cal_154:QE Tryz.prog 154=true:= by kernel_rfl
theorem TM:QE Tryz.prog 155=true:= by kernel_rfl
theorem cal_156:QE Tryz.prog 156=true:= by kernel_rfl
theorem cal_157:QE Tryz.prog 157=true:= by kernel_rfl
theorem VG:QE Tryz.prog 158=true:= by kernel_rfl
theorem Ru:QE Tryz.prog 159=true:= by kernel_rfl
theorem Rt:QE Tryz.prog 160=true:= by kernel_rfl
theorem SM:QE Tryz.prog 161=true:= by kernel_rfl
theorem SK:QE Tryz.prog 162=true:= by kernel_rfl
theorem cal_163:QE Tryz.prog 163=true:= by kernel_rfl
theorem cal_166:QE Tryz.prog 166=true:= by kernel_rfl
theorem cal_169:QE Tryz.prog 169=true:= by kernel_rfl
theorem Rs:QE Tryz.prog 170=true:= by kernel_rfl
theorem cal_171:QE Tryz.prog 171=true:= by kernel_rfl
theorem SJ:QE Tryz.prog 172=true:= by kernel_rfl
theorem cal_173:QE Tryz.prog 173=true:= by kernel_rfl
theorem cal_175:QE Tryz.prog 175=true:= by kernel_rfl
theorem SI:QE Tryz.prog 176=true:= by kernel_rfl
theorem cal_177:QE Tryz.prog 177=true:= by kernel_rfl
theorem cal_178:QE Tryz.prog 178=true:= by kernel_rfl
theorem cal_185:QE Tryz.prog 185=true:= by kernel_rfl
theorem TL:QE Tryz.prog 186=true:= by kernel_rfl
theorem SH:QE Tryz.prog 187=true:= by kernel_rfl
theorem SG:QE Tryz.prog 188=true:= by kernel_rfl
theorem cal_189:QE Tryz.prog 189=true:= by kernel_rfl
theorem cal_203:QE Tryz.prog 203=true:= by kernel_rfl
theorem cal_204:QE Tryz.prog 204=true:= by kernel_rfl
theorem cal_205:QE Tryz.prog 205=true:= by kernel_rfl
theorem cal_215:QE Tryz.prog 215=true:= by kernel_rfl
theorem SF:QE Tryz.prog 216=true:= by kernel_rfl
theorem TK:QE Tryz.prog 220=true:= by kernel_rfl
theorem cal_221:QE Tryz.prog 221=true:= by kernel_rfl
theorem cal_222:QE Tryz.prog 222=true:= by kernel_rfl
theorem TJ:QE Tryz.prog 223=true:= by kernel_rfl
theorem cal_238:QE Tryz.prog 238=true:= by kernel_rfl
theorem On:Yr Tryz.prog 36=some 8:= by kernel_rfl
theorem JQ:Yr Tryz.prog 47=some 1:= by kernel_rfl
theorem MA:Yr Tryz.prog 61=some 1:= by kernel_rfl
theorem Va:Yr Tryz.prog 98=some 2:= by kernel_rfl
theorem Oo:Yr Tryz.prog 143=some 1:= by kernel_rfl
theorem Vb:Yr Tryz.prog 181=some 65:= by kernel_rfl
theorem YR:Yr Tryz.prog 186=some 4:= by kernel_rfl
theorem S3:Xm Tryz.prog 43 0=some 0:= by kernel_rfl
theorem Hc:Xm Tryz.prog 43 2=some 2:= by kernel_rfl
theorem Sz:Xm Tryz.prog 43 3=some 3:= by kernel_rfl
theorem Ba:Xm Tryz.prog 43 4=some 4:= by kernel_rfl
theorem Rj:Xm Tryz.prog 43 5=some 5:= by kernel_rfl
theorem HB:Xm Tryz.prog 43 6=some 6:= by kernel_rfl
theorem GZ:Xm Tryz.prog 43 7=some 7:= by kernel_rfl
theorem JV:Xm Tryz.prog 76 0=some 0:= by kernel_rfl
theorem V7:Xm Tryz.prog 76 1=some 1:= by kernel_rfl
theorem XN:Xm Tryz.prog 85 0=some 0:= by kernel_rfl
theorem JU:Xm Tryz.prog 85 1=some 1:= by kernel_rfl
theorem Z7:Xm Tryz.prog 85 2=some 2:= by kernel_rfl
theorem Sx:Xm Tryz.prog 85 4=some 4:= by kernel_rfl
theorem U3:Xm Tryz.prog 88 0=some 0:= by kernel_rfl
theorem W5:Xm Tryz.prog 88 1=some 1:= by kernel_rfl
theorem J6:Xm Tryz.prog 88 2=some 2:= by kernel_rfl
theorem ZV:Xm Tryz.prog 88 3=some 3:= by kernel_rfl
theorem JT:Xm Tryz.prog 93 0=some 0:= by kernel_rfl
theorem ZU:Xm Tryz.prog 93 1=some 1:= by kernel_rfl
theorem Rh:Xm Tryz.prog 93 2=some 2:= by kernel_rfl
theorem XI:Xm Tryz.prog 117 0=some 0:= by kernel_rfl
theorem H0:Xm Tryz.prog 117 1=some 1:= by kernel_rfl
theorem W6:Xm Tryz.prog 117 2=some 2:= by kernel_rfl
theorem Wr:Xm Tryz.prog 117 3=some 3:= by kernel_rfl
theorem Yp:Xm Tryz.prog 117 4=some 4:= by kernel_rfl
theorem UW:Xm Tryz.prog 117 5=some 5:= by kernel_rfl
theorem Nb:Xm Tryz.prog 117 6=some 6:= by kernel_rfl
theorem Na:Xm Tryz.prog 117 7=some 7:= by kernel_rfl
theorem Df:Xm Tryz.prog 117 8=some 8:= by kernel_rfl
theorem CZ:Xm Tryz.prog 117 9=some 9:= by kernel_rfl
theorem Jw:Xm Tryz.prog 127 0=some 0:= by kernel_rfl
theorem YG:Xm Tryz.prog 127 1=some 1:= by kernel_rfl
theorem Yo:Xm Tryz.prog 127 2=some 2:= by kernel_rfl
theorem De:Xm Tryz.prog 127 3=some 3:= by kernel_rfl
theorem JP:Xm Tryz.prog 183 0=some 0:= by kernel_rfl
theorem UV:Xm Tryz.prog 183 1=some 1:= by kernel_rfl
theorem Hz:Xm Tryz.prog 185 0=some 0:= by kernel_rfl
theorem Uf:Xm Tryz.prog 185 1=some 1:= by kernel_rfl
theorem CY:Xm Tryz.prog 185 2=some 2:= by kernel_rfl
theorem CX:Xm Tryz.prog 185 3=some 3:= by kernel_rfl
theorem ZL:Xm Tryz.prog 188 0=some 0:= by kernel_rfl
theorem YF:Xm Tryz.prog 188 1=some 1:= by kernel_rfl
theorem Ro:Xm Tryz.prog 188 2=some 2:= by kernel_rfl
theorem UU:Xm Tryz.prog 188 3=some 3:= by kernel_rfl
theorem Dd:Xm Tryz.prog 188 4=some 4:= by kernel_rfl
theorem Dc:Xm Tryz.prog 195 0=some 0:= by kernel_rfl
theorem Rn:Xm Tryz.prog 195 1=some 1:= by kernel_rfl
theorem Rm:Xm Tryz.prog 199 0=some 0:= by kernel_rfl
theorem Ue:Xm Tryz.prog 199 1=some 1:= by kernel_rfl
theorem Db:Xm Tryz.prog 199 2=some 2:= by kernel_rfl
theorem Rl:Xm Tryz.prog 199 3=some 3:= by kernel_rfl
theorem Rk:Xm Tryz.prog 205 0=some 0:= by kernel_rfl
theorem Yn:Xm Tryz.prog 205 1=some 1:= by kernel_rfl
theorem Rf:Dg Tryz.prog 127 0=some (0,none):= by kernel_rfl
theorem CT:Dg Tryz.prog 127 3=some (3,none):= by kernel_rfl
theorem UB:(Tryz.prog.info? 3).map (fun i=>(i.zero,i.size,i.bytes))=some (some (.int .i64 0),1,8):= by kernel_rfl
theorem AQ:(Tryz.prog.info? 5).map (fun i=>(i.zero,i.size,i.bytes))=some (some (.int .u8 0),1,1):= by kernel_rfl
theorem ifo_9:(Tryz.prog.info? 9).map (fun i=>(i.zero,i.size,i.bytes))=some (some (.string ⟨#[]⟩),1,16):= by kernel_rfl
theorem ifo_76:(Tryz.prog.info? 76).map (fun i=>(i.zero,i.size,i.bytes))=some (some (.agg #[(.string ⟨#[]⟩),(.int .i64 0)]),2,24):= by kernel_rfl
theorem ifo_195:(Tryz.prog.info? 195).map (fun i=>(i.zero,i.size,i.bytes))=some (some (.agg #[(.bool false),(.int .u8 0),(.int .u8 0),(.int .u8 0),(.int .u8 0),(.int .u8 0),(.int .u8 0),(.int .u8 0),(.int .u8 0),(.int .u8 0),(.int .u8 0),(.int .u8 0),(.int .u8 0),(.int .u8 0),(.int .u8 0),(.int .u8 0),(.int .u8 0),(.int .u8 0),(.int .u8 0),(.int .u8 0),(.int .u8 0),(.int .u8 0),(.int .u8 0),(.int .u8 0),(.int .u8 0),(.int .u8 0),(.int .u8 0),(.int .u8 0),(.int .u8 0),(.int .u8 0),(.int .u8 0),(.int .u8 0),(.int .u8 0),(.int .u8 0),(.int .u8 0),(.int .u8 0),(.int .u8 0),(.int .u8 0),(.int .u8 0),(.int .u8 0),(.int .u8 0),(.int .u8 0),(.int .u8 0),(.int .u8 0),(.int .u8 0),(.int .u8 0),(.int .u8 0),(.int .u8 0),(.int .u8 0),(.int .u8 0),(.int .u8 0),(.int .u8 0),(.int .u8 0),(.int .u8 0),(.int .u8 0),(.int .u8 0),(.int .u8 0),(.int .u8 0),(.int .u8 0),(.int .u8 0),(.int .u8 0),(.int .u8 0),(.int .u8 0),(.int .u8 0),(.int .u8 0)]),65,65):= by kernel_rfl
theorem ifo_199:(Tryz.prog.info? 199).map (fun i=>(i.zero,i.size,i.bytes))=some (some (.agg #[(.bool false),(.bool false),(.bool false),(.int .i64 0)]),4,16):= by kernel_rfl
theorem Uc:(Tryz.prog.info? 3).map (fun i=>(i.zero,i.size))=some (some (.int .i64 0),1):= by kernel_rfl
theorem ifz_5:(Tryz.prog.info? 5).map (fun i=>(i.zero,i.size))=some (some (.int .u8 0),1):= by kernel_rfl
theorem ifz_9:(Tryz.prog.info? 9).map (fun i=>(i.zero,i.size))=some (some (.string ⟨#[]⟩),1):= by kernel_rfl
theorem ifz_76:(Tryz.prog.info? 76).map (fun i=>(i.zero,i.size))=some (some (.agg #[(.string ⟨#[]⟩),(.int .i64 0)]),2):= by kernel_rfl
theorem We:Tryz.prog.follows .mixedOrders=true:= by kernel_rfl
theorem EQ:Z5 Tryz.prog 76 []=some []:= by kernel_rfl
theorem Yc:Z5 Tryz.prog 76 [0,1]=some [(0,1),(1,1)]:= by kernel_rfl
theorem DG:Z5 Tryz.prog 85 [0,1,2,4]=some [(0,1),(1,1),(2,1),(4,1)]:= by kernel_rfl
theorem FX:Z5 Tryz.prog 88 [0,1]=some [(0,1),(1,1)]:= by kernel_rfl
theorem C8:Z5 Tryz.prog 93 [0,1,2]=some [(0,1),(1,1),(2,1)]:= by kernel_rfl
theorem Uy:Z5 Tryz.prog 117 [0,1,3,4,5,6,7,8]=some [(0,1),(1,1),(3,1),(4,1),(5,1),(6,1),(7,1),(8,1)]:= by kernel_rfl
theorem WU:Z5 Tryz.prog 127 [0,1,2]=some [(0,1),(1,1),(2,1)]:= by kernel_rfl
theorem Tk:Z5 Tryz.prog 127 [0,1,3]=some [(0,1),(1,1),(3,1)]:= by kernel_rfl
theorem ET:Z5 Tryz.prog 183 [0]=some [(0,1)]:= by kernel_rfl
theorem ES:Z5 Tryz.prog 185 [0]=some [(0,1)]:= by kernel_rfl
theorem BN:Z5 Tryz.prog 188 [0,2,3,4]=some [(0,1),(2,1),(3,1),(4,1)]:= by kernel_rfl
theorem ER:Z5 Tryz.prog 195 [0]=some [(0,1)]:= by kernel_rfl
theorem pl_199_:Z5 Tryz.prog 199 []=some []:= by kernel_rfl
theorem BM:Z5 Tryz.prog 199 [0,3]=some [(0,1),(3,1)]:= by kernel_rfl
theorem JG:Wg Tryz.prog 3=some 1:= by kernel_rfl
theorem Ej:Wg Tryz.prog 4=some 1:= by kernel_rfl
theorem Ci:Wg Tryz.prog 5=some 1:= by kernel_rfl
theorem sz_9:Wg Tryz.prog 9=some 1:= by kernel_rfl
theorem VZ:Wg Tryz.prog 22=some 1:= by kernel_rfl
theorem ZK:Wg Tryz.prog 28=some 1:= by kernel_rfl
theorem Ei:Wg Tryz.prog 43=some 8:= by kernel_rfl
theorem KH:Wg Tryz.prog 47=some 1:= by kernel_rfl
theorem sz_61:Wg Tryz.prog 61=some 1:= by kernel_rfl
theorem Xc:Wg Tryz.prog 76=some 2:= by kernel_rfl
theorem sz_98:Wg Tryz.prog 98=some 1:= by kernel_rfl
theorem Em:Wg Tryz.prog 109=some 1:= by kernel_rfl
theorem JX:Wg Tryz.prog 127=some 4:= by kernel_rfl
theorem El:Wg Tryz.prog 143=some 1:= by kernel_rfl
theorem Ek:Wg Tryz.prog 195=some 65:= by kernel_rfl
theorem Kh:Wg Tryz.prog 199=some 4:= by kernel_rfl
theorem sz_203:Wg Tryz.prog 203=some 1:= by kernel_rfl
theorem YN:Zl Tryz.prog 3=some (some (.int .i64 0)):= by kernel_rfl
theorem zr_4:Zl Tryz.prog 4=some (some (.bool false)):= by kernel_rfl
theorem zr_5:Zl Tryz.prog 5=some (some (.int .u8 0)):= by kernel_rfl
theorem zr_28:Zl Tryz.prog 28=some (some (.int .i64 0)):= by kernel_rfl
theorem zr_43:Zl Tryz.prog 43=some (some (.agg #[(.int .i64 0),(.int .i64 0),(.string ⟨#[]⟩),(.string ⟨#[]⟩),(.int .i64 0),(.int .i64 0),(.int .i64 0),(.int .i64 0)])):= by kernel_rfl
theorem zr_47:Zl Tryz.prog 47=some (some (.slice none 0 0)):= by kernel_rfl
theorem Z2:Zl Tryz.prog 76=some (some (.agg #[(.string ⟨#[]⟩),(.int .i64 0)])):= by kernel_rfl
theorem zr_85:Zl Tryz.prog 85=some (some (.agg #[(.pointer none),(.map none),(.map none),(.int .i64 0),(.map none)])):= by kernel_rfl
theorem zr_88:Zl Tryz.prog 88=some (some (.agg #[(.int .i64 0),(.int .i64 0),(.int .u64 0),(.int .u64 0)])):= by kernel_rfl
theorem HQ:Zl Tryz.prog 89=some (some (.pointer none)):= by kernel_rfl
theorem zr_93:Zl Tryz.prog 93=some (some (.agg #[(.int .i64 0),(.map none),(.map none)])):= by kernel_rfl
theorem Yu:Zl Tryz.prog 94=some (some (.pointer none)):= by kernel_rfl
theorem zr_117:Zl Tryz.prog 117=some (some (.agg #[(.map none),(.map none),(.slice none 0 0),(.pointer none),(.pointer none),(.pointer none),(.int .i64 0),(.int .i64 0),(.int .i64 0),(.slice none 0 0)])):= by kernel_rfl
theorem XJ:Zl Tryz.prog 127=some (some (.agg #[(.int .i64 0),(.int .i64 0),(.int .i64 0),(.string ⟨#[]⟩)])):= by kernel_rfl
theorem zr_183:Zl Tryz.prog 183=some (some (.agg #[(.slice none 0 0),(.int .i64 0)])):= by kernel_rfl
theorem zr_185:Zl Tryz.prog 185=some (some (.agg #[(.slice none 0 0),(.int .i64 0),(.int .i64 0),(.int .i64 0)])):= by kernel_rfl
theorem zr_188:Zl Tryz.prog 188=some (some (.agg #[(.slice none 0 0),(.int .i64 0),(.map none),(.map none),(.map none)])):= by kernel_rfl
theorem zr_195:Zl Tryz.prog 195=some (some (.agg #[(.bool false),(.int .u8 0),(.int .u8 0),(.int .u8 0),(.int .u8 0),(.int .u8 0),(.int .u8 0),(.int .u8 0),(.int .u8 0),(.int .u8 0),(.int .u8 0),(.int .u8 0),(.int .u8 0),(.int .u8 0),(.int .u8 0),(.int .u8 0),(.int .u8 0),(.int .u8 0),(.int .u8 0),(.int .u8 0),(.int .u8 0),(.int .u8 0),(.int .u8 0),(.int .u8 0),(.int .u8 0),(.int .u8 0),(.int .u8 0),(.int .u8 0),(.int .u8 0),(.int .u8 0),(.int .u8 0),(.int .u8 0),(.int .u8 0),(.int .u8 0),(.int .u8 0),(.int .u8 0),(.int .u8 0),(.int .u8 0),(.int .u8 0),(.int .u8 0),(.int .u8 0),(.int .u8 0),(.int .u8 0),(.int .u8 0),(.int .u8 0),(.int .u8 0),(.int .u8 0),(.int .u8 0),(.int .u8 0),(.int .u8 0),(.int .u8 0),(.int .u8 0),(.int .u8 0),(.int .u8 0),(.int .u8 0),(.int .u8 0),(.int .u8 0),(.int .u8 0),(.int .u8 0),(.int .u8 0),(.int .u8 0),(.int .u8 0),(.int .u8 0),(.int .u8 0),(.int .u8 0)])):= by kernel_rfl
theorem Bm:Zl Tryz.prog 199=some (some (.agg #[(.bool false),(.bool false),(.bool false),(.int .i64 0)])):= by kernel_rfl
theorem LV:Zl Tryz.prog 205=some (some (.agg #[(.pointer none),(.slice none 0 0)])):= by kernel_rfl
abbrev Bytes:=List UInt8
structure DS where
  F:Int→Bytes×Bytes
  Q:List (Int×Int)
  lost:Int
  down:Bool
  armed:Int
  keep:List Int
def EC (F:Int→Bytes×Bytes) (f:Int) (x:Bytes×Bytes):Int→Bytes×Bytes:= fun k=> if k=f then x else F k
structure DInv (D:DS):Prop where
  now: ∀k,(D.F k).1.length≤16777216
  last: ∀k,(D.F k).2.length≤16777216
  nodup:D.Q.Nodup
  secs: ∀p∈D.Q,(0≤p.1∧p.1<16)∧0≤p.2∧p.2≤262144
  lost:0≤D.lost∧D.lost≤9223372036854775807
  armed:0≤D.armed∧D.armed≤9223372036854775807
structure DL where
  bf:Nat
  bs:Nat
  qv:Value
theorem DQ (a b:Bytes):XC (a++b)=XC a++XC b:= by simp [XC]
theorem N4 (a:Bytes) (k:Nat):(XC a).take k=XC (a.take k):= by simp [XC]
theorem N5 (a:Bytes) (k:Nat):(XC a).drop k=XC (a.drop k):= by simp [XC]
theorem DP (X t:Bytes) (a:Nat):X9 (XC X) a (XC t)=XC (X.take a++t++X.drop (a+t.length)):= by
  simp [X9,DQ,N4,N5,Y5]
theorem NJ (m:Nat):(List.replicate m (Value.int .u8 0).cells.toList).flatten=XC (List.replicate m 0):= by
  have :(Value.int .u8 0).cells.toList=[.int .u8 0]:=rfl
  rw[this,flat1]; simp [XC]
def fillB (s:Bytes) (m:Nat):Bytes:=s++List.replicate (m -s.length) 0
theorem put1 (s:Bytes) (m:Nat) (h:s.length≤m):X9 (XC (List.replicate m 0)) 0 (XC (s.take m))=XC (fillB s m):= by
  rw[DP,List.take_of_length_le h]
  simp [fillB]
def inC:RowC Int:=⟨fun x=>[intV x],1, by decide, fun _=>rfl, fun _=>rfl⟩
def Kt:List (Int×Bytes×Bytes)→Int→Bytes×Bytes
  | [],_=>([],[])
  | x::l,f=> if x.1=f then x.2 else Kt l f
structure RInv (l:List (Int×Bytes×Bytes)) (D:DS):Prop where
  inv:DInv D
  says: ∀k,Kt l k=D.F k
  num: ∀x∈l,0≤x.1∧x.1<16
  nodup:(l.map (·.1)).Nodup
structure RL where
  fv:Value
  qv:Value
  l:List (Int×Bytes×Bytes)
theorem AZ {l m:List (Int×Bytes×Bytes)} {f:Int} (h: ∀x∈l,x.1≠f):Kt (l++m) f=Kt m f:= by
  induction l with
  | nil=>rfl
  | cons x l ih=> rw[List.cons_append,Kt,if_neg (h x (by simp)),ih fun y hy=>h y (by simp [hy])]
theorem CR {l:List (Int×Bytes×Bytes)} {f k:Int} (h:k≠f) (m:List (Int×Bytes×Bytes)) (hm:Kt m k=([],[])):Kt (l.filter (fun x=>decide (x.1≠f))++m) k=Kt l k:= by
  induction l with
  | nil=> exact hm
  | cons x l ih=>
    by_cases e:x.1=f
    · rw[List.filter_cons_of_neg (by simp [e]),ih,Kt,if_neg (by omega)]
    · rw[List.filter_cons_of_pos (by simp [e]),List.cons_append,Kt,Kt,ih]
def putR (l:List (Int×Bytes×Bytes)) (x:Int×Bytes×Bytes):List (Int×Bytes×Bytes):=l.filter (fun y=>decide (y.1≠x.1))++[x]
theorem FQ {l:List (Int×Bytes×Bytes)} {F:Int→Bytes×Bytes} (h: ∀k,Kt l k=F k) (x:Int×Bytes×Bytes) (k:Int):Kt (putR l x) k=EC F x.1 x.2 k:= by
  unfold putR EC
  by_cases e:k=x.1
  · subst e
    rw[AZ (fun y hy=> by simpa using(List.mem_filter.1 hy).2),if_pos U]
    simp [Kt]
  · rw[CR e [x] (by rw[Kt,if_neg (Ne.symm e)];rfl),if_neg e]; exact h k
theorem RInv.put {l:List (Int×Bytes×Bytes)} {D:DS} (h:RInv l D) (k:Int) (a b:Bytes) (hk:0≤k∧k<16) (ha:a.length≤16777216) (hb:b.length≤16777216):RInv (putR l (k,a,b)) {D with F:=EC D.F k (a,b)}:= by
  refine⟨{h.inv with now:= fun j=> ?_,last:= fun j=> ?_},FQ h.says (k,a,b), fun x hx=> ?_, ?_⟩
  · simp only[EC];split
    · exact ha
    · exact h.inv.now j
  · simp only[EC];split
    · exact hb
    · exact h.inv.last j
  · rcases List.mem_append.1 hx with q | q
    · exact h.num x (List.mem_filter.1 q).1
    · simp at q; subst q; exact hk
  · unfold putR
    rw[List.map_append]
    refine List.nodup_append.2 ⟨(h.nodup.sublist (List.filter_sublist.map _)), by simp, ?_⟩
    intro x hx y hy e
    obtain⟨z,hz,rfl⟩:=List.mem_map.1 hx
    simp at hy
    have :=(List.mem_filter.1 hz).2
    simp at this
    exact this (e.trans hy)
theorem RInv.count {l:List (Int×Bytes×Bytes)} {D:DS} (h:RInv l D):l.length≤16:= by
  have hs: ∀x∈(l.map (·.1)).map Int.toNat,x∈List.range 16:= by
    intro x hx
    obtain⟨y,hy,rfl⟩:=List.mem_map.1 hx
    obtain⟨z,hz,rfl⟩:=List.mem_map.1 hy
    have :=h.num z hz
    simp;omega
  have hm:((l.map (·.1)).map Int.toNat).Nodup:= by
    refine List.pairwise_map.2 (h.nodup.imp_of_mem ?_)
    intro a b ha hb hne e
    obtain⟨z,hz,rfl⟩:=List.mem_map.1 ha
    obtain⟨y,hy,rfl⟩:=List.mem_map.1 hb
    have :=h.num z hz; have :=h.num y hy
    exact hne (by omega)
  have :=List.Nodup.length_le_of_subset hm hs
  simpa using this
theorem RInv.upd {l:List (Int×Bytes×Bytes)} {D D':DS} (h:RInv l D) (hF:D'.F=D.F) (hi:DInv D'):RInv l D':=⟨hi, fun k=> by rw[hF]; exact h.says k,h.num,h.nodup⟩
end Go.Proofs.YtkcjfoaejijdoaaGreatDoor
namespace Go.Proofs.YtkcjfoaejijdoaaGreatDoor.M
open Go.RowKit
section
variable {P:Program} {n:Nat} {ops:Array Oper} {Q:Exit→Act→World→Prop} {rest:List Oper} {L:Env} {w:World} {d:Nat} {ty:TypeId} {pos:String} {aft:Array Edge} {As:List Th}
theorem UD {x:Operand} {t e N b o sz:Nat} (hu:P.underlying t=some (.array N e)) (hN:Nat.blt 0 N=true) (hx:look L x=some (ptrV b o)) (hs:Wg P e=some sz) (hd:Nat.blt d n=true) (hk:wl P n ops Q rest ((d,.slice (some ⟨b,o,none⟩) N N)::L) w):wl P n ops Q (⟨some d,.slice t x none none none,ty,pos,aft,none⟩::rest) L w:=
  Xu hd (fun ρ hρ=> by
    have h3: ∀w,(sizeOf e).run P w= .ok sz w:= fun w=>run_sizeOf hs w
    have hn: ¬N=0:= by simp at hN;omega
    simp [execOp,hρ _ _ hx,Instr.sliceAt,run_underlying hu,Instr.sureAddr,Instr.sliceBounds,h3,hn]
    simp [Addr.add]) hk
end
theorem Hy (l:List Int):inC.cells l=l.map intV:= by
  induction l with
  | nil=>rfl
  | cons a l ih=> simp only[RowC.cells,List.flatMap_cons,List.map_cons]at ih⊢; rw[ih];rfl
def Y8 (sz:Nat) (v:Value) (A B:Nat):Value:= match v with
  | .slice a _ cap=> .slice (if cap=A then a else a.map fun p=>p.add (A*sz)) (B -A) (cap -A)
  | v=>v
section
variable {P:Program} {n:Nat} {ops:Array Oper} {Q:Exit→Act→World→Prop} {rest:List Oper} {L:Env} {w:World} {d:Nat} {ty:TypeId} {pos:String} {aft:Array Edge}
theorem Tw {x:Operand} {t e m cap sz:Nat} {a:Option Addr} {lo hi:Option Operand} (A B:Nat) (hu:P.underlying t=some (.slice e)) (hs:Wg P e=some sz) (hx:look L x=some (.slice a m cap)) (hlo:bndL L lo 0 A) (hhi:bndL L hi m B) (h1:A≤B) (h2:B≤cap):
    Ev P L w ⟨some d,.slice t x lo hi none,ty,pos,aft,none⟩ (Y8 sz (.slice a m cap) A B):= fun ρ hρ=> by
  have hb:=Kl (P:=P) true m cap _ _ A B (hlo.val hρ) (hhi.val hρ) h1 h2 w
  simp only[execOp,hρ _ _ hx]
  simp [Instr.sliceAt,Instr.slice,run_underlying hu,hb,run_sizeOf hs,Y8]
theorem KA {x:Operand} {t e m cap sz:Nat} {a:Option Addr} {lo hi:Option Operand} (A B:Nat) (hu:P.underlying t=some (.slice e)) (hs:Wg P e=some sz) (hx:look L x=some (.slice a m cap)) (hlo:bndL L lo 0 A) (hhi:bndL L hi m B) (h1:A≤B) (h2:B≤cap) (hd:Nat.blt d n=true)
    (hk:wl P n ops Q rest ((d,Y8 sz (.slice a m cap) A B)::L) w):wl P n ops Q (⟨some d,.slice t x lo hi none,ty,pos,aft,none⟩::rest) L w:=Xu hd (Tw A B hu hs hx hlo hhi h1 h2) hk
end
theorem Vl {sz b o m cap A B:Nat} (h:A<cap):Y8 sz (.slice (some ⟨b,o,none⟩) m cap) A B= .slice (some ⟨b,o+A*sz,none⟩) (B -A) (cap -A):= by
  unfold Y8
  dsimp only
  rw[if_neg (by omega),Option.map_some,ZY]
section
variable {α:Type} {C:RowC α} {l:List α} {w:World}
theorem RdL.view {a:Option Addr} {m cap A B:Nat} (h:RdL C (.slice a m cap) l w) (hc:m≤cap) (h1:A≤B) (h2:B≤l.length):RdL C (Y8 C.size (.slice a m cap) A B) ((l.take B).drop A) w:= by
  obtain⟨ao,cap',e1,e2,e3⟩:=h
  cases e1
  have hl:((l.take B).drop A).length=B -A:= by rw[List.length_drop,List.length_take];omega
  refine⟨_,_, by rw[hl];rfl, by omega, fun i x hx=> ?_⟩
  have hi:=(XR hx).1
  rw[List.getElem?_drop,List.getElem?_take,if_pos (by omega)]at hx
  obtain⟨b,off,rfl,hcell⟩:=e3 _ _ hx
  refine⟨b,off+A*C.size, by rw[if_neg (by omega),Option.map_some,ZY], fun j u hu=> ?_⟩
  have :=hcell j u hu
  rw[Nat.add_mul]at this
  rw[show off+A*C.size+i*C.size+j=off+(A*C.size+i*C.size)+j by omega]
  exact this
theorem Dk {a:Option Addr} {cap A B:Nat} (hl:l.length≤9223372036854775807) (h1:A≤B) (h2:B≤l.length) (hc:l.length≤cap):Ent (rowT C (.slice a l.length cap) l) (RdL C (Y8 C.size (.slice a l.length cap) A B) ((l.take B).drop A)):= fun h=>(HE hl h).view hc h1 h2
theorem RdL.at_ {b off m cap i:Nat} {a:α} (h:RdL C (.slice (some ⟨b,off,none⟩) m cap) l w) (ha:l[i]? =some a): ∀(j:Nat) (u:Value),(C.enc a)[j]? =some u→w.cell? ⟨b,off+i*C.size+j,none⟩=some u:= by
  obtain⟨b',off',e,h2⟩:=h.get ha
  cases e
  exact h2
end
end Go.Proofs.YtkcjfoaejijdoaaGreatDoor.M
namespace Go.Proofs.YtkcjfoaejijdoaaGreatDoor
open Go.RowKit M
def Wo (sl:List Bs):Nat:=(sl.filter fun p=> !decide (p=[])).length
def Gc (sl:List Bs) (slot:Int):Bool:=decide (0≤slot)&&(match sl[slot.toNat]? with | some p=> !decide (p=[]) | none=>false)
theorem Y9 (sl:List Bs):Wo sl≤sl.length:=List.length_filter_le _ _
theorem RG: ∀{sl:List Bs} {k:Nat} {p:Bs},sl[k]? =some []→p≠[]→Wo (sl.set k p)=Wo sl+1
  | [],_,_,h,_=> by simp at h
  | a::sl,0,p,h,hp=> by
    simp at h; subst h
    unfold Wo; simp [hp]
  | a::sl,k+1,p,h,hp=> by
    have :=RG (sl:=sl) (k:=k) (by simpa using h) hp
    unfold Wo at this⊢
    rw[List.set_cons_succ,List.filter_cons,List.filter_cons]
    split
    · rw[List.length_cons,List.length_cons,this]
    · exact this
theorem Bv: ∀{sl:List Bs} {k:Nat} {p:Bs},sl[k]? =some p→p≠[]→Wo (sl.set k [])+1=Wo sl
  | [],_,_,h,_=> by simp at h
  | a::sl,0,p,h,hp=> by
    simp at h; subst h
    unfold Wo; simp [hp]
  | a::sl,k+1,p,h,hp=> by
    have :=Bv (sl:=sl) (k:=k) (by simpa using h) hp
    unfold Wo at this⊢
    rw[List.set_cons_succ,List.filter_cons,List.filter_cons]
    split
    · rw[List.length_cons,List.length_cons,←this]
    · exact this
theorem Bu {sl:List Bs}:Wo sl<sl.length↔[]∈sl:= by
  unfold Wo
  induction sl with
  | nil=> simp
  | cons a sl ih=>
    have hle:=Y9 sl
    unfold Wo at hle
    by_cases ha:a=[]
    · subst ha
      rw[List.filter_cons,if_neg (by simp),List.length_cons]
      exact⟨fun _=>List.mem_cons_self, fun _=> by omega⟩
    · rw[List.filter_cons,if_pos (by simp [ha]),List.length_cons,List.length_cons,List.mem_cons]
      constructor
      · intro h; exact .inr (ih.1 (by omega))
      · rintro(h | h)
        · exact absurd h.symm ha
        · have :=ih.2 h;omega
theorem NP (m:Nat):Wo (List.replicate m [])=0:= by unfold Wo; simp
def R9 (p:Nat) (sl:List Bs):Th:=Ca fun q:Value×Int×Int=>starL [JM (sl.length≤4096),Q3 p [q.1,intV (Wo sl:Nat),intV q.2.1,intV q.2.2],rowT stC q.1 sl]
theorem Ht {w:World} {p:Nat} {sl:List Bs} {As:List Th} (h:Sat w (R9 p sl::As)): ∃ao cap du re,sl.length≤4096∧Sat w (Q3 p [.slice ao sl.length cap,intV (Wo sl:Nat),intV du,intV re]::rowT stC (.slice ao sl.length cap) sl::As):= by
  obtain⟨⟨v,du,re⟩,h⟩:=h.ex
  obtain⟨h1,h2⟩:=h.flat.pure_elim
  obtain⟨ao,cap,hv,_⟩:=Sat.own_shape (As:=Q3 p _::rowT stC v sl::As) h2 1 rfl
  obtain rfl:=hv
  exact⟨ao,cap,du,re,h1,h2⟩
theorem Jr {w:World} {p:Nat} {sl:List Bs} {As:List Th} {v:Value} {du re:Int} (hl:sl.length≤4096) (h:Sat w (Q3 p [v,intV (Wo sl:Nat),intV du,intV re]::rowT stC v sl::As)):Sat w (R9 p sl::As):=
  Sat.ex_intro (v,du,re) (Sat.fold (As:=[JM (sl.length≤4096),Q3 p _,rowT stC v sl]) (Sat.pure_intro hl h))
theorem Cj {w:World} {p:Nat} {sl:List Bs} {F:Th} (hS:Sat w [R9 p sl,F]):
    Calls Tryz.prog 144 #[ptrV p 0] w (Ret fun v w'=>v= .tuple #[]∧Sat w' [R9 p sl,F]):= by
 obtain⟨sa,sc,du,re,hsl,hS⟩:=Ht hS
 refine Qm Tryz.func144 U Tryz.ntmps144 U ?_
 refine Qd ?_
 have hS1:=hS.drew
 refine QF [0,1,2,3,4,5,6,7,8,9,10,11] [11] We (by kernel_rfl) ?_
 refine QG U U U (Xh U U U (QV U U U CX (Q4 U U U (Qr U QL (hS1.cell 0 U U)) (QG U U U (Xh U U U (QV U U U CY (Q4 U U U (Qr U QL (hS1.cell 0 U U)) (X8 U U U (fun _=>(Be U U U)) ?_))))))))
 refine Xh U U U (QV U U U CX (Xn U U U U U U ?_))
 first | (refine Q6 hS1 U U JG (by rfl) (i:=0) U (Xa U) ?_)
 intro w2 hS3; dsimp only[List.set]at hS3
 clear hS1
 refine Z4 (X1 (by kernel_rfl)) ?_
 refine VC.nil (Qc (Qh [0] U (Qa (Qb U U (Qj U U (Qg U CY U ?_))))))
 first | (refine Q6 hS3 U U JG (by rfl) (i:=0) U (Xa U) ?_)
 intro w4 hS5; dsimp only[List.set]at hS5
 clear hS3
 exact Qf (ZD (.inl U) U (⟨_,rfl,rfl,Jr hsl (hS5.pick [0,1,2] U)⟩))
theorem Cl {w:World} {p:Nat} {sl:List Bs} {F:Th} (hS:Sat w [R9 p sl,F]) (slot:Int):
    Calls Tryz.prog 143 #[ptrV p 0,intV slot] w (Ret fun v w'=>v= .bool (Gc sl slot)∧Sat w' [R9 p sl,F]):= by
 obtain⟨sa,sc,du,re,hsl,hS⟩:=Ht hS
 refine Qm Tryz.func143 U Tryz.ntmps143 U ?_
 refine Qd (Qa (Qe U U (Qf (Qc (Qd (Qa (Qb U U (JA U U U (Qb U U (QU 7 U (fun h1=> ?_) (fun h1=> ?_)))))))))))
 ·refine Ql U U (Xl h1) (Qb U U (Ql U U (Xl h1) (Qb U U (Ql U U (Xl h1) (Qj U U (Ql U U (Xl h1) (Qg U Hz U (Ql U U (Xl h1) (Qn U R4 (hS.cell 0 U U) U (Ql U U (Xl h1) (Xr Tryz.underlying61 U U (Ql U U (Xl h1) (Xg U U U (Q9 U (Xl h1) U U (Qb U U (QU 16 U (fun h2=> ?_) (fun h2=> ?_)))))))))))))))))
  ·obtain⟨pg,hp⟩: ∃p,sl[slot.toNat]? =some p:=⟨_,Zi (by omega)⟩
   refine Ql U U (Xl h2) (Qb U U (Ql U U (Xl h2) (Qj U U (Ql U U (Xl h2) (Qg U Hz U (Ql U U (Xl h2) (Qn U R4 (hS.cell 0 U U) U (Ql U U (Xl h2) (Qb U U (Ql U U (Xl h2) (QW stC 1 slot.toNat hS U U U (by omega) hp MA U ?_)))))))))))
   intro bx3 capx3 hvx3
   refine Ql U U (Xl h2) (XE 1 slot.toNat 0 hS U hvx3 U U hp WC U U (Ql U U (Xl h2) (MU U U U (Q9 U (Xl h2) U U (Qe U U (Qf (Qc (Qh [4] U (Qu (QR (.inr U) U U ?_))))))))))
   exact⟨_,rfl, by unfold Gc; rw[hp,Xl (show 0≤slot by omega),Bool.true_and]; simp,Jr hsl (hS.pick [0,1,2] U)⟩
  refine Qi U U (QC h2) U (Qi U U (QC h2) U (Qi U U (QC h2) U (Qi U U (QC h2) U (Qi U U (QC h2) U (Qi U U (QC h2) U (Qi U U (QC h2) U (Qi U U (QC h2) U (QP U (QC h2) U U (Qe U U (Qf (Qc (Qh [4] U (Qu (QR (.inr U) U U ?_))))))))))))))
  exact⟨_,rfl, by unfold Gc; rw[List.getElem?_eq_none (by omega),Bool.and_false],Jr hsl (hS.pick [0,1,2] U)⟩
 refine Qi U U (QC h1) U (Qi U U (QC h1) U (Qi U U (QC h1) U (Qi U U (QC h1) U (Qi U U (QC h1) U (Qi U U (QC h1) U (Qi U U (QC h1) U (QP U (QC h1) U U (Qb U U (Qi U U U U (Qi U U U U (Qi U U U U (Qi U U U U (Qi U U U U (Qi U U U U (Qi U U U U (Qi U U U U (QP U U U U (Qe U U (Qf (Qc (Qh [4] U (Qu (QR (.inr U) U U ?_)))))))))))))))))))))))
 exact⟨_,rfl, by unfold Gc; rw[QC (show ¬0≤slot by omega),Bool.false_and],Jr hsl (hS.pick [0,1,2] U)⟩
theorem CN {sl:List Bs} {slot:Int} (h:Gc sl slot=true):0≤slot∧ ∃p,sl[slot.toNat]? =some p∧p≠[]:= by
  unfold Gc at h
  rw[Bool.and_eq_true,decide_eq_true_eq]at h
  refine⟨h.1, ?_⟩
  cases hq:sl[slot.toNat]? with
  | none=> rw[hq]at h; exact absurd h.2 (by simp)
  | some p=> rw[hq]at h; exact⟨p,rfl, by simpa using h.2⟩
def B3 (sl:List Bs) (slot:Int):Bs:= if Gc sl slot=true then(sl[slot.toNat]?).getD []else[]
def Ki (sl:List Bs) (slot:Int):List Bs:= if Gc sl slot=true then sl.set slot.toNat []else sl
theorem six_sp {w:World} {F:Th} (hS:Sat w [F]) {lv:Value} {l:List Bs} (hL:Ent F (RdL stC lv l)) (e:Bs):
    Calls Tryz.prog 205 #[lv,strV e] w (Ret fun v w'=>(v=intV (-1)∧e∉l∧Sat w' [F])∨(∃k:Nat,v=intV (k:Int)∧l[k]? =some e∧Sat w' [F])):= by
 obtain⟨ao,cap,rfl,hmax⟩:=(hL.sat hS 0 rfl).shape
 refine Qm Tryz.func205 U Tryz.ntmps205 U ?_
 refine Qd (Qa (Qe U U (Qf (Qc (Qd (Qd (Qa (Qb U U (Xr Tryz.underlying61 U U (Qb U U (Qf (Qc (Qv ?_)))))))))))))
 refine Xb (fun K0 E0 W0=> ∃(i:Nat),K0=l.length -i∧E0=[(0,.slice ao l.length cap),(1,strV e),(7,intV (l.length:Int)),(8,intV (i:Int))]∧Sat W0 [F]∧(i≤l.length)∧(∀j y,j<i→l[j]? =some y→y≠e)) (L0:=[(0,_),(1,_),(7,_),(8,_)]) (l.length -0) (VN U U U U) ⟨0,rfl,rfl,hS, by omega, by omega⟩ ?_
 rintro _ _ w1 ⟨i,rfl,rfl,hS1,hi,hno⟩
 refine Qd (Qa (Xg U U U (Qf (Qc (Qd (Qs U (fun h2=> ?_) (fun h2=> ?_)))))))
 ·obtain⟨x,hx⟩: ∃x,l[i]? =some x:=⟨_,Zi (by omega)⟩
  obtain⟨b,off,rfl,_⟩:=(hL.sat hS1 0 rfl).get hx
  refine Qt (Qc (Qd (Qv (Qd (Qa (Qb U U (Qe U U (Qf (Qc (Qd (Qa (Qb U U (Qb U U (Qb U U (Zq i U U (by first | rfl | omega) ((XR hx).1) MA U ?_)))))))))))))))
  refine Qn U WC (((hL.sat hS1 0 U).at_ hx) 0 _ U) U (KE U U U (Qf (Qc (Qh [8,7,1,0,5,16] U (Qs U (fun h3=> ?_) (fun h3=> ?_))))))
  ·have heq:e=x:=h3
   refine Qd (Qa (Qb U U (Qe U U (Qf (Qc (Qu (Qz (Qp (Qp (Qz (Qp (QR (.inr U) U U ?_))))))))))))
   exact⟨_,rfl,.inr ⟨i,rfl, by rw[hx,heq],hS1.pick [0] U⟩⟩
  have hne: ¬e=x:=h3
  refine Qt (Qk (Qc (Qa (QI U U (by omega) (by omega) U ?_))))
  refine Qb U U (Qf ?_)
  exact Q0 (L1:=[(0,_),(1,_),(7,_),(8,intV ((i+1:Nat):Int))]) (VN U U U U) (k1:=l.length -(i+1)) (by omega) ⟨i+1,rfl,rfl,hS1.pick [0] U, by omega, fun j y hj hq=> by by_cases e:j=i;(subst e; rw[hx]at hq; cases hq; exact fun q=>hne q.symm); exact hno j y (by omega) hq⟩
 refine QM (Qo (Qo (Qx (Qc (Qd (Qa (Qe U U (Qf (Qc (Qu (QR (.inr U) U U ?_)))))))))))
 exact⟨_,rfl,.inl ⟨rfl, fun hm=> by obtain⟨j,hj⟩:=List.mem_iff_getElem?.1 hm; exact hno j e (by have :=(XR hj).1;omega) hj rfl,hS1.pick [0] rfl⟩⟩
theorem Ck {w:World} {p:Nat} {sl:List Bs} {F:Th} (hS:Sat w [R9 p sl,F]) (page:Bs) (hpl:page.length=64):
    Calls Tryz.prog 172 #[ptrV p 0,strV page] w (Ret fun v w'=>(Wo sl=sl.length∧v= .tuple #[intV (-1),.bool false]∧Sat w' [R9 p sl,F])∨(∃k:Nat,sl[k]? =some []∧v= .tuple #[intV (k:Int),.bool true]∧Sat w' [R9 p (sl.set k page),F])):= by
 refine Qm Tryz.func172 U Tryz.ntmps172 U ?_
 refine Qd (Qa (Qe U U (Qe U U (Qf (Qc (Qd (Qd ?_)))))))
 have hul:=Y9 sl
 obtain⟨sa,sc,du,re,hsl,hSo⟩:=Ht (hS.pick [0,1] rfl)
 have hS1:=hSo.drew
 refine QF [0,1,2,3,4,5,6,7,8,9,10,11,12,13,14] [] We (by kernel_rfl) ?_
 refine QG U U U (X8 U U U (fun _=>(Bd Tryz.underlying9 U)) ?_)
 refine X8 U U U (fun _=>(Tz U U)) ?_
 refine QG U U U (HR 10 U (fun h2=> ?_) (fun h2=> ?_))
 ·exact absurd h2 (by omega)
 refine X8 U U (XD U U (QC h2)) (fun _=>(Ev.gd (XO U))) ?_
 refine X8 U U (XD U U (QC h2)) (fun _=>(Ev.gd (YI U))) ?_
 refine X8 U U (XD U U (QC h2)) (fun _=>(Ev.gd (Yq U Uf))) ?_
 refine Q4 U U (XD U U (QC h2)) (Ev.gd (Qr U QL (hS1.cell 0 U U))) (X8 U U (XD U U (QC h2)) (fun _=>(Ev.gd (XO U))) ?_)
 refine X8 U U (XD U U (QC h2)) (fun _=>(Ev.gd (YI U))) ?_
 refine X8 U U (XD U U (QC h2)) (fun _=>(Ev.gd (Yq U Hz))) ?_
 refine Q4 U U (XD U U (QC h2)) (Ev.gd (Qr U R4 (hS1.cell 0 U U))) (X8 U U (XD U U (QC h2)) (fun _=>(Ev.gd (VB Tryz.underlying61 U))) ?_)
 refine X8 U U (XD U U (QC h2)) (fun _=>(Ev.gd (U5 U U))) ?_
 refine X8 U U U (fun _=>(Uh U (QC h2) U)) ?_
 refine VC.nil (Qc (Qh [1,0,4,5,21] U (Qs U (fun h3=> ?_) (fun h3=> ?_))))
 ·exact Qd (Qa (Qe U U (Qe U U (Qf (Qc (Qu (Qp (WW (.inr U) U U U (⟨_,rfl,.inl ⟨by omega,rfl,Jr hsl (hS1.pick [0,1,2] U)⟩⟩)))))))))
 refine Qt (Qc (Qd ?_))
 have hSz:=Jr hsl (hS1.pick [0,1,2] U)
 refine Qa (Qb U U (Qw SN U (Cj (hSz.sp [0] U)) U ?_))
 rintro _ w4 ⟨rfl,hS4⟩
 replace hS4:=hS4.jn U U
 clear hSz
 refine Qf (Qc (Qd ?_))
 have hul:=Y9 sl
 obtain⟨sa,sc,du,re,hsl,hSo⟩:=Ht (hS4.pick [0,1] rfl)
 refine Qa (Qb U U (Qj U U (Qg U Hz U (Qn U R4 (hSo.cell 0 U U) U (XU cal_205 U (six_sp (hSo.sp [] U) (Ent.starL (HE (C:=stC) (l:=sl) (by omega)) 1 U) []) U ?_)))))
 rintro e w5 ⟨_,rfl,(⟨rfl,hno,hS5⟩ | ⟨k,rfl,hk,hS5⟩)⟩
 ·exact absurd (Bu.1 (by have :=Y9 sl;omega)) hno
 refine⟨_,rfl, ?_⟩
 replace hS5:=hS5.jn U U
 clear hSo
 refine Qe U U (Qf (Qc (Qh [1,0,4,5,6] U (Qd (Qa (Qb U U (Qj U U (Qg U Hz U (Qn U R4 (hS5.cell 0 U U) U (Qb U U (Qb U U (QW stC 1 k hS5 U U U (by first | rfl | omega) hk MA U ?_))))))))))))
 intro bx6 capx6 hvx6
 refine Wx 1 k page hS5 U hvx6 U U sz_9 (by rfl) ((XR hk).1) ?_
 intro w7 hS8; dsimp only[List.set]at hS8
 clear hS5
 refine Qf (Qc (Qh [0,4,5,6] U (Qd (Qa (Qb U U (Qj U U (Qg U Uf U (Qn U QL (hS8.cell 0 U U) U (QI U U (by omega) (by omega) U ?_)))))))))
 refine Qj U U (Qg U Uf U ?_)
 first | (refine Q6 hS8 U U JG (by rfl) (i:=0) U (Xa U) ?_)
 intro w9 hS10; dsimp only[List.set]at hS10
 clear hS8
 refine Qf (Qc (Qh [4,5,6] U (Qd (Qa (Qb U U (Qe U U (Qe U U (Qf (Qc (Qu (WW (.inr U) U U U ?_)))))))))))
 have hpn:page≠[]:= fun q=> by subst q; simp at hpl
 exact⟨_,rfl,.inr ⟨k,hk,rfl,Jr (by rw[List.length_set]; exact hsl) (by rw[RG hk hpn,Int.natCast_add]; exact hS10.pick [0,1,2] U)⟩⟩
theorem Cm {w:World} {p:Nat} {sl:List Bs} {F:Th} (hS:Sat w [R9 p sl,F]) (slot:Int):
    Calls Tryz.prog 93 #[ptrV p 0,intV slot] w (Ret fun v w'=> ∃e,v= .tuple #[strV (B3 sl slot),intV e]∧Sat w' [R9 p sl,F]):= by
 refine Qm Tryz.func93 U Tryz.ntmps93 U ?_
 refine Qd (Qa (Qe U U (Qe U U (Qf (Qc (Qd (Qd (Qa (Qb U U (Qb U U (Qw SO U (Cl (hS.sp [0] U) slot) U ?_)))))))))))
 rintro _ w1 ⟨rfl,hS1⟩
 replace hS1:=hS1.jn U U
 refine QQ U U (Qf (Qc (QN U (fun h2=> ?_) (fun h2=> ?_))))
 ·refine Qd (Qa (Qe U U (Qe U U (Qf (Qc (Qu (Qp (WW (.inr U) U U U ?_))))))))
  exact⟨_,rfl,_, by rw[show B3 sl slot=[] by unfold B3; rw[if_neg (by simp_all)]],hS1.pick [0,1] U⟩
 have hh:Gc sl slot=true:= by simpa using h2
 obtain⟨h0,pg,hp,hpn⟩:=CN hh
 refine Qt (Qc (Qd (Qa (Qb U U (Qw SN U (Cj (hS1.sp [0] U)) U ?_)))))
 rintro _ w3 ⟨rfl,hS3⟩
 replace hS3:=hS3.jn U U
 clear hS1
 refine Qf (Qc (Qd ?_))
 have hul:=Y9 sl
 obtain⟨sa,sc,du,re,hsl,hSo⟩:=Ht (hS3.pick [0,1] rfl)
 refine Qa (Qb U U (Qj U U (Qg U Hz U (Qn U R4 (hSo.cell 0 U U) U (Qb U U (QW stC 1 slot.toNat hSo U U U (by omega) hp MA U ?_))))))
 intro bx4 capx4 hvx4
 refine XE 1 slot.toNat 0 hSo U hvx4 U U hp WC U U (Qe U U (Qe U U (Qf (Qc (Qh [4,5] U (Qu (WW (.inr U) U U U ?_)))))))
 exact⟨_,rfl,_, by rw[show B3 sl slot=pg by unfold B3; rw[if_pos hh,hp];rfl],Jr hsl (hSo.pick [0,1,2] U)⟩
theorem RM {w:World} {p:Nat} {sl:List Bs} {F:Th} (hS:Sat w [R9 p sl,F]) (slot:Int):
    Calls Tryz.prog 155 #[ptrV p 0,intV slot] w (Ret fun v w'=>v= .tuple #[]∧Sat w' [R9 p (Ki sl slot),F]):= by
 refine Qm Tryz.func155 U Tryz.ntmps155 U ?_
 refine Qd (Qa (Qb U U (Qb U U (Qw SO U (Cl (hS.sp [0] U) slot) U ?_))))
 rintro _ w1 ⟨rfl,hS1⟩
 replace hS1:=hS1.jn U U
 refine Qf (Qc (QN U (fun h2=> ?_) (fun h2=> ?_)))
 ·have hh:Gc sl slot=true:= by simpa using h2
  obtain⟨h0,pg,hp,hpn⟩:=CN hh
  refine Qd ?_
  have hul:=Y9 sl
  obtain⟨sa,sc,du,re,hsl,hSo⟩:=Ht (hS1.pick [0,1] rfl)
  refine Qa (Qb U U (Qj U U (Qg U Hz U (Qn U R4 (hSo.cell 0 U U) U (Qb U U (QW stC 1 slot.toNat hSo U U U (by omega) hp MA U ?_))))))
  intro bx3 capx3 hvx3
  refine Wx 1 slot.toNat [] hSo U hvx3 U U sz_9 (by rfl) ((XR hp).1) ?_
  intro w4 hS5; dsimp only[List.set]at hS5
  clear hSo
  refine Qf (Qc (Qh [0] U (Qa (Qb U U (Qj U U (Qg U Uf U (Qn U QL (hS5.cell 0 U U) U (Vg U U (by omega) (by omega) U ?_))))))))
  refine Qj U U (Qg U Uf U ?_)
  first | (refine Q6 hS5 U U JG (by rfl) (i:=0) U (Xa U) ?_)
  intro w6 hS7; dsimp only[List.set]at hS7
  clear hS5
  refine Qf (ZD (.inl U) U ?_)
  exact⟨_,rfl,rfl, by rw[show Ki sl slot=sl.set slot.toNat [] by unfold Ki; rw[if_pos hh]]; exact Jr (by rw[List.length_set]; exact hsl) (by rw[show((Wo (sl.set slot.toNat []):Nat):Int)=(Wo sl:Nat) -1 by have :=Bv hp hpn;omega]; exact hS7.pick [0,1,2] U)⟩
 refine Qt (ZD (.inl U) U ?_)
 exact⟨_,rfl,rfl, by rw[show Ki sl slot=sl by unfold Ki; rw[if_neg (by simp_all)]]; exact hS1.pick [0,1] U⟩
theorem Md {w:World} {p:Nat} {sl:List Bs} {F:Th} (hS:Sat w [R9 p sl,F]):
    Calls Tryz.prog 62 #[ptrV p 0] w (Ret fun v w'=>v=intV (Wo sl:Nat)∧Sat w' [R9 p sl,F]):= by
 obtain⟨sa,sc,du,re,hsl,hS⟩:=Ht hS
 refine Qm Tryz.func62 U Tryz.ntmps62 U ?_
 exact Qd (Qa (Qe U U (Qf (Qc (Qd (Qa (Qb U U (Qj U U (Qg U Uf U (Qn U QL (hS.cell 0 U U) U (Qe U U (Qf (Qc (Qu (QR (.inr U) U U (⟨_,rfl,rfl,Jr hsl (hS.pick [0,1,2] U)⟩))))))))))))))))
theorem srow (m:Nat):(List.replicate m [strV []]).flatten=stC.cells (List.replicate m []):= by
  induction m with
  | zero=>rfl
  | succ m ih=> rw[List.replicate_succ,List.flatten_cons,ih,List.replicate_succ];rfl
theorem En {w:World} {F:Th} (hS:Sat w [F]) (n:Int):
    Calls Tryz.prog 58 #[intV n] w (Ret fun v w'=> ∃p,v=ptrV p 0∧Sat w' [R9 p (List.replicate (max 0 (min n 4096)).toNat []),F]):= by
 refine Qm Tryz.func58 U Tryz.ntmps58 U ?_
 refine Qd (Qa (Qe U U (Qf (Qc (Qd (Qa (Qb U U (Uq U U U (Y3 U U U (GH hS (max 0 (min n 4096)).toNat U U (by omega) Tryz.underlying61 ifo_9 U (by omega) (by omega) U ?_))))))))))
 intro db w1 hS1a; have hS1:=hS1a.row_cast (l:=List.replicate (max 0 (min n 4096)).toNat []) (C:=stC) (by simp) U (srow _)
 refine Zu U ES asz_185 zr_185 U U (Zd hS1 U U U ?_)
 intro bp wbp hSbp
 clear hS1
 refine Qe U U (Qf (Qc (Qu (QR (.inr U) U U ?_))))
 exact⟨_,rfl,_,rfl,Jr (du:=0) (re:=0) (by rw[List.length_replicate];omega) (by rw[NP]; exact hSbp.pick [0,1,2] U)⟩
end Go.Proofs.YtkcjfoaejijdoaaGreatDoor
