/- Closed facts of the program: offsets, sizes, zero values. -/
import Derived.Test.YtkcjfoaejijdoaaGreatDoorRow
import Derived.Test.YtkcjfoaejijdoaaGreatDoorMap
namespace Go.Proofs.YtkcjfoaejijdoaaGreatDoor
open Go.RowKit M Proofs.Tryz
theorem QL:Wo prog 3=some false:= by kernel_rfl
theorem Mc:Wo prog 4=some false:= by kernel_rfl
theorem W9:Wo prog 9=some false:= by kernel_rfl
theorem J6:Wo prog 22=some false:= by kernel_rfl
theorem Xy:Wo prog 25=some false:= by kernel_rfl
theorem Gi:Wo prog 28=some false:= by kernel_rfl
theorem ag_43:Wo prog 43=some true:= by kernel_rfl
theorem J5:Wo prog 47=some false:= by kernel_rfl
theorem K8:Wo prog 61=some false:= by kernel_rfl
theorem X9:Wo prog 76=some true:= by kernel_rfl
theorem Hf:Wo prog 81=some false:= by kernel_rfl
theorem Wx:Wo prog 82=some false:= by kernel_rfl
theorem Hq:Wo prog 83=some false:= by kernel_rfl
theorem WR:Wo prog 90=some false:= by kernel_rfl
theorem K7:Wo prog 91=some false:= by kernel_rfl
theorem ag_98:Wo prog 98=some false:= by kernel_rfl
theorem Zs:Wo prog 108=some false:= by kernel_rfl
theorem ZY:Wo prog 109=some false:= by kernel_rfl
theorem YC:Wo prog 110=some false:= by kernel_rfl
theorem Uj:Wo prog 112=some false:= by kernel_rfl
theorem V7:Wo prog 114=some false:= by kernel_rfl
theorem ag_117:Wo prog 117=some true:= by kernel_rfl
theorem qao:Wo prog 127=some true:= by kernel_rfl
theorem UT:Wo prog 143=some false:= by kernel_rfl
theorem Ui:Wo prog 181=some false:= by kernel_rfl
theorem ag_185:Wo prog 185=some true:= by kernel_rfl
theorem Jo:Wo prog 186=some false:= by kernel_rfl
theorem ag_195:Wo prog 195=some true:= by kernel_rfl
theorem qan:Wo prog 199=some true:= by kernel_rfl
theorem Sp:Wo prog 203=some false:= by kernel_rfl
theorem Hn:He prog 76=true:= by kernel_rfl
theorem Cr:He prog 85=true:= by kernel_rfl
theorem asz_88:He prog 88=true:= by kernel_rfl
theorem Sm:He prog 93=true:= by kernel_rfl
theorem asz_117:He prog 117=true:= by kernel_rfl
theorem Ud:He prog 127=true:= by kernel_rfl
theorem FN:He prog 183=true:= by kernel_rfl
theorem asz_185:He prog 185=true:= by kernel_rfl
theorem FM:He prog 188=true:= by kernel_rfl
theorem asz_195:He prog 195=true:= by kernel_rfl
theorem Cs:He prog 199=true:= by kernel_rfl
theorem cal_8:QI prog 8=true:= by kernel_rfl
theorem cal_9:QI prog 9=true:= by kernel_rfl
theorem GR:QI prog 10=true:= by kernel_rfl
theorem IU:QI prog 11=true:= by kernel_rfl
theorem GQ:QI prog 12=true:= by kernel_rfl
theorem IT:QI prog 13=true:= by kernel_rfl
theorem Cm:QI prog 14=true:= by kernel_rfl
theorem cal_15:QI prog 15=true:= by kernel_rfl
theorem cal_16:QI prog 16=true:= by kernel_rfl
theorem cal_17:QI prog 17=true:= by kernel_rfl
theorem IS:QI prog 19=true:= by kernel_rfl
theorem GP:QI prog 23=true:= by kernel_rfl
theorem IR:QI prog 24=true:= by kernel_rfl
theorem IQ:QI prog 25=true:= by kernel_rfl
theorem IP:QI prog 27=true:= by kernel_rfl
theorem cal_31:QI prog 31=true:= by kernel_rfl
theorem IM:QI prog 32=true:= by kernel_rfl
theorem Cc:QI prog 33=true:= by kernel_rfl
theorem W5:QI prog 34=true:= by kernel_rfl
theorem IL:QI prog 41=true:= by kernel_rfl
theorem YO:QI prog 42=true:= by kernel_rfl
theorem W4:QI prog 43=true:= by kernel_rfl
theorem Cb:QI prog 44=true:= by kernel_rfl
theorem IK:QI prog 45=true:= by kernel_rfl
theorem Rd:QI prog 46=true:= by kernel_rfl
theorem IJ:QI prog 47=true:= by kernel_rfl
theorem YN:QI prog 48=true:= by kernel_rfl
theorem Ca:QI prog 49=true:= by kernel_rfl
theorem cal_50:QI prog 50=true:= by kernel_rfl
theorem II:QI prog 51=true:= by kernel_rfl
theorem Sj:QI prog 52=true:= by kernel_rfl
theorem Rb:QI prog 53=true:= by kernel_rfl
theorem IH:QI prog 54=true:= by kernel_rfl
theorem IG:QI prog 55=true:= by kernel_rfl
theorem cal_56:QI prog 56=true:= by kernel_rfl
theorem cal_57:QI prog 57=true:= by kernel_rfl
theorem cal_58:QI prog 58=true:= by kernel_rfl
theorem cal_59:QI prog 59=true:= by kernel_rfl
theorem cal_62:QI prog 62=true:= by kernel_rfl
theorem DX:QI prog 68=true:= by kernel_rfl
theorem cal_70:QI prog 70=true:= by kernel_rfl
theorem TZ:QI prog 71=true:= by kernel_rfl
theorem GO:QI prog 72=true:= by kernel_rfl
theorem TY:QI prog 73=true:= by kernel_rfl
theorem cal_74:QI prog 74=true:= by kernel_rfl
theorem TX:QI prog 75=true:= by kernel_rfl
theorem GN:QI prog 76=true:= by kernel_rfl
theorem cal_77:QI prog 77=true:= by kernel_rfl
theorem cal_78:QI prog 78=true:= by kernel_rfl
theorem cal_79:QI prog 79=true:= by kernel_rfl
theorem IE:QI prog 85=true:= by kernel_rfl
theorem IB:QI prog 90=true:= by kernel_rfl
theorem Sg:QI prog 91=true:= by kernel_rfl
theorem Sf:QI prog 92=true:= by kernel_rfl
theorem IA:QI prog 93=true:= by kernel_rfl
theorem UQ:QI prog 102=true:= by kernel_rfl
theorem FG:QI prog 103=true:= by kernel_rfl
theorem Ga:QI prog 104=true:= by kernel_rfl
theorem RZ:QI prog 105=true:= by kernel_rfl
theorem Uc:QI prog 106=true:= by kernel_rfl
theorem cal_107:QI prog 107=true:= by kernel_rfl
theorem FF:QI prog 108=true:= by kernel_rfl
theorem FE:QI prog 109=true:= by kernel_rfl
theorem cal_110:QI prog 110=true:= by kernel_rfl
theorem FD:QI prog 112=true:= by kernel_rfl
theorem FC:QI prog 113=true:= by kernel_rfl
theorem FB:QI prog 114=true:= by kernel_rfl
theorem FA:QI prog 115=true:= by kernel_rfl
theorem cal_116:QI prog 116=true:= by kernel_rfl
theorem cal_117:QI prog 117=true:= by kernel_rfl
theorem F9:QI prog 118=true:= by kernel_rfl
theorem F8:QI prog 119=true:= by kernel_rfl
theorem F7:QI prog 120=true:= by kernel_rfl
theorem cal_121:QI prog 121=true:= by kernel_rfl
theorem cal_122:QI prog 122=true:= by kernel_rfl
theorem cal_123:QI prog 123=true:= by kernel_rfl
theorem cal_124:QI prog 124=true:= by kernel_rfl
theorem cal_125:QI prog 125=true:= by kernel_rfl
theorem cal_128:QI prog 128=true:= by kernel_rfl
theorem cal_129:QI prog 129=true:= by kernel_rfl
theorem cal_130:QI prog 130=true:= by kernel_rfl
theorem cal_137:QI prog 137=true:= by kernel_rfl
theorem BL:QI prog 138=true:= by kernel_rfl
theorem BK:QI prog 139=true:= by kernel_rfl
theorem F5:QI prog 140=true:= by kernel_rfl
theorem Cl:QI prog 141=true:= by kernel_rfl
theorem Ck:QI prog 142=true:= by kernel_rfl
theorem F4:QI prog 143=true:= by kernel_rfl
theorem F3:QI prog 144=true:= by kernel_rfl
theorem Cj:QI prog 152=true:= by kernel_rfl
theorem Ci:QI prog 153=true:= by kernel_rfl
theorem cal_154:QI prog 154=true:= by kernel_rfl
theorem Ch:QI prog 155=true:= by kernel_rfl
theorem cal_156:QI prog 156=true:= by kernel_rfl
theorem cal_157:QI prog 157=true:= by kernel_rfl
theorem Ki:QI prog 158=true:= by kernel_rfl
theorem RY:QI prog 159=true:= by kernel_rfl
theorem RX:QI prog 160=true:= by kernel_rfl
theorem Fz:QI prog 161=true:= by kernel_rfl
theorem Fy:QI prog 162=true:= by kernel_rfl
theorem cal_163:QI prog 163=true:= by kernel_rfl
theorem cal_166:QI prog 166=true:= by kernel_rfl
theorem cal_169:QI prog 169=true:= by kernel_rfl
theorem RW:QI prog 170=true:= by kernel_rfl
theorem cal_171:QI prog 171=true:= by kernel_rfl
theorem Fx:QI prog 172=true:= by kernel_rfl
theorem cal_173:QI prog 173=true:= by kernel_rfl
theorem cal_175:QI prog 175=true:= by kernel_rfl
theorem Fw:QI prog 176=true:= by kernel_rfl
theorem cal_177:QI prog 177=true:= by kernel_rfl
theorem cal_178:QI prog 178=true:= by kernel_rfl
theorem cal_185:QI prog 185=true:= by kernel_rfl
theorem Cg:QI prog 186=true:= by kernel_rfl
theorem Fv:QI prog 187=true:= by kernel_rfl
theorem Fu:QI prog 188=true:= by kernel_rfl
theorem cal_189:QI prog 189=true:= by kernel_rfl
theorem cal_203:QI prog 203=true:= by kernel_rfl
theorem cal_204:QI prog 204=true:= by kernel_rfl
theorem cal_205:QI prog 205=true:= by kernel_rfl
theorem cal_215:QI prog 215=true:= by kernel_rfl
theorem Ft:QI prog 216=true:= by kernel_rfl
theorem Cf:QI prog 220=true:= by kernel_rfl
theorem cal_221:QI prog 221=true:= by kernel_rfl
theorem cal_222:QI prog 222=true:= by kernel_rfl
theorem Ce:QI prog 223=true:= by kernel_rfl
theorem cal_238:QI prog 238=true:= by kernel_rfl
theorem Im:YB prog 36=some 8:= by kernel_rfl
theorem Jr:YB prog 47=some 1:= by kernel_rfl
theorem Bf:YB prog 61=some 1:= by kernel_rfl
theorem K6:YB prog 98=some 2:= by kernel_rfl
theorem Io:YB prog 143=some 1:= by kernel_rfl
theorem Vy:YB prog 181=some 65:= by kernel_rfl
theorem Hm:YB prog 186=some 4:= by kernel_rfl
theorem Ff:X3 prog 43 0=some 0:= by kernel_rfl
theorem Hx:X3 prog 43 2=some 2:= by kernel_rfl
theorem Fe:X3 prog 43 3=some 3:= by kernel_rfl
theorem BD:X3 prog 43 4=some 4:= by kernel_rfl
theorem RI:X3 prog 43 5=some 5:= by kernel_rfl
theorem Ua:X3 prog 43 6=some 6:= by kernel_rfl
theorem BC:X3 prog 43 7=some 7:= by kernel_rfl
theorem JT:X3 prog 76 0=some 0:= by kernel_rfl
theorem Ka:X3 prog 76 1=some 1:= by kernel_rfl
theorem XJ:X3 prog 85 0=some 0:= by kernel_rfl
theorem Jm:X3 prog 85 1=some 1:= by kernel_rfl
theorem Zr:X3 prog 85 2=some 2:= by kernel_rfl
theorem RG:X3 prog 85 4=some 4:= by kernel_rfl
theorem UN:X3 prog 88 0=some 0:= by kernel_rfl
theorem WK:X3 prog 88 1=some 1:= by kernel_rfl
theorem JR:X3 prog 88 2=some 2:= by kernel_rfl
theorem Wj:X3 prog 88 3=some 3:= by kernel_rfl
theorem Jl:X3 prog 93 0=some 0:= by kernel_rfl
theorem ZE:X3 prog 93 1=some 1:= by kernel_rfl
theorem UM:X3 prog 93 2=some 2:= by kernel_rfl
theorem XI:X3 prog 117 0=some 0:= by kernel_rfl
theorem YA:X3 prog 117 1=some 1:= by kernel_rfl
theorem Wt:X3 prog 117 2=some 2:= by kernel_rfl
theorem W2:X3 prog 117 3=some 3:= by kernel_rfl
theorem Yf:X3 prog 117 4=some 4:= by kernel_rfl
theorem HN:X3 prog 117 5=some 5:= by kernel_rfl
theorem Ib:X3 prog 117 6=some 6:= by kernel_rfl
theorem N0:X3 prog 117 7=some 7:= by kernel_rfl
theorem DE:X3 prog 117 8=some 8:= by kernel_rfl
theorem RP:X3 prog 117 9=some 9:= by kernel_rfl
theorem JD:X3 prog 127 0=some 0:= by kernel_rfl
theorem Hc:X3 prog 127 1=some 1:= by kernel_rfl
theorem Y9:X3 prog 127 2=some 2:= by kernel_rfl
theorem DD:X3 prog 127 3=some 3:= by kernel_rfl
theorem Ye:X3 prog 183 0=some 0:= by kernel_rfl
theorem Vu:X3 prog 183 1=some 1:= by kernel_rfl
theorem Y8:X3 prog 185 0=some 0:= by kernel_rfl
theorem Uy:X3 prog 185 1=some 1:= by kernel_rfl
theorem Nz:X3 prog 185 2=some 2:= by kernel_rfl
theorem Ny:X3 prog 185 3=some 3:= by kernel_rfl
theorem ZX:X3 prog 188 0=some 0:= by kernel_rfl
theorem Y7:X3 prog 188 1=some 1:= by kernel_rfl
theorem Vt:X3 prog 188 2=some 2:= by kernel_rfl
theorem Ux:X3 prog 188 3=some 3:= by kernel_rfl
theorem RO:X3 prog 188 4=some 4:= by kernel_rfl
theorem DC:X3 prog 195 0=some 0:= by kernel_rfl
theorem RN:X3 prog 195 1=some 1:= by kernel_rfl
theorem RM:X3 prog 199 0=some 0:= by kernel_rfl
theorem Uw:X3 prog 199 1=some 1:= by kernel_rfl
theorem DB:X3 prog 199 2=some 2:= by kernel_rfl
theorem RK:X3 prog 199 3=some 3:= by kernel_rfl
theorem RJ:X3 prog 205 0=some 0:= by kernel_rfl
theorem Y6:X3 prog 205 1=some 1:= by kernel_rfl
theorem RD:DF prog 127 0=some (0,none):= by kernel_rfl
theorem Nu:DF prog 127 3=some (3,none):= by kernel_rfl
theorem UX:(prog.info? 3).map (fun i=>(i.zero,i.size,i.bytes))=some (some (.int .i64 0),1,8):= by kernel_rfl
theorem Nl:(prog.info? 5).map (fun i=>(i.zero,i.size,i.bytes))=some (some (.int .u8 0),1,1):= by kernel_rfl
theorem OO:(prog.info? 9).map (fun i=>(i.zero,i.size,i.bytes))=some (some (.string ⟨#[]⟩),1,16):= by kernel_rfl
theorem ifo_76:(prog.info? 76).map (fun i=>(i.zero,i.size,i.bytes))=some (some (.agg #[(.string ⟨#[]⟩),(.int .i64 0)]),2,24):= by kernel_rfl
theorem SZ:(prog.info? 195).map (fun i=>(i.zero,i.size,i.bytes))=some (some (.agg #[(.bool false),(.int .u8 0),(.int .u8 0),(.int .u8 0),(.int .u8 0),(.int .u8 0),(.int .u8 0),(.int .u8 0),(.int .u8 0),(.int .u8 0),(.int .u8 0),(.int .u8 0),(.int .u8 0),(.int .u8 0),(.int .u8 0),(.int .u8 0),(.int .u8 0),(.int .u8 0),(.int .u8 0),(.int .u8 0),(.int .u8 0),(.int .u8 0),(.int .u8 0),(.int .u8 0),(.int .u8 0),(.int .u8 0),(.int .u8 0),(.int .u8 0),(.int .u8 0),(.int .u8 0),(.int .u8 0),(.int .u8 0),(.int .u8 0),(.int .u8 0),(.int .u8 0),(.int .u8 0),(.int .u8 0),(.int .u8 0),(.int .u8 0),(.int .u8 0),(.int .u8 0),(.int .u8 0),(.int .u8 0),(.int .u8 0),(.int .u8 0),(.int .u8 0),(.int .u8 0),(.int .u8 0),(.int .u8 0),(.int .u8 0),(.int .u8 0),(.int .u8 0),(.int .u8 0),(.int .u8 0),(.int .u8 0),(.int .u8 0),(.int .u8 0),(.int .u8 0),(.int .u8 0),(.int .u8 0),(.int .u8 0),(.int .u8 0),(.int .u8 0),(.int .u8 0),(.int .u8 0)]),65,65):= by kernel_rfl
theorem SY:(prog.info? 199).map (fun i=>(i.zero,i.size,i.bytes))=some (some (.agg #[(.bool false),(.bool false),(.bool false),(.int .i64 0)]),4,16):= by kernel_rfl
theorem Uu:(prog.info? 3).map (fun i=>(i.zero,i.size))=some (some (.int .i64 0),1):= by kernel_rfl
theorem ifz_5:(prog.info? 5).map (fun i=>(i.zero,i.size))=some (some (.int .u8 0),1):= by kernel_rfl
theorem ifz_9:(prog.info? 9).map (fun i=>(i.zero,i.size))=some (some (.string ⟨#[]⟩),1):= by kernel_rfl
theorem ifz_76:(prog.info? 76).map (fun i=>(i.zero,i.size))=some (some (.agg #[(.string ⟨#[]⟩),(.int .i64 0)]),2):= by kernel_rfl
theorem ifz_195:(prog.info? 195).map (fun i=>(i.zero,i.size))=some (some (.agg #[(.bool false),(.int .u8 0),(.int .u8 0),(.int .u8 0),(.int .u8 0),(.int .u8 0),(.int .u8 0),(.int .u8 0),(.int .u8 0),(.int .u8 0),(.int .u8 0),(.int .u8 0),(.int .u8 0),(.int .u8 0),(.int .u8 0),(.int .u8 0),(.int .u8 0),(.int .u8 0),(.int .u8 0),(.int .u8 0),(.int .u8 0),(.int .u8 0),(.int .u8 0),(.int .u8 0),(.int .u8 0),(.int .u8 0),(.int .u8 0),(.int .u8 0),(.int .u8 0),(.int .u8 0),(.int .u8 0),(.int .u8 0),(.int .u8 0),(.int .u8 0),(.int .u8 0),(.int .u8 0),(.int .u8 0),(.int .u8 0),(.int .u8 0),(.int .u8 0),(.int .u8 0),(.int .u8 0),(.int .u8 0),(.int .u8 0),(.int .u8 0),(.int .u8 0),(.int .u8 0),(.int .u8 0),(.int .u8 0),(.int .u8 0),(.int .u8 0),(.int .u8 0),(.int .u8 0),(.int .u8 0),(.int .u8 0),(.int .u8 0),(.int .u8 0),(.int .u8 0),(.int .u8 0),(.int .u8 0),(.int .u8 0),(.int .u8 0),(.int .u8 0),(.int .u8 0),(.int .u8 0)]),65):= by kernel_rfl
theorem ifz_199:(prog.info? 199).map (fun i=>(i.zero,i.size))=some (some (.agg #[(.bool false),(.bool false),(.bool false),(.int .i64 0)]),4):= by kernel_rfl
theorem Wa:prog.follows .mixedOrders=true:= by kernel_rfl
theorem SK:Y2 prog 108=true:= by kernel_rfl
theorem SJ:Y2 prog 109=true:= by kernel_rfl
theorem AU:Z4 prog 76 []=some []:= by kernel_rfl
theorem Jw:Z4 prog 76 [0,1]=some [(0,1),(1,1)]:= by kernel_rfl
theorem Mn:Z4 prog 85 [0,1,2,4]=some [(0,1),(1,1),(2,1),(4,1)]:= by kernel_rfl
theorem LJ:Z4 prog 88 [0,1]=some [(0,1),(1,1)]:= by kernel_rfl
theorem Vn:Z4 prog 93 [0,1,2]=some [(0,1),(1,1),(2,1)]:= by kernel_rfl
theorem UH:Z4 prog 117 [0,1,3,4,5,6,7,8]=some [(0,1),(1,1),(3,1),(4,1),(5,1),(6,1),(7,1),(8,1)]:= by kernel_rfl
theorem Ji:Z4 prog 127 [0,1,2]=some [(0,1),(1,1),(2,1)]:= by kernel_rfl
theorem T6:Z4 prog 127 [0,1,3]=some [(0,1),(1,1),(3,1)]:= by kernel_rfl
theorem AX:Z4 prog 183 [0]=some [(0,1)]:= by kernel_rfl
theorem P6:Z4 prog 183 [0,1]=some [(0,1),(1,1)]:= by kernel_rfl
theorem AW:Z4 prog 185 [0]=some [(0,1)]:= by kernel_rfl
theorem G8:Z4 prog 188 [0,1,2,3,4]=some [(0,1),(1,1),(2,1),(3,1),(4,1)]:= by kernel_rfl
theorem Dw:Z4 prog 188 [0,2,3,4]=some [(0,1),(2,1),(3,1),(4,1)]:= by kernel_rfl
theorem AV:Z4 prog 195 [0]=some [(0,1)]:= by kernel_rfl
theorem pl_199_:Z4 prog 199 []=some []:= by kernel_rfl
theorem Dv:Z4 prog 199 [0,3]=some [(0,1),(3,1)]:= by kernel_rfl
theorem Yq:Wb prog 3=some 1:= by kernel_rfl
theorem Ac:Wb prog 4=some 1:= by kernel_rfl
theorem C3:Wb prog 5=some 1:= by kernel_rfl
theorem sz_9:Wb prog 9=some 1:= by kernel_rfl
theorem Kx:Wb prog 22=some 1:= by kernel_rfl
theorem Un:Wb prog 28=some 1:= by kernel_rfl
theorem Ab:Wb prog 43=some 8:= by kernel_rfl
theorem Vf:Wb prog 47=some 1:= by kernel_rfl
theorem sz_61:Wb prog 61=some 1:= by kernel_rfl
theorem Xf:Wb prog 76=some 2:= by kernel_rfl
theorem sz_98:Wb prog 98=some 1:= by kernel_rfl
theorem sz_108:Wb prog 108=some 1:= by kernel_rfl
theorem Pq:Wb prog 109=some 1:= by kernel_rfl
theorem sz_110:Wb prog 110=some 1:= by kernel_rfl
theorem sz_112:Wb prog 112=some 1:= by kernel_rfl
theorem sz_114:Wb prog 114=some 1:= by kernel_rfl
theorem Ah:Wb prog 117=some 10:= by kernel_rfl
theorem Yi:Wb prog 127=some 4:= by kernel_rfl
theorem Ag:Wb prog 143=some 1:= by kernel_rfl
theorem Af:Wb prog 185=some 4:= by kernel_rfl
theorem Ae:Wb prog 195=some 65:= by kernel_rfl
theorem KG:Wb prog 199=some 4:= by kernel_rfl
theorem sz_203:Wb prog 203=some 1:= by kernel_rfl
theorem Hj:Zt prog 3=some (some (.int .i64 0)):= by kernel_rfl
theorem zr_4:Zt prog 4=some (some (.bool false)):= by kernel_rfl
theorem zr_5:Zt prog 5=some (some (.int .u8 0)):= by kernel_rfl
theorem zr_28:Zt prog 28=some (some (.int .i64 0)):= by kernel_rfl
theorem zr_43:Zt prog 43=some (some (.agg #[(.int .i64 0),(.int .i64 0),(.string ⟨#[]⟩),(.string ⟨#[]⟩),(.int .i64 0),(.int .i64 0),(.int .i64 0),(.int .i64 0)])):= by kernel_rfl
theorem zr_47:Zt prog 47=some (some (.slice none 0 0)):= by kernel_rfl
theorem Zy:Zt prog 76=some (some (.agg #[(.string ⟨#[]⟩),(.int .i64 0)])):= by kernel_rfl
theorem Ss:Zt prog 85=some (some (.agg #[(.pointer none),(.map none),(.map none),(.int .i64 0),(.map none)])):= by kernel_rfl
theorem zr_88:Zt prog 88=some (some (.agg #[(.int .i64 0),(.int .i64 0),(.int .u64 0),(.int .u64 0)])):= by kernel_rfl
theorem HB:Zt prog 89=some (some (.pointer none)):= by kernel_rfl
theorem EG:Zt prog 93=some (some (.agg #[(.int .i64 0),(.map none),(.map none)])):= by kernel_rfl
theorem JU:Zt prog 94=some (some (.pointer none)):= by kernel_rfl
theorem EM:Zt prog 117=some (some (.agg #[(.map none),(.map none),(.slice none 0 0),(.pointer none),(.pointer none),(.pointer none),(.int .i64 0),(.int .i64 0),(.int .i64 0),(.slice none 0 0)])):= by kernel_rfl
theorem XO:Zt prog 127=some (some (.agg #[(.int .i64 0),(.int .i64 0),(.int .i64 0),(.string ⟨#[]⟩)])):= by kernel_rfl
theorem EL:Zt prog 183=some (some (.agg #[(.slice none 0 0),(.int .i64 0)])):= by kernel_rfl
theorem EK:Zt prog 185=some (some (.agg #[(.slice none 0 0),(.int .i64 0),(.int .i64 0),(.int .i64 0)])):= by kernel_rfl
theorem EJ:Zt prog 188=some (some (.agg #[(.slice none 0 0),(.int .i64 0),(.map none),(.map none),(.map none)])):= by kernel_rfl
theorem zr_195:Zt prog 195=some (some (.agg #[(.bool false),(.int .u8 0),(.int .u8 0),(.int .u8 0),(.int .u8 0),(.int .u8 0),(.int .u8 0),(.int .u8 0),(.int .u8 0),(.int .u8 0),(.int .u8 0),(.int .u8 0),(.int .u8 0),(.int .u8 0),(.int .u8 0),(.int .u8 0),(.int .u8 0),(.int .u8 0),(.int .u8 0),(.int .u8 0),(.int .u8 0),(.int .u8 0),(.int .u8 0),(.int .u8 0),(.int .u8 0),(.int .u8 0),(.int .u8 0),(.int .u8 0),(.int .u8 0),(.int .u8 0),(.int .u8 0),(.int .u8 0),(.int .u8 0),(.int .u8 0),(.int .u8 0),(.int .u8 0),(.int .u8 0),(.int .u8 0),(.int .u8 0),(.int .u8 0),(.int .u8 0),(.int .u8 0),(.int .u8 0),(.int .u8 0),(.int .u8 0),(.int .u8 0),(.int .u8 0),(.int .u8 0),(.int .u8 0),(.int .u8 0),(.int .u8 0),(.int .u8 0),(.int .u8 0),(.int .u8 0),(.int .u8 0),(.int .u8 0),(.int .u8 0),(.int .u8 0),(.int .u8 0),(.int .u8 0),(.int .u8 0),(.int .u8 0),(.int .u8 0),(.int .u8 0),(.int .u8 0)])):= by kernel_rfl
theorem BO:Zt prog 199=some (some (.agg #[(.bool false),(.bool false),(.bool false),(.int .i64 0)])):= by kernel_rfl
theorem EI:Zt prog 205=some (some (.agg #[(.pointer none),(.slice none 0 0)])):= by kernel_rfl
abbrev Bytes:=List UInt8
structure DS where
  F:Int→Bytes×Bytes
  Q:List (Int×Int)
  lost:Int
  down:Bool
  armed:Int
  keep:List Int
def AF (F:Int→Bytes×Bytes) (f:Int) (x:Bytes×Bytes):Int→Bytes×Bytes:= fun k=> if k=f then x else F k
structure DInv (D:DS):Prop where
  now: ∀k,(D.F k).1.length≤16777216
  last: ∀k,(D.F k).2.length≤16777216
  nodup:D.Q.Nodup
  secs: ∀p∈D.Q,(0≤p.1∧p.1<16)∧0≤p.2∧p.2≤262144
  lost:0≤D.lost∧D.lost≤9223372036854775807
  armed:0≤D.armed∧D.armed≤9223372036854775807
structure DL where
  bf:Nat
  bs:Nat
  qv:Value
theorem Mv (a b:Bytes):XG (a++b)=XG a++XG b:= by simp [XG]
theorem NR (a:Bytes) (k:Nat):(XG a).take k=XG (a.take k):= by simp [XG]
theorem NS (a:Bytes) (k:Nat):(XG a).drop k=XG (a.drop k):= by simp [XG]
theorem Mu (X t:Bytes) (a:Nat):XT (XG X) a (XG t)=XG (X.take a++t++X.drop (a+t.length)):= by
  simp [XT,Mv,NR,NS,YS]
theorem KB (m:Nat):(List.replicate m (Value.int .u8 0).cells.toList).flatten=XG (List.replicate m 0):= by
  have :(Value.int .u8 0).cells.toList=[.int .u8 0]:=rfl
  rw[this,flat1]; simp [XG]
def fillB (s:Bytes) (m:Nat):Bytes:=s++List.replicate (m -s.length) 0
theorem put1 (s:Bytes) (m:Nat) (h:s.length≤m):XT (XG (List.replicate m 0)) 0 (XG (s.take m))=XG (fillB s m):= by
  rw[Mu,List.take_of_length_le h]
  simp [fillB]
def inC:RowC Int:=⟨fun x=>[intV x],1, by decide, fun _=>rfl, fun _=>rfl⟩
def KT:List (Int×Bytes×Bytes)→Int→Bytes×Bytes
  | [],_=>([],[])
  | x::l,f=> if x.1=f then x.2 else KT l f
structure RInv (l:List (Int×Bytes×Bytes)) (D:DS):Prop where
  inv:DInv D
  says: ∀k,KT l k=D.F k
  num: ∀x∈l,0≤x.1∧x.1<16
  nodup:(l.map (·.1)).Nodup
structure RL where
  fv:Value
  qv:Value
  l:List (Int×Bytes×Bytes)
theorem OW {l m:List (Int×Bytes×Bytes)} {f:Int} (h: ∀x∈l,x.1≠f):KT (l++m) f=KT m f:= by
  induction l with
  | nil=>rfl
  | cons x l ih=> rw[List.cons_append,KT,if_neg (h x (by simp)),ih fun y hy=>h y (by simp [hy])]
theorem Ns {l:List (Int×Bytes×Bytes)} {f k:Int} (h:k≠f) (m:List (Int×Bytes×Bytes)) (hm:KT m k=([],[])):KT (l.filter (fun x=>decide (x.1≠f))++m) k=KT l k:= by
  induction l with
  | nil=> exact hm
  | cons x l ih=>
    by_cases e:x.1=f
    · rw[List.filter_cons_of_neg (by simp [e]),ih,KT,if_neg (by omega)]
    · rw[List.filter_cons_of_pos (by simp [e]),List.cons_append,KT,KT,ih]
def putR (l:List (Int×Bytes×Bytes)) (x:Int×Bytes×Bytes):List (Int×Bytes×Bytes):=l.filter (fun y=>decide (y.1≠x.1))++[x]
theorem LD {l:List (Int×Bytes×Bytes)} {F:Int→Bytes×Bytes} (h: ∀k,KT l k=F k) (x:Int×Bytes×Bytes) (k:Int):KT (putR l x) k=AF F x.1 x.2 k:= by
  unfold putR AF
  by_cases e:k=x.1
  · subst e
    rw[OW (fun y hy=> by simpa using(List.mem_filter.1 hy).2),if_pos U]
    simp [KT]
  · rw[Ns e [x] (by rw[KT,if_neg (Ne.symm e)];rfl),if_neg e]; exact h k
theorem RInv.put {l:List (Int×Bytes×Bytes)} {D:DS} (h:RInv l D) (k:Int) (a b:Bytes) (hk:0≤k∧k<16) (ha:a.length≤16777216) (hb:b.length≤16777216):RInv (putR l (k,a,b)) {D with F:=AF D.F k (a,b)}:= by
  refine⟨{h.inv with now:= fun j=> ?_,last:= fun j=> ?_},LD h.says (k,a,b), fun x hx=> ?_, ?_⟩
  · simp only[AF];split
    · exact ha
    · exact h.inv.now j
  · simp only[AF];split
    · exact hb
    · exact h.inv.last j
  · rcases List.mem_append.1 hx with q | q
    · exact h.num x (List.mem_filter.1 q).1
    · simp at q; subst q; exact hk
  · unfold putR
    rw[List.map_append]
    refine List.nodup_append.2 ⟨(h.nodup.sublist (List.filter_sublist.map _)), by simp, ?_⟩
    intro x hx y hy e
    obtain⟨z,hz,rfl⟩:=List.mem_map.1 hx
    simp at hy
    have :=(List.mem_filter.1 hz).2
    simp at this
    exact this (e.trans hy)
theorem RInv.count {l:List (Int×Bytes×Bytes)} {D:DS} (h:RInv l D):l.length≤16:= by
  have hs: ∀x∈(l.map (·.1)).map Int.toNat,x∈List.range 16:= by
    intro x hx
    obtain⟨y,hy,rfl⟩:=List.mem_map.1 hx
    obtain⟨z,hz,rfl⟩:=List.mem_map.1 hy
    have :=h.num z hz
    simp;omega
  have hm:((l.map (·.1)).map Int.toNat).Nodup:= by
    refine List.pairwise_map.2 (h.nodup.imp_of_mem ?_)
    intro a b ha hb hne e
    obtain⟨z,hz,rfl⟩:=List.mem_map.1 ha
    obtain⟨y,hy,rfl⟩:=List.mem_map.1 hb
    have :=h.num z hz; have :=h.num y hy
    exact hne (by omega)
  have :=List.Nodup.length_le_of_subset hm hs
  simpa using this
theorem RInv.upd {l:List (Int×Bytes×Bytes)} {D D':DS} (h:RInv l D) (hF:D'.F=D.F) (hi:DInv D'):RInv l D':=⟨hi, fun k=> by rw[hF]; exact h.says k,h.num,h.nodup⟩
end Go.Proofs.YtkcjfoaejijdoaaGreatDoor
namespace Go.Proofs.YtkcjfoaejijdoaaGreatDoor.M
open Go.RowKit Proofs.Tryz
section
variable {P:Program} {n:Nat} {ops:Array Oper} {Q:Exit→Act→World→Prop} {rest:List Oper} {L:Env} {w:World} {d:Nat} {ty:TypeId} {pos:String} {aft:Array Edge} {As:List Th}
theorem UZ {x:Operand} {t e N b o sz:Nat} (hu:P.underlying t=some (.array N e)) (hN:Nat.blt 0 N=true) (hx:look L x=some (ptrV b o)) (hs:Wb P e=some sz) (hd:Nat.blt d n=true) (hk:wl P n ops Q rest ((d,.slice (some ⟨b,o,none⟩) N N)::L) w):wl P n ops Q (⟨some d,.slice t x none none none,ty,pos,aft,none⟩::rest) L w:=
  X8 hd (fun ρ hρ=> by
    have h3: ∀w,(sizeOf e).run P w= .ok sz w:= fun w=>run_sizeOf hs w
    have hn: ¬N=0:= by simp at hN;omega
    simp [execOp,hρ _ _ hx,Instr.sliceAt,run_underlying hu,Instr.sureAddr,Instr.sliceBounds,h3,hn]
    simp [Addr.add]) hk
end
theorem HL (l:List Int):inC.cells l=l.map intV:= by
  induction l with
  | nil=>rfl
  | cons a l ih=> simp only[RowC.cells,List.flatMap_cons,List.map_cons]at ih⊢; rw[ih];rfl
def YV (sz:Nat) (v:Value) (A B:Nat):Value:= match v with
  | .slice a _ cap=> .slice (if cap=A then a else a.map fun p=>p.add (A*sz)) (B -A) (cap -A)
  | v=>v
section
variable {P:Program} {n:Nat} {ops:Array Oper} {Q:Exit→Act→World→Prop} {rest:List Oper} {L:Env} {w:World} {d:Nat} {ty:TypeId} {pos:String} {aft:Array Edge}
theorem TI {x:Operand} {t e m cap sz:Nat} {a:Option Addr} {lo hi:Option Operand} (A B:Nat) (hu:P.underlying t=some (.slice e)) (hs:Wb P e=some sz) (hx:look L x=some (.slice a m cap)) (hlo:bndL L lo 0 A) (hhi:bndL L hi m B) (h1:A≤B) (h2:B≤cap):
    Ev P L w ⟨some d,.slice t x lo hi none,ty,pos,aft,none⟩ (YV sz (.slice a m cap) A B):= fun ρ hρ=> by
  have hb:=KL (P:=P) true m cap _ _ A B (hlo.val hρ) (hhi.val hρ) h1 h2 w
  simp only[execOp,hρ _ _ hx]
  simp [Instr.sliceAt,Instr.slice,run_underlying hu,hb,run_sizeOf hs,YV]
theorem Rh {x:Operand} {t e m cap sz:Nat} {a:Option Addr} {lo hi:Option Operand} (A B:Nat) (hu:P.underlying t=some (.slice e)) (hs:Wb P e=some sz) (hx:look L x=some (.slice a m cap)) (hlo:bndL L lo 0 A) (hhi:bndL L hi m B) (h1:A≤B) (h2:B≤cap) (hd:Nat.blt d n=true)
    (hk:wl P n ops Q rest ((d,YV sz (.slice a m cap) A B)::L) w):wl P n ops Q (⟨some d,.slice t x lo hi none,ty,pos,aft,none⟩::rest) L w:=X8 hd (TI A B hu hs hx hlo hhi h1 h2) hk
end
theorem VI {sz b o m cap A B:Nat} (h:A<cap):YV sz (.slice (some ⟨b,o,none⟩) m cap) A B= .slice (some ⟨b,o+A*sz,none⟩) (B -A) (cap -A):= by
  unfold YV
  dsimp only
  rw[if_neg (by omega),Option.map_some,Wn]
section
variable {α:Type} {C:RowC α} {l:List α} {w:World}
theorem RdL.view {a:Option Addr} {m cap A B:Nat} (h:RdL C (.slice a m cap) l w) (hc:m≤cap) (h1:A≤B) (h2:B≤l.length):RdL C (YV C.size (.slice a m cap) A B) ((l.take B).drop A) w:= by
  obtain⟨ao,cap',e1,e2,e3⟩:=h
  cases e1
  have hl:((l.take B).drop A).length=B -A:= by rw[List.length_drop,List.length_take];omega
  refine⟨_,_, by rw[hl];rfl, by omega, fun i x hx=> ?_⟩
  have hi:=(Zb hx).1
  rw[List.getElem?_drop,List.getElem?_take,if_pos (by omega)]at hx
  obtain⟨b,off,rfl,hcell⟩:=e3 _ _ hx
  refine⟨b,off+A*C.size, by rw[if_neg (by omega),Option.map_some,Wn], fun j u hu=> ?_⟩
  have :=hcell j u hu
  rw[Nat.add_mul]at this
  rw[show off+A*C.size+i*C.size+j=off+(A*C.size+i*C.size)+j by omega]
  exact this
theorem DJ {a:Option Addr} {cap A B:Nat} (hl:l.length≤9223372036854775807) (h1:A≤B) (h2:B≤l.length) (hc:l.length≤cap):Ent (rowT C (.slice a l.length cap) l) (RdL C (YV C.size (.slice a l.length cap) A B) ((l.take B).drop A)):= fun h=>(Jn hl h).view hc h1 h2
theorem RdL.at_ {b off m cap i:Nat} {a:α} (h:RdL C (.slice (some ⟨b,off,none⟩) m cap) l w) (ha:l[i]? =some a): ∀(j:Nat) (u:Value),(C.enc a)[j]? =some u→w.cell? ⟨b,off+i*C.size+j,none⟩=some u:= by
  obtain⟨b',off',e,h2⟩:=h.get ha
  cases e
  exact h2
end
