import Derived.Test.YtnghaapdoanabaaGreatDoorU
set_option linter.all false
namespace Go.Zz
open Go
@[simp]theorem y_P_underlying_132:(P.underlying 132)=some (.slice 95):=by kernel_rfl
@[simp]theorem y_P_underlying_140:(P.underlying 140)=some (.pointer 201):=by kernel_rfl
@[simp]theorem y_P_underlying_144:(P.underlying 144)=some (.slice 147):=by kernel_rfl
@[simp]theorem y_P_underlying_157:(P.underlying 157)=some (.slice 46):=by kernel_rfl
@[simp]theorem y_P_underlying_199:(P.underlying 199)=some (.pointer 233):=by kernel_rfl
@[simp]theorem y_P_underlying_22:(P.underlying 22)=some (.slice 72):=by kernel_rfl
@[simp]theorem y_P_underlying_23:(P.underlying 23)=some (.slice 60):=by kernel_rfl
@[simp]theorem y_P_underlying_230:(P.underlying 230)=some (.slice 204):=by kernel_rfl
@[simp]theorem y_P_underlying_231:(P.underlying 231)=some (.slice 199):=by kernel_rfl
@[simp]theorem y_P_underlying_25:(P.underlying 25)=some (.pointer 83):=by kernel_rfl
@[simp]theorem y_P_underlying_28:(P.underlying 28)=some (.slice 3):=by kernel_rfl
@[simp]theorem y_P_underlying_286:(P.underlying 286)=some (.slice 231):=by kernel_rfl
@[simp]theorem y_P_underlying_291:(P.underlying 291)=some (.slice 230):=by kernel_rfl
@[simp]theorem y_P_underlying_293:(P.underlying 293)=some (.slice 34):=by kernel_rfl
@[simp]theorem y_P_underlying_30:(P.underlying 30)=some (.slice 33):=by kernel_rfl
@[simp]theorem y_P_underlying_34:(P.underlying 34)=some (.slice 43):=by kernel_rfl
@[simp]theorem y_P_underlying_47:(P.underlying 47)=some (.slice 5):=by kernel_rfl
@[simp]theorem y_P_underlying_74:(P.underlying 74)=some (.slice 170):=by kernel_rfl
@[simp]theorem y_P_underlying_78:(P.underlying 78)=some (.pointer 143):=by kernel_rfl
@[simp]theorem y_P_underlying_79:(P.underlying 79)=some (.pointer 149):=by kernel_rfl
@[simp]theorem y_P_underlying_80:(P.underlying 80)=some (.pointer 130):=by kernel_rfl
@[simp]theorem y_P_underlying_81:(P.underlying 81)=some (.pointer 134):=by kernel_rfl
@[simp]theorem y_tAgg_108:tAgg P 108=some (false,1):=by kernel_rfl
@[simp]theorem y_tAgg_112:tAgg P 112=some (true,6):=by kernel_rfl
@[simp]theorem y_tAgg_117:tAgg P 117=some (false,1):=by kernel_rfl
@[simp]theorem y_tAgg_128:tAgg P 128=some (true,64):=by kernel_rfl
@[simp]theorem y_tAgg_130:tAgg P 130=some (true,64):=by kernel_rfl
@[simp]theorem y_tAgg_132:tAgg P 132=some (false,1):=by kernel_rfl
@[simp]theorem y_tAgg_140:tAgg P 140=some (false,1):=by kernel_rfl
@[simp]theorem y_tAgg_144:tAgg P 144=some (false,1):=by kernel_rfl
@[simp]theorem y_tAgg_147:tAgg P 147=some (true,3):=by kernel_rfl
@[simp]theorem y_tAgg_152:tAgg P 152=some (true,4):=by kernel_rfl
@[simp]theorem y_tAgg_168:tAgg P 168=some (false,1):=by kernel_rfl
@[simp]theorem y_tAgg_170:tAgg P 170=some (true,2):=by kernel_rfl
@[simp]theorem y_tAgg_171:tAgg P 171=some (false,1):=by kernel_rfl
@[simp]theorem y_tAgg_199:tAgg P 199=some (false,1):=by kernel_rfl
@[simp]theorem y_tAgg_204:tAgg P 204=some (true,4):=by kernel_rfl
@[simp]theorem y_tAgg_22:tAgg P 22=some (false,1):=by kernel_rfl
@[simp]theorem y_tAgg_220:tAgg P 220=some (false,1):=by kernel_rfl
@[simp]theorem y_tAgg_230:tAgg P 230=some (false,1):=by kernel_rfl
@[simp]theorem y_tAgg_231:tAgg P 231=some (false,1):=by kernel_rfl
@[simp]theorem y_tAgg_240:tAgg P 240=some (false,1):=by kernel_rfl
@[simp]theorem y_tAgg_25:tAgg P 25=some (false,1):=by kernel_rfl
@[simp]theorem y_tAgg_262:tAgg P 262=some (false,1):=by kernel_rfl
@[simp]theorem y_tAgg_263:tAgg P 263=some (false,1):=by kernel_rfl
@[simp]theorem y_tAgg_3:tAgg P 3=some (false,1):=by kernel_rfl
@[simp]theorem y_tAgg_318:tAgg P 318=some (true,5):=by kernel_rfl
@[simp]theorem y_tAgg_33:tAgg P 33=some (true,2):=by kernel_rfl
@[simp]theorem y_tAgg_34:tAgg P 34=some (false,1):=by kernel_rfl
@[simp]theorem y_tAgg_4:tAgg P 4=some (false,1):=by kernel_rfl
@[simp]theorem y_tAgg_43:tAgg P 43=some (false,1):=by kernel_rfl
@[simp]theorem y_tAgg_46:tAgg P 46=some (true,3):=by kernel_rfl
@[simp]theorem y_tAgg_47:tAgg P 47=some (false,1):=by kernel_rfl
@[simp]theorem y_tAgg_49:tAgg P 49=some (true,11):=by kernel_rfl
@[simp]theorem y_tAgg_60:tAgg P 60=some (true,7):=by kernel_rfl
@[simp]theorem y_tAgg_66:tAgg P 66=some (true,38):=by kernel_rfl
@[simp]theorem y_tAgg_72:tAgg P 72=some (true,3):=by kernel_rfl
@[simp]theorem y_tAgg_74:tAgg P 74=some (false,1):=by kernel_rfl
@[simp]theorem y_tAgg_76:tAgg P 76=some (true,3):=by kernel_rfl
@[simp]theorem y_tAgg_77:tAgg P 77=some (false,1):=by kernel_rfl
@[simp]theorem y_tAgg_78:tAgg P 78=some (false,1):=by kernel_rfl
@[simp]theorem y_tAgg_79:tAgg P 79=some (false,1):=by kernel_rfl
@[simp]theorem y_tAgg_80:tAgg P 80=some (false,1):=by kernel_rfl
@[simp]theorem y_tAgg_81:tAgg P 81=some (false,1):=by kernel_rfl
@[simp]theorem y_tAgg_83:tAgg P 83=some (true,12):=by kernel_rfl
@[simp]theorem y_tAgg_93:tAgg P 93=some (true,4):=by kernel_rfl
@[simp]theorem y_tAgg_95:tAgg P 95=some (true,6):=by kernel_rfl
@[simp]theorem y_tConcrete_9:tConcrete P 9=true:=by kernel_rfl
@[simp]theorem y_tConvS_138x3:tConvS P 138 3=false:=by kernel_rfl
@[simp]theorem y_tConvS_3x138:tConvS P 3 138=false:=by kernel_rfl
@[simp]theorem y_tConvS_3x220:tConvS P 3 220=false:=by kernel_rfl
@[simp]theorem y_tConvS_3x43:tConvS P 3 43=false:=by kernel_rfl
@[simp]theorem y_tConvS_43x3:tConvS P 43 3=false:=by kernel_rfl
@[simp]theorem y_tConvS_43x5:tConvS P 43 5=false:=by kernel_rfl
@[simp]theorem y_tConvS_47x9:tConvS P 47 9=true:=by kernel_rfl
@[simp]theorem y_tConvS_5x3:tConvS P 5 3=false:=by kernel_rfl
@[simp]theorem y_tElem_128:tElem P 128=some (some 16,true,4):=by kernel_rfl
@[simp]theorem y_tElem_132:tElem P 132=some (none,true,6):=by kernel_rfl
@[simp]theorem y_tElem_144:tElem P 144=some (none,true,3):=by kernel_rfl
@[simp]theorem y_tElem_157:tElem P 157=some (none,true,3):=by kernel_rfl
@[simp]theorem y_tElem_22:tElem P 22=some (none,true,3):=by kernel_rfl
@[simp]theorem y_tElem_23:tElem P 23=some (none,true,7):=by kernel_rfl
@[simp]theorem y_tElem_230:tElem P 230=some (none,true,4):=by kernel_rfl
@[simp]theorem y_tElem_231:tElem P 231=some (none,false,1):=by kernel_rfl
@[simp]theorem y_tElem_28:tElem P 28=some (none,false,1):=by kernel_rfl
@[simp]theorem y_tElem_286:tElem P 286=some (none,false,1):=by kernel_rfl
@[simp]theorem y_tElem_291:tElem P 291=some (none,false,1):=by kernel_rfl
@[simp]theorem y_tElem_293:tElem P 293=some (none,false,1):=by kernel_rfl
@[simp]theorem y_tElem_30:tElem P 30=some (none,true,2):=by kernel_rfl
@[simp]theorem y_tElem_34:tElem P 34=some (none,false,1):=by kernel_rfl
@[simp]theorem y_tElem_47:tElem P 47=some (none,false,1):=by kernel_rfl
@[simp]theorem y_tElem_74:tElem P 74=some (none,true,2):=by kernel_rfl
@[simp]theorem y_tField_112x0:tField P 112 0=some (0,false,1):=by kernel_rfl
@[simp]theorem y_tField_112x1:tField P 112 1=some (1,true,3):=by kernel_rfl
@[simp]theorem y_tField_112x2:tField P 112 2=some (4,false,1):=by kernel_rfl
@[simp]theorem y_tField_112x3:tField P 112 3=some (5,false,1):=by kernel_rfl
@[simp]theorem y_tField_127x0:tField P 127 0=some (0,false,1):=by kernel_rfl
@[simp]theorem y_tField_127x1:tField P 127 1=some (1,false,1):=by kernel_rfl
@[simp]theorem y_tField_127x2:tField P 127 2=some (2,false,1):=by kernel_rfl
@[simp]theorem y_tField_127x3:tField P 127 3=some (3,false,1):=by kernel_rfl
@[simp]theorem y_tField_130x0:tField P 130 0=some (0,true,64):=by kernel_rfl
@[simp]theorem y_tField_134x0:tField P 134 0=some (0,false,1):=by kernel_rfl
@[simp]theorem y_tField_143x0:tField P 143 0=some (0,false,1):=by kernel_rfl
@[simp]theorem y_tField_147x0:tField P 147 0=some (0,false,1):=by kernel_rfl
@[simp]theorem y_tField_147x1:tField P 147 1=some (1,false,1):=by kernel_rfl
@[simp]theorem y_tField_147x2:tField P 147 2=some (2,false,1):=by kernel_rfl
@[simp]theorem y_tField_149x0:tField P 149 0=some (0,false,1):=by kernel_rfl
@[simp]theorem y_tField_152x0:tField P 152 0=some (0,false,1):=by kernel_rfl
@[simp]theorem y_tField_152x1:tField P 152 1=some (1,false,1):=by kernel_rfl
@[simp]theorem y_tField_152x2:tField P 152 2=some (2,false,1):=by kernel_rfl
@[simp]theorem y_tField_152x3:tField P 152 3=some (3,false,1):=by kernel_rfl
@[simp]theorem y_tField_170x0:tField P 170 0=some (0,false,1):=by kernel_rfl
@[simp]theorem y_tField_170x1:tField P 170 1=some (1,false,1):=by kernel_rfl
@[simp]theorem y_tField_201x0:tField P 201 0=some (0,false,1):=by kernel_rfl
@[simp]theorem y_tField_201x1:tField P 201 1=some (1,false,1):=by kernel_rfl
@[simp]theorem y_tField_204x0:tField P 204 0=some (0,true,3):=by kernel_rfl
@[simp]theorem y_tField_204x1:tField P 204 1=some (3,false,1):=by kernel_rfl
@[simp]theorem y_tField_233x0:tField P 233 0=some (0,false,1):=by kernel_rfl
@[simp]theorem y_tField_233x1:tField P 233 1=some (1,false,1):=by kernel_rfl
@[simp]theorem y_tField_233x2:tField P 233 2=some (2,false,1):=by kernel_rfl
@[simp]theorem y_tField_46x0:tField P 46 0=some (0,false,1):=by kernel_rfl
@[simp]theorem y_tField_46x1:tField P 46 1=some (1,false,1):=by kernel_rfl
@[simp]theorem y_tField_46x2:tField P 46 2=some (2,false,1):=by kernel_rfl
@[simp]theorem y_tField_49x0:tField P 49 0=some (0,false,1):=by kernel_rfl
@[simp]theorem y_tField_49x1:tField P 49 1=some (1,false,1):=by kernel_rfl
@[simp]theorem y_tField_49x2:tField P 49 2=some (2,false,1):=by kernel_rfl
@[simp]theorem y_tField_49x3:tField P 49 3=some (3,true,3):=by kernel_rfl
@[simp]theorem y_tField_49x4:tField P 49 4=some (6,false,1):=by kernel_rfl
@[simp]theorem y_tField_49x5:tField P 49 5=some (7,false,1):=by kernel_rfl
@[simp]theorem y_tField_49x6:tField P 49 6=some (8,false,1):=by kernel_rfl
@[simp]theorem y_tField_49x7:tField P 49 7=some (9,false,1):=by kernel_rfl
@[simp]theorem y_tField_49x8:tField P 49 8=some (10,false,1):=by kernel_rfl
@[simp]theorem y_tField_60x0:tField P 60 0=some (0,false,1):=by kernel_rfl
@[simp]theorem y_tField_60x1:tField P 60 1=some (1,true,3):=by kernel_rfl
@[simp]theorem y_tField_60x2:tField P 60 2=some (4,false,1):=by kernel_rfl
@[simp]theorem y_tField_60x3:tField P 60 3=some (5,false,1):=by kernel_rfl
@[simp]theorem y_tField_60x4:tField P 60 4=some (6,false,1):=by kernel_rfl
@[simp]theorem y_tField_66x2:tField P 66 2=some (2,false,1):=by kernel_rfl
@[simp]theorem y_tField_66x3:tField P 66 3=some (3,false,1):=by kernel_rfl
@[simp]theorem y_tField_66x5:tField P 66 5=some (36,false,1):=by kernel_rfl
@[simp]theorem y_tField_72x0:tField P 72 0=some (0,false,1):=by kernel_rfl
@[simp]theorem y_tField_72x1:tField P 72 1=some (1,false,1):=by kernel_rfl
@[simp]theorem y_tField_72x2:tField P 72 2=some (2,false,1):=by kernel_rfl
@[simp]theorem y_tField_76x0:tField P 76 0=some (0,false,1):=by kernel_rfl
@[simp]theorem y_tField_76x1:tField P 76 1=some (1,false,1):=by kernel_rfl
@[simp]theorem y_tField_76x2:tField P 76 2=some (2,false,1):=by kernel_rfl
@[simp]theorem y_tField_83x0:tField P 83 0=some (0,false,1):=by kernel_rfl
@[simp]theorem y_tField_83x1:tField P 83 1=some (1,false,1):=by kernel_rfl
@[simp]theorem y_tField_83x2:tField P 83 2=some (2,true,3):=by kernel_rfl
@[simp]theorem y_tField_83x3:tField P 83 3=some (5,false,1):=by kernel_rfl
@[simp]theorem y_tField_83x4:tField P 83 4=some (6,false,1):=by kernel_rfl
@[simp]theorem y_tField_83x5:tField P 83 5=some (7,false,1):=by kernel_rfl
@[simp]theorem y_tField_83x6:tField P 83 6=some (8,false,1):=by kernel_rfl
@[simp]theorem y_tField_83x7:tField P 83 7=some (9,false,1):=by kernel_rfl
@[simp]theorem y_tField_83x8:tField P 83 8=some (10,false,1):=by kernel_rfl
@[simp]theorem y_tField_83x9:tField P 83 9=some (11,false,1):=by kernel_rfl
@[simp]theorem y_tField_93x0:tField P 93 0=some (0,false,1):=by kernel_rfl
@[simp]theorem y_tField_93x1:tField P 93 1=some (1,false,1):=by kernel_rfl
@[simp]theorem y_tField_93x2:tField P 93 2=some (2,false,1):=by kernel_rfl
@[simp]theorem y_tField_93x3:tField P 93 3=some (3,false,1):=by kernel_rfl
@[simp]theorem y_tField_95x0:tField P 95 0=some (0,true,4):=by kernel_rfl
@[simp]theorem y_tField_95x1:tField P 95 1=some (4,false,1):=by kernel_rfl
@[simp]theorem y_tField_95x2:tField P 95 2=some (5,false,1):=by kernel_rfl
@[simp]theorem y_tInt_138:tInt P 138=some .u64:=by kernel_rfl
@[simp]theorem y_tInt_220:tInt P 220=some .u64:=by kernel_rfl
@[simp]theorem y_tInt_3:tInt P 3=some .i64:=by kernel_rfl
@[simp]theorem y_tInt_43:tInt P 43=some .u64:=by kernel_rfl
@[simp]theorem y_tInt_5:tInt P 5=some .u8:=by kernel_rfl
@[simp]theorem y_tInt_9:tInt P 9=none:=by kernel_rfl
@[simp]theorem y_tIsMap_117:tIsMap P 117=true:=by kernel_rfl
@[simp]theorem y_tIsMap_77:tIsMap P 77=true:=by kernel_rfl
@[simp]theorem y_tIsStr_128:tIsStr P 128=false:=by kernel_rfl
@[simp]theorem y_tIsStr_9:tIsStr P 9=true:=by kernel_rfl
@[simp]theorem y_tMap_108:tMap P 108=some (.int .i64,.nilFunc):=by kernel_rfl
@[simp]theorem y_tMap_117:tMap P 117=some (.int .u64,.bool false):=by kernel_rfl
@[simp]theorem y_tMap_77:tMap P 77=some (.int .u64,.agg { toList:=([.int .i64 0,.int .u64 0,.int .i64 0,.int .i64 0,.int .i64 0,.int .i64 0,.int .u64 0,.int .i64 0,.int .i64 0,.int .i64 0,.slice none 0 0]) }):=by kernel_rfl
@[simp]theorem y_tSize_112:tSize P 112=some 6:=by kernel_rfl
@[simp]theorem y_tSize_117:tSize P 117=some 1:=by kernel_rfl
@[simp]theorem y_tSize_127:tSize P 127=some 4:=by kernel_rfl
@[simp]theorem y_tSize_130:tSize P 130=some 64:=by kernel_rfl
@[simp]theorem y_tSize_132:tSize P 132=some 1:=by kernel_rfl
@[simp]theorem y_tSize_140:tSize P 140=some 1:=by kernel_rfl
@[simp]theorem y_tSize_144:tSize P 144=some 1:=by kernel_rfl
@[simp]theorem y_tSize_147:tSize P 147=some 3:=by kernel_rfl
@[simp]theorem y_tSize_152:tSize P 152=some 4:=by kernel_rfl
@[simp]theorem y_tSize_168:tSize P 168=some 1:=by kernel_rfl
@[simp]theorem y_tSize_170:tSize P 170=some 2:=by kernel_rfl
@[simp]theorem y_tSize_171:tSize P 171=some 1:=by kernel_rfl
@[simp]theorem y_tSize_199:tSize P 199=some 1:=by kernel_rfl
@[simp]theorem y_tSize_204:tSize P 204=some 4:=by kernel_rfl
@[simp]theorem y_tSize_220:tSize P 220=some 1:=by kernel_rfl
@[simp]theorem y_tSize_230:tSize P 230=some 1:=by kernel_rfl
@[simp]theorem y_tSize_263:tSize P 263=some 1:=by kernel_rfl
@[simp]theorem y_tSize_3:tSize P 3=some 1:=by kernel_rfl
@[simp]theorem y_tSize_318:tSize P 318=some 5:=by kernel_rfl
@[simp]theorem y_tSize_34:tSize P 34=some 1:=by kernel_rfl
@[simp]theorem y_tSize_4:tSize P 4=some 1:=by kernel_rfl
@[simp]theorem y_tSize_43:tSize P 43=some 1:=by kernel_rfl
@[simp]theorem y_tSize_46:tSize P 46=some 3:=by kernel_rfl
@[simp]theorem y_tSize_47:tSize P 47=some 1:=by kernel_rfl
@[simp]theorem y_tSize_49:tSize P 49=some 11:=by kernel_rfl
@[simp]theorem y_tSize_5:tSize P 5=some 1:=by kernel_rfl
@[simp]theorem y_tSize_60:tSize P 60=some 7:=by kernel_rfl
@[simp]theorem y_tSize_66:tSize P 66=some 38:=by kernel_rfl
@[simp]theorem y_tSize_72:tSize P 72=some 3:=by kernel_rfl
@[simp]theorem y_tSize_74:tSize P 74=some 1:=by kernel_rfl
@[simp]theorem y_tSize_76:tSize P 76=some 3:=by kernel_rfl
@[simp]theorem y_tSize_77:tSize P 77=some 1:=by kernel_rfl
@[simp]theorem y_tSize_78:tSize P 78=some 1:=by kernel_rfl
@[simp]theorem y_tSize_79:tSize P 79=some 1:=by kernel_rfl
@[simp]theorem y_tSize_80:tSize P 80=some 1:=by kernel_rfl
@[simp]theorem y_tSize_81:tSize P 81=some 1:=by kernel_rfl
@[simp]theorem y_tSize_83:tSize P 83=some 12:=by kernel_rfl
@[simp]theorem y_tSize_95:tSize P 95=some 6:=by kernel_rfl
abbrev y_bytes_132:Nat:=48
abbrev y_zero_132:List Value:=([Value.int .u64 0,Value.int .i64 0,Value.int .i64 0,Value.int .i64 0,Value.int .u64 0,Value.int .i64 0])
@[simp]theorem y_tSlice_132:tSlice P 132=some (95,6,48,([.int .u64 0,.int .i64 0,.int .i64 0,.int .i64 0,.int .u64 0,.int .i64 0])):=by kernel_rfl
abbrev y_bytes_144:Nat:=24
abbrev y_zero_144:List Value:=([Value.int .u64 0,Value.int .i64 0,Value.bool false])
@[simp]theorem y_tSlice_144:tSlice P 144=some (147,3,24,([.int .u64 0,.int .i64 0,.bool false])):=by kernel_rfl
@[simp]theorem y_tSlice_157:tSlice P 157=some (46,3,24,([.int .i64 0,.int .i64 0,.int .i64 0])):=by kernel_rfl
@[simp]theorem y_tSlice_22:tSlice P 22=some (72,3,24,([.int .i64 0,.int .i64 0,.int .i64 0])):=by kernel_rfl
abbrev y_bytes_230:Nat:=32
abbrev y_zero_230:List Value:=([Value.int .i64 0,Value.int .i64 0,Value.int .i64 0,Value.int .u64 0])
@[simp]theorem y_tSlice_230:tSlice P 230=some (204,4,32,([.int .i64 0,.int .i64 0,.int .i64 0,.int .u64 0])):=by kernel_rfl
@[simp]theorem y_tSlice_231:tSlice P 231=some (199,1,8,([.pointer none])):=by kernel_rfl
@[simp]theorem y_tSlice_28:tSlice P 28=some (3,1,8,([.int .i64 0])):=by kernel_rfl
@[simp]theorem y_tSlice_286:tSlice P 286=some (231,1,24,([.slice none 0 0])):=by kernel_rfl
@[simp]theorem y_tSlice_291:tSlice P 291=some (230,1,24,([.slice none 0 0])):=by kernel_rfl
@[simp]theorem y_tSlice_293:tSlice P 293=some (34,1,24,([.slice none 0 0])):=by kernel_rfl
@[simp]theorem y_tSlice_30:tSlice P 30=some (33,2,16,([.int .i64 0,.int .i64 0])):=by kernel_rfl
abbrev y_bytes_34:Nat:=8
abbrev y_zero_34:List Value:=([Value.int .u64 0])
@[simp]theorem y_tSlice_34:tSlice P 34=some (43,1,8,([.int .u64 0])):=by kernel_rfl
@[simp]theorem y_tSlice_47:tSlice P 47=some (5,1,1,([.int .u8 0])):=by kernel_rfl
@[simp]theorem y_tSlice_74:tSlice P 74=some (170,2,16,([.nilFunc,.int .i64 0])):=by kernel_rfl
@[simp]theorem y_tZero_112:tZero P 112=some ([.pointer none,.slice none 0 0,.int .i64 0,.bool false,.pointer none,.pointer none]):=by kernel_rfl
@[simp]theorem y_tZero_117:tZero P 117=some ([.map none]):=by kernel_rfl
@[simp]theorem y_tZero_127:tZero P 127=some ([.bool false,.int .i64 0,.int .u64 0,.int .u64 0]):=by kernel_rfl
@[simp]theorem y_tZero_130:tZero P 130=some ([.bool false,.int .i64 0,.int .u64 0,.int .u64 0,.bool false,.int .i64 0,.int .u64 0,.int .u64 0,.bool false,.int .i64 0,.int .u64 0,.int .u64 0,.bool false,.int .i64 0,.int .u64 0,.int .u64 0,.bool false,.int .i64 0,.int .u64 0,.int .u64 0,.bool false,.int .i64 0,.int .u64 0,.int .u64 0,.bool false,.int .i64 0,.int .u64 0,.int .u64 0,.bool false,.int .i64 0,.int .u64 0,.int .u64 0,.bool false,.int .i64 0,.int .u64 0,.int .u64 0,.bool false,.int .i64 0,.int .u64 0,.int .u64 0,.bool false,.int .i64 0,.int .u64 0,.int .u64 0,.bool false,.int .i64 0,.int .u64 0,.int .u64 0,.bool false,.int .i64 0,.int .u64 0,.int .u64 0,.bool false,.int .i64 0,.int .u64 0,.int .u64 0,.bool false,.int .i64 0,.int .u64 0,.int .u64 0,.bool false,.int .i64 0,.int .u64 0,.int .u64 0]):=by kernel_rfl
@[simp]theorem y_tZero_132:tZero P 132=some ([.slice none 0 0]):=by kernel_rfl
@[simp]theorem y_tZero_140:tZero P 140=some ([.pointer none]):=by kernel_rfl
@[simp]theorem y_tZero_147:tZero P 147=some ([.int .u64 0,.int .i64 0,.bool false]):=by kernel_rfl
@[simp]theorem y_tZero_152:tZero P 152=some ([.bool false,.bool false,.bool false,.bool false]):=by kernel_rfl
@[simp]theorem y_tZero_170:tZero P 170=some ([.nilFunc,.int .i64 0]):=by kernel_rfl
@[simp]theorem y_tZero_171:tZero P 171=some ([.nilFunc]):=by kernel_rfl
@[simp]theorem y_tZero_204:tZero P 204=some ([.int .i64 0,.int .i64 0,.int .i64 0,.int .u64 0]):=by kernel_rfl
@[simp]theorem y_tZero_220:tZero P 220=some ([.int .u64 0]):=by kernel_rfl
@[simp]theorem y_tZero_263:tZero P 263=some ([.nilFunc]):=by kernel_rfl
@[simp]theorem y_tZero_3:tZero P 3=some ([.int .i64 0]):=by kernel_rfl
@[simp]theorem y_tZero_318:tZero P 318=some (rep 5 (.bool false)):=by kernel_rfl
@[simp]theorem y_tZero_34:tZero P 34=some ([.slice none 0 0]):=by kernel_rfl
@[simp]theorem y_tZero_4:tZero P 4=some ([.bool false]):=by kernel_rfl
@[simp]theorem y_tZero_43:tZero P 43=some ([.int .u64 0]):=by kernel_rfl
@[simp]theorem y_tZero_46:tZero P 46=some ([.int .i64 0,.int .i64 0,.int .i64 0]):=by kernel_rfl
@[simp]theorem y_tZero_49:tZero P 49=some ([.int .i64 0,.int .u64 0,.int .i64 0,.int .i64 0,.int .i64 0,.int .i64 0,.int .u64 0,.int .i64 0,.int .i64 0,.int .i64 0,.slice none 0 0]):=by kernel_rfl
@[simp]theorem y_tZero_60:tZero P 60=some ([.int .i64 0,.int .i64 0,.int .i64 0,.int .i64 0,.int .u64 0,.int .u64 0,.int .i64 0]):=by kernel_rfl
@[simp]theorem y_tZero_66:tZero P 66=some ([.int .i64 0,.int .i64 0,.int .i64 0,.int .i64 0,.int .u8 0,.int .u8 0,.int .u8 0,.int .u8 0,.int .u8 0,.int .u8 0,.int .u8 0,.int .u8 0,.int .u8 0,.int .u8 0,.int .u8 0,.int .u8 0,.int .u8 0,.int .u8 0,.int .u8 0,.int .u8 0,.int .u8 0,.int .u8 0,.int .u8 0,.int .u8 0,.int .u8 0,.int .u8 0,.int .u8 0,.int .u8 0,.int .u8 0,.int .u8 0,.int .u8 0,.int .u8 0,.int .u8 0,.int .u8 0,.int .u8 0,.int .u8 0,.slice none 0 0,.bool false]):=by kernel_rfl
@[simp]theorem y_tZero_72:tZero P 72=some ([.int .i64 0,.int .i64 0,.int .i64 0]):=by kernel_rfl
@[simp]theorem y_tZero_76:tZero P 76=some ([.slice none 0 0,.int .i64 0,.bool false]):=by kernel_rfl
@[simp]theorem y_tZero_83:tZero P 83=some ([.int .i64 0,.int .i64 0,.slice none 0 0,.int .i64 0,.bool false,.map none,.pointer none,.pointer none,.pointer none,.pointer none,.int .i64 0,.int .u64 0]):=by kernel_rfl
@[simp]theorem y_tZero_95:tZero P 95=some ([.int .u64 0,.int .i64 0,.int .i64 0,.int .i64 0,.int .u64 0,.int .i64 0]):=by kernel_rfl
@[simp]theorem y_tZeros_132:tZeros P 132=some false:=by kernel_rfl
@[simp]theorem y_tZeros_144:tZeros P 144=some false:=by kernel_rfl
@[simp]theorem y_tZeros_230:tZeros P 230=some false:=by kernel_rfl
@[simp]theorem y_tZeros_231:tZeros P 231=some false:=by kernel_rfl
@[simp]theorem y_tZeros_28:tZeros P 28=some false:=by kernel_rfl
@[simp]theorem y_tZeros_3:tZeros P 3=some true:=by kernel_rfl
@[simp]theorem y_tZeros_30:tZeros P 30=some false:=by kernel_rfl
@[simp]theorem y_tZeros_34:tZeros P 34=some false:=by kernel_rfl
@[simp]theorem y_tZeros_47:tZeros P 47=some false:=by kernel_rfl
@[simp]theorem y_tZeros_74:tZeros P 74=some false:=by kernel_rfl
@[simp]theorem y_build_112(ps:Array (Nat×Value)):buildV P 112 ps=(fillV (fun i=>[(0,1),(1,3),(4,1),(5,1)][i]?) ([.pointer none,.slice none 0 0,.int .i64 0,.bool false,.pointer none,.pointer none]) ps).map fun l=>.agg l.toArray:=by kernel_rfl
@[simp]theorem y_build_127(ps:Array (Nat×Value)):buildV P 127 ps=(fillV (fun i=>[(0,1),(1,1),(2,1),(3,1)][i]?) ([.bool false,.int .i64 0,.int .u64 0,.int .u64 0]) ps).map fun l=>.agg l.toArray:=by kernel_rfl
@[simp]theorem y_build_130(ps:Array (Nat×Value)):buildV P 130 ps=(fillV (fun i=>[(0,64)][i]?) ([.bool false,.int .i64 0,.int .u64 0,.int .u64 0,.bool false,.int .i64 0,.int .u64 0,.int .u64 0,.bool false,.int .i64 0,.int .u64 0,.int .u64 0,.bool false,.int .i64 0,.int .u64 0,.int .u64 0,.bool false,.int .i64 0,.int .u64 0,.int .u64 0,.bool false,.int .i64 0,.int .u64 0,.int .u64 0,.bool false,.int .i64 0,.int .u64 0,.int .u64 0,.bool false,.int .i64 0,.int .u64 0,.int .u64 0,.bool false,.int .i64 0,.int .u64 0,.int .u64 0,.bool false,.int .i64 0,.int .u64 0,.int .u64 0,.bool false,.int .i64 0,.int .u64 0,.int .u64 0,.bool false,.int .i64 0,.int .u64 0,.int .u64 0,.bool false,.int .i64 0,.int .u64 0,.int .u64 0,.bool false,.int .i64 0,.int .u64 0,.int .u64 0,.bool false,.int .i64 0,.int .u64 0,.int .u64 0,.bool false,.int .i64 0,.int .u64 0,.int .u64 0]) ps).map fun l=>.agg l.toArray:=by kernel_rfl
@[simp]theorem y_build_134(ps:Array (Nat×Value)):buildV P 134 ps=(fillV (fun i=>[(0,1)][i]?) ([.slice none 0 0]) ps).map fun l=>.agg l.toArray:=by kernel_rfl
@[simp]theorem y_build_143(ps:Array (Nat×Value)):buildV P 143 ps=(fillV (fun i=>[(0,1)][i]?) ([.pointer none]) ps).map fun l=>.agg l.toArray:=by kernel_rfl
@[simp]theorem y_build_147(ps:Array (Nat×Value)):buildV P 147 ps=(fillV (fun i=>[(0,1),(1,1),(2,1)][i]?) ([.int .u64 0,.int .i64 0,.bool false]) ps).map fun l=>.agg l.toArray:=by kernel_rfl
@[simp]theorem y_build_149(ps:Array (Nat×Value)):buildV P 149 ps=(fillV (fun i=>[(0,1)][i]?) ([.slice none 0 0]) ps).map fun l=>.agg l.toArray:=by kernel_rfl
@[simp]theorem y_build_170(ps:Array (Nat×Value)):buildV P 170 ps=(fillV (fun i=>[(0,1),(1,1)][i]?) ([.nilFunc,.int .i64 0]) ps).map fun l=>.agg l.toArray:=by kernel_rfl
@[simp]theorem y_build_201(ps:Array (Nat×Value)):buildV P 201 ps=(fillV (fun i=>[(0,1),(1,1)][i]?) ([.pointer none,.int .i64 0]) ps).map fun l=>.agg l.toArray:=by kernel_rfl
@[simp]theorem y_build_204(ps:Array (Nat×Value)):buildV P 204 ps=(fillV (fun i=>[(0,3),(3,1)][i]?) ([.int .i64 0,.int .i64 0,.int .i64 0,.int .u64 0]) ps).map fun l=>.agg l.toArray:=by kernel_rfl
@[simp]theorem y_build_233(ps:Array (Nat×Value)):buildV P 233 ps=(fillV (fun i=>[(0,1),(1,1),(2,1)][i]?) ([.slice none 0 0,.slice none 0 0,.slice none 0 0]) ps).map fun l=>.agg l.toArray:=by kernel_rfl
@[simp]theorem y_build_318(ps:Array (Nat×Value)):buildV P 318 ps=(fillV (fun i=>[(0,1),(1,1),(2,1),(3,1),(4,1)][i]?) (rep 5 (.bool false)) ps).map fun l=>.agg l.toArray:=by kernel_rfl
@[simp]theorem y_build_33(ps:Array (Nat×Value)):buildV P 33 ps=(fillV (fun i=>[(0,1),(1,1)][i]?) ([.int .i64 0,.int .i64 0]) ps).map fun l=>.agg l.toArray:=by kernel_rfl
@[simp]theorem y_build_46(ps:Array (Nat×Value)):buildV P 46 ps=(fillV (fun i=>[(0,1),(1,1),(2,1)][i]?) ([.int .i64 0,.int .i64 0,.int .i64 0]) ps).map fun l=>.agg l.toArray:=by kernel_rfl
@[simp]theorem y_build_49(ps:Array (Nat×Value)):buildV P 49 ps=(fillV (fun i=>[(0,1),(1,1),(2,1),(3,3),(6,1),(7,1),(8,1),(9,1),(10,1)][i]?) ([.int .i64 0,.int .u64 0,.int .i64 0,.int .i64 0,.int .i64 0,.int .i64 0,.int .u64 0,.int .i64 0,.int .i64 0,.int .i64 0,.slice none 0 0]) ps).map fun l=>.agg l.toArray:=by kernel_rfl
@[simp]theorem y_build_66(ps:Array (Nat×Value)):buildV P 66 ps=(fillV (fun i=>[(0,1),(1,1),(2,1),(3,1),(4,32),(36,1),(37,1)][i]?) ([.int .i64 0,.int .i64 0,.int .i64 0,.int .i64 0,.int .u8 0,.int .u8 0,.int .u8 0,.int .u8 0,.int .u8 0,.int .u8 0,.int .u8 0,.int .u8 0,.int .u8 0,.int .u8 0,.int .u8 0,.int .u8 0,.int .u8 0,.int .u8 0,.int .u8 0,.int .u8 0,.int .u8 0,.int .u8 0,.int .u8 0,.int .u8 0,.int .u8 0,.int .u8 0,.int .u8 0,.int .u8 0,.int .u8 0,.int .u8 0,.int .u8 0,.int .u8 0,.int .u8 0,.int .u8 0,.int .u8 0,.int .u8 0,.slice none 0 0,.bool false]) ps).map fun l=>.agg l.toArray:=by kernel_rfl
@[simp]theorem y_build_72(ps:Array (Nat×Value)):buildV P 72 ps=(fillV (fun i=>[(0,1),(1,1),(2,1)][i]?) ([.int .i64 0,.int .i64 0,.int .i64 0]) ps).map fun l=>.agg l.toArray:=by kernel_rfl
@[simp]theorem y_build_76(ps:Array (Nat×Value)):buildV P 76 ps=(fillV (fun i=>[(0,1),(1,1),(2,1)][i]?) ([.slice none 0 0,.int .i64 0,.bool false]) ps).map fun l=>.agg l.toArray:=by kernel_rfl
@[simp]theorem y_build_83(ps:Array (Nat×Value)):buildV P 83 ps=(fillV (fun i=>[(0,1),(1,1),(2,3),(5,1),(6,1),(7,1),(8,1),(9,1),(10,1),(11,1)][i]?) ([.int .i64 0,.int .i64 0,.slice none 0 0,.int .i64 0,.bool false,.map none,.pointer none,.pointer none,.pointer none,.pointer none,.int .i64 0,.int .u64 0]) ps).map fun l=>.agg l.toArray:=by kernel_rfl
@[simp]theorem y_build_93(ps:Array (Nat×Value)):buildV P 93 ps=(fillV (fun i=>[(0,1),(1,1),(2,1),(3,1)][i]?) ([.int .u64 0,.int .i64 0,.int .i64 0,.int .i64 0]) ps).map fun l=>.agg l.toArray:=by kernel_rfl
@[simp]theorem y_build_95(ps:Array (Nat×Value)):buildV P 95 ps=(fillV (fun i=>[(0,4),(4,1),(5,1)][i]?) ([.int .u64 0,.int .i64 0,.int .i64 0,.int .i64 0,.int .u64 0,.int .i64 0]) ps).map fun l=>.agg l.toArray:=by kernel_rfl
@[simp]theorem y_len_132{a:Option Addr}{n c:Nat}{s:St}:lenR P 132 (.slice a n c) s=some (.int .i64 n):=by simp[lenR,lenV]
theorem y_esz_132:tSize P 95=some 6:=by kernel_rfl
@[simp]theorem y_sl_132{n c:Nat}{a:Addr}{lo hi:Option Value}{s:St}(h:okb lo/\okb hi/\bnd lo 0<=bnd hi n/\bnd hi n<=n/\(c=top+6\/c<top/\n<=c)):slcV P 132 (.slice (some a) n c) lo hi none s=some (.slice (some ⟨a.block,a.off+bnd lo 0*6,none⟩) (bnd hi n-bnd lo 0) (capFrom 6 c (bnd lo 0))):=slcV_sl y_P_underlying_132 y_esz_132 h
@[simp]theorem y_sl3x132{n c:Nat}{a:Addr}{lo:Option Value}{q q':IntKind}{hi mx:Int}{s:St}(h:okb lo/\0<=hi/\bnd lo 0<=hi.toNat/\hi<=mx/\mx.toNat<=n/\(c=top+6\/c<top/\n<=c)):slcV P 132 (.slice (some a) n c) lo (some (.int q hi)) (some (.int q' mx)) s=some (.slice (some ⟨a.block,a.off+bnd lo 0*6,none⟩) (hi.toNat-bnd lo 0) (mx.toNat-bnd lo 0)):=slcV_sl3 y_P_underlying_132 y_esz_132 h
@[simp]theorem y_len_144{a:Option Addr}{n c:Nat}{s:St}:lenR P 144 (.slice a n c) s=some (.int .i64 n):=by simp[lenR,lenV]
theorem y_esz_144:tSize P 147=some 3:=by kernel_rfl
@[simp]theorem y_sl_144{n c:Nat}{a:Addr}{lo hi:Option Value}{s:St}(h:okb lo/\okb hi/\bnd lo 0<=bnd hi n/\bnd hi n<=n/\(c=top+3\/c<top/\n<=c)):slcV P 144 (.slice (some a) n c) lo hi none s=some (.slice (some ⟨a.block,a.off+bnd lo 0*3,none⟩) (bnd hi n-bnd lo 0) (capFrom 3 c (bnd lo 0))):=slcV_sl y_P_underlying_144 y_esz_144 h
@[simp]theorem y_sl3x144{n c:Nat}{a:Addr}{lo:Option Value}{q q':IntKind}{hi mx:Int}{s:St}(h:okb lo/\0<=hi/\bnd lo 0<=hi.toNat/\hi<=mx/\mx.toNat<=n/\(c=top+3\/c<top/\n<=c)):slcV P 144 (.slice (some a) n c) lo (some (.int q hi)) (some (.int q' mx)) s=some (.slice (some ⟨a.block,a.off+bnd lo 0*3,none⟩) (hi.toNat-bnd lo 0) (mx.toNat-bnd lo 0)):=slcV_sl3 y_P_underlying_144 y_esz_144 h
@[simp]theorem y_len_157{a:Option Addr}{n c:Nat}{s:St}:lenR P 157 (.slice a n c) s=some (.int .i64 n):=by simp[lenR,lenV]
@[simp]theorem y_len_230{a:Option Addr}{n c:Nat}{s:St}:lenR P 230 (.slice a n c) s=some (.int .i64 n):=by simp[lenR,lenV]
theorem y_esz_230:tSize P 204=some 4:=by kernel_rfl
@[simp]theorem y_sl_230{n c:Nat}{a:Addr}{lo hi:Option Value}{s:St}(h:okb lo/\okb hi/\bnd lo 0<=bnd hi n/\bnd hi n<=n/\(c=top+4\/c<top/\n<=c)):slcV P 230 (.slice (some a) n c) lo hi none s=some (.slice (some ⟨a.block,a.off+bnd lo 0*4,none⟩) (bnd hi n-bnd lo 0) (capFrom 4 c (bnd lo 0))):=slcV_sl y_P_underlying_230 y_esz_230 h
@[simp]theorem y_sl3x230{n c:Nat}{a:Addr}{lo:Option Value}{q q':IntKind}{hi mx:Int}{s:St}(h:okb lo/\0<=hi/\bnd lo 0<=hi.toNat/\hi<=mx/\mx.toNat<=n/\(c=top+4\/c<top/\n<=c)):slcV P 230 (.slice (some a) n c) lo (some (.int q hi)) (some (.int q' mx)) s=some (.slice (some ⟨a.block,a.off+bnd lo 0*4,none⟩) (hi.toNat-bnd lo 0) (mx.toNat-bnd lo 0)):=slcV_sl3 y_P_underlying_230 y_esz_230 h
@[simp]theorem y_sn_230{lo hi mx:Option Value}{s:St}(h:okb lo/\okb hi/\okb mx/\bnd lo 0<=0/\bnd hi 0<=0/\bnd mx 0<=0/\(mx.isSome=true->hi.isSome=true)):slcV P 230 (.slice none 0 0) lo hi mx s=some (.slice none 0 0):=slcV_sn y_P_underlying_230 y_esz_230 h
@[simp]theorem y_len_231{a:Option Addr}{n c:Nat}{s:St}:lenR P 231 (.slice a n c) s=some (.int .i64 n):=by simp[lenR,lenV]
theorem y_esz_231:tSize P 199=some 1:=by kernel_rfl
@[simp]theorem y_sl_231{n c:Nat}{a:Addr}{lo hi:Option Value}{s:St}(h:okb lo/\okb hi/\bnd lo 0<=bnd hi n/\bnd hi n<=n/\(c=top+1\/c<top/\n<=c)):slcV P 231 (.slice (some a) n c) lo hi none s=some (.slice (some ⟨a.block,a.off+bnd lo 0*1,none⟩) (bnd hi n-bnd lo 0) (capFrom 1 c (bnd lo 0))):=slcV_sl y_P_underlying_231 y_esz_231 h
@[simp]theorem y_sn_231{lo hi mx:Option Value}{s:St}(h:okb lo/\okb hi/\okb mx/\bnd lo 0<=0/\bnd hi 0<=0/\bnd mx 0<=0/\(mx.isSome=true->hi.isSome=true)):slcV P 231 (.slice none 0 0) lo hi mx s=some (.slice none 0 0):=slcV_sn y_P_underlying_231 y_esz_231 h
theorem y_esz_28:tSize P 3=some 1:=by kernel_rfl
@[simp]theorem y_len_30{a:Option Addr}{n c:Nat}{s:St}:lenR P 30 (.slice a n c) s=some (.int .i64 n):=by simp[lenR,lenV]
@[simp]theorem y_len_34{a:Option Addr}{n c:Nat}{s:St}:lenR P 34 (.slice a n c) s=some (.int .i64 n):=by simp[lenR,lenV]
theorem y_esz_34:tSize P 43=some 1:=by kernel_rfl
@[simp]theorem y_sl_34{n c:Nat}{a:Addr}{lo hi:Option Value}{s:St}(h:okb lo/\okb hi/\bnd lo 0<=bnd hi n/\bnd hi n<=n/\(c=top+1\/c<top/\n<=c)):slcV P 34 (.slice (some a) n c) lo hi none s=some (.slice (some ⟨a.block,a.off+bnd lo 0*1,none⟩) (bnd hi n-bnd lo 0) (capFrom 1 c (bnd lo 0))):=slcV_sl y_P_underlying_34 y_esz_34 h
@[simp]theorem y_sl3x34{n c:Nat}{a:Addr}{lo:Option Value}{q q':IntKind}{hi mx:Int}{s:St}(h:okb lo/\0<=hi/\bnd lo 0<=hi.toNat/\hi<=mx/\mx.toNat<=n/\(c=top+1\/c<top/\n<=c)):slcV P 34 (.slice (some a) n c) lo (some (.int q hi)) (some (.int q' mx)) s=some (.slice (some ⟨a.block,a.off+bnd lo 0*1,none⟩) (hi.toNat-bnd lo 0) (mx.toNat-bnd lo 0)):=slcV_sl3 y_P_underlying_34 y_esz_34 h
@[simp]theorem y_sn_34{lo hi mx:Option Value}{s:St}(h:okb lo/\okb hi/\okb mx/\bnd lo 0<=0/\bnd hi 0<=0/\bnd mx 0<=0/\(mx.isSome=true->hi.isSome=true)):slcV P 34 (.slice none 0 0) lo hi mx s=some (.slice none 0 0):=slcV_sn y_P_underlying_34 y_esz_34 h
@[simp]theorem y_hasBody{n:Nat}(h:3<=n)(k:n<214):hasBody P n=true:=by
 have e:((List.range 211).all fun i=>hasBody P (i+3))=true:=by kernel_rfl
 have e:=List.all_eq_true.1 e (n-3) (by simp;omega)
 rwa[Nat.sub_add_cancel h]at e
@[simp]theorem y_hasBody2{n:Nat}(h:235<=n)(k:n<257):hasBody P n=true:=by
 have e:((List.range 22).all fun i=>hasBody P (i+235))=true:=by kernel_rfl
 have e:=List.all_eq_true.1 e (n-235) (by simp;omega)
 rwa[Nat.sub_add_cancel h]at e
end Go.Zz
