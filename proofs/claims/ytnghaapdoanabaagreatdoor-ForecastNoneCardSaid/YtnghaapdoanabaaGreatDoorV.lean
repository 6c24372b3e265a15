import Derived.Test.YtnghaapdoanabaaGreatDoorU
set_option linter.all false
namespace Go.Zz
open Go
@[simp]theorem A05:(P.underlying 132)=some (.slice 95):=by kernel_rfl
@[simp]theorem A31:(P.underlying 140)=some (.pointer 201):=by kernel_rfl
@[simp]theorem A0v:(P.underlying 144)=some (.slice 147):=by kernel_rfl
@[simp]theorem B1k:(P.underlying 157)=some (.slice 46):=by kernel_rfl
@[simp]theorem A0g:(P.underlying 199)=some (.pointer 233):=by kernel_rfl
@[simp]theorem A52:(P.underlying 22)=some (.slice 72):=by kernel_rfl
@[simp]theorem B2e:(P.underlying 23)=some (.slice 60):=by kernel_rfl
@[simp]theorem A0i:(P.underlying 230)=some (.slice 204):=by kernel_rfl
@[simp]theorem A0k:(P.underlying 231)=some (.slice 199):=by kernel_rfl
@[simp]theorem B23:(P.underlying 24)=some (.slice 29):=by kernel_rfl
@[simp]theorem A0f:(P.underlying 25)=some (.pointer 83):=by kernel_rfl
@[simp]theorem A00:(P.underlying 28)=some (.slice 3):=by kernel_rfl
@[simp]theorem A7i:(P.underlying 286)=some (.slice 231):=by kernel_rfl
@[simp]theorem A7f:(P.underlying 291)=some (.slice 230):=by kernel_rfl
@[simp]theorem A7b:(P.underlying 293)=some (.slice 34):=by kernel_rfl
@[simp]theorem A4z:(P.underlying 30)=some (.slice 33):=by kernel_rfl
@[simp]theorem A0c:(P.underlying 34)=some (.slice 43):=by kernel_rfl
@[simp]theorem A73:(P.underlying 47)=some (.slice 5):=by kernel_rfl
@[simp]theorem B2i:(P.underlying 74)=some (.slice 170):=by kernel_rfl
@[simp]theorem A1g:(P.underlying 78)=some (.pointer 143):=by kernel_rfl
@[simp]theorem A0o:(P.underlying 79)=some (.pointer 149):=by kernel_rfl
@[simp]theorem A0w:(P.underlying 80)=some (.pointer 130):=by kernel_rfl
@[simp]theorem A4w:(P.underlying 81)=some (.pointer 134):=by kernel_rfl
@[simp]theorem F8m:tAgg P 108=some (false,1):=by kernel_rfl
@[simp]theorem F83:tAgg P 112=some (true,6):=by kernel_rfl
@[simp]theorem F9m:tAgg P 117=some (false,1):=by kernel_rfl
@[simp]theorem G0e:tAgg P 128=some (true,64):=by kernel_rfl
@[simp]theorem F8l:tAgg P 130=some (true,64):=by kernel_rfl
@[simp]theorem G0j:tAgg P 132=some (false,1):=by kernel_rfl
@[simp]theorem G0p:tAgg P 140=some (false,1):=by kernel_rfl
@[simp]theorem G0n:tAgg P 144=some (false,1):=by kernel_rfl
@[simp]theorem F9p:tAgg P 147=some (true,3):=by kernel_rfl
@[simp]theorem G1i:tAgg P 152=some (true,4):=by kernel_rfl
@[simp]theorem G0f:tAgg P 158=some (false,1):=by kernel_rfl
@[simp]theorem F9b:tAgg P 168=some (false,1):=by kernel_rfl
@[simp]theorem F88:tAgg P 170=some (true,2):=by kernel_rfl
@[simp]theorem F8r:tAgg P 171=some (false,1):=by kernel_rfl
@[simp]theorem F80:tAgg P 199=some (false,1):=by kernel_rfl
@[simp]theorem F8u:tAgg P 204=some (true,4):=by kernel_rfl
@[simp]theorem H0q:tAgg P 22=some (false,1):=by kernel_rfl
@[simp]theorem G0h:tAgg P 220=some (false,1):=by kernel_rfl
@[simp]theorem G06:tAgg P 230=some (false,1):=by kernel_rfl
@[simp]theorem G0t:tAgg P 231=some (false,1):=by kernel_rfl
@[simp]theorem G1a:tAgg P 240=some (false,1):=by kernel_rfl
@[simp]theorem G48:tAgg P 25=some (false,1):=by kernel_rfl
@[simp]theorem F9u:tAgg P 262=some (false,1):=by kernel_rfl
@[simp]theorem G0c:tAgg P 263=some (false,1):=by kernel_rfl
@[simp]theorem G9b:tAgg P 28=some (false,1):=by kernel_rfl
@[simp]theorem G3f:tAgg P 29=some (false,1):=by kernel_rfl
@[simp]theorem y_tAgg_3:tAgg P 3=some (false,1):=by kernel_rfl
@[simp]theorem G01:tAgg P 318=some (true,5):=by kernel_rfl
@[simp]theorem G4y:tAgg P 33=some (true,2):=by kernel_rfl
@[simp]theorem G9t:tAgg P 34=some (false,1):=by kernel_rfl
@[simp]theorem y_tAgg_4:tAgg P 4=some (false,1):=by kernel_rfl
@[simp]theorem G26:tAgg P 43=some (false,1):=by kernel_rfl
@[simp]theorem G4l:tAgg P 46=some (true,3):=by kernel_rfl
@[simp]theorem G6o:tAgg P 47=some (false,1):=by kernel_rfl
@[simp]theorem G37:tAgg P 49=some (true,11):=by kernel_rfl
@[simp]theorem G6g:tAgg P 60=some (true,7):=by kernel_rfl
@[simp]theorem G5v:tAgg P 66=some (true,38):=by kernel_rfl
@[simp]theorem G7y:tAgg P 72=some (true,3):=by kernel_rfl
@[simp]theorem G1m:tAgg P 74=some (false,1):=by kernel_rfl
@[simp]theorem G80:tAgg P 76=some (true,3):=by kernel_rfl
@[simp]theorem G6y:tAgg P 77=some (false,1):=by kernel_rfl
@[simp]theorem G99:tAgg P 78=some (false,1):=by kernel_rfl
@[simp]theorem G2z:tAgg P 79=some (false,1):=by kernel_rfl
@[simp]theorem G9i:tAgg P 80=some (false,1):=by kernel_rfl
@[simp]theorem G11:tAgg P 81=some (false,1):=by kernel_rfl
@[simp]theorem G5y:tAgg P 83=some (true,12):=by kernel_rfl
@[simp]theorem G3p:tAgg P 93=some (true,4):=by kernel_rfl
@[simp]theorem G43:tAgg P 95=some (true,6):=by kernel_rfl
@[simp]theorem E25:A48 P 9=true:=by kernel_rfl
@[simp]theorem E0p:A68 P 138 3=false:=by kernel_rfl
@[simp]theorem E4i:A68 P 29 3=false:=by kernel_rfl
@[simp]theorem E04:A68 P 3 138=false:=by kernel_rfl
@[simp]theorem D99:A68 P 3 220=false:=by kernel_rfl
@[simp]theorem E3d:A68 P 3 43=false:=by kernel_rfl
@[simp]theorem E3l:A68 P 43 3=false:=by kernel_rfl
@[simp]theorem E1z:A68 P 43 5=false:=by kernel_rfl
@[simp]theorem E4l:A68 P 47 9=true:=by kernel_rfl
@[simp]theorem E55:A68 P 5 3=false:=by kernel_rfl
@[simp]theorem F7u:A46 P 128=some (some 16,true,4):=by kernel_rfl
@[simp]theorem E9i:A46 P 132=some (none,true,6):=by kernel_rfl
@[simp]theorem F2t:A46 P 144=some (none,true,3):=by kernel_rfl
@[simp]theorem F2k:A46 P 157=some (none,true,3):=by kernel_rfl
@[simp]theorem G09:A46 P 22=some (none,true,3):=by kernel_rfl
@[simp]theorem G0k:A46 P 23=some (none,true,7):=by kernel_rfl
@[simp]theorem F53:A46 P 230=some (none,true,4):=by kernel_rfl
@[simp]theorem E9g:A46 P 231=some (none,false,1):=by kernel_rfl
@[simp]theorem G1h:A46 P 24=some (none,false,1):=by kernel_rfl
@[simp]theorem A1e:A46 P 28=some (none,false,1):=by kernel_rfl
@[simp]theorem F3h:A46 P 286=some (none,false,1):=by kernel_rfl
@[simp]theorem F3e:A46 P 291=some (none,false,1):=by kernel_rfl
@[simp]theorem F4d:A46 P 293=some (none,false,1):=by kernel_rfl
@[simp]theorem F9n:A46 P 30=some (none,true,2):=by kernel_rfl
@[simp]theorem A1f:A46 P 34=some (none,false,1):=by kernel_rfl
@[simp]theorem G1e:A46 P 47=some (none,false,1):=by kernel_rfl
@[simp]theorem G08:A46 P 74=some (none,true,2):=by kernel_rfl
@[simp]theorem D9y:A0q P 112 0=some (0,false,1):=by kernel_rfl
@[simp]theorem E0n:A0q P 112 1=some (1,true,3):=by kernel_rfl
@[simp]theorem D92:A0q P 112 2=some (4,false,1):=by kernel_rfl
@[simp]theorem D96:A0q P 112 3=some (5,false,1):=by kernel_rfl
@[simp]theorem E0f:A0q P 127 0=some (0,false,1):=by kernel_rfl
@[simp]theorem E01:A0q P 127 1=some (1,false,1):=by kernel_rfl
@[simp]theorem D97:A0q P 127 2=some (2,false,1):=by kernel_rfl
@[simp]theorem E06:A0q P 127 3=some (3,false,1):=by kernel_rfl
@[simp]theorem E0z:A0q P 130 0=some (0,true,64):=by kernel_rfl
@[simp]theorem D9x:A0q P 134 0=some (0,false,1):=by kernel_rfl
@[simp]theorem E0d:A0q P 143 0=some (0,false,1):=by kernel_rfl
@[simp]theorem E0q:A0q P 147 0=some (0,false,1):=by kernel_rfl
@[simp]theorem D90:A0q P 147 1=some (1,false,1):=by kernel_rfl
@[simp]theorem E0h:A0q P 147 2=some (2,false,1):=by kernel_rfl
@[simp]theorem E0w:A0q P 149 0=some (0,false,1):=by kernel_rfl
@[simp]theorem E0u:A0q P 152 0=some (0,false,1):=by kernel_rfl
@[simp]theorem E03:A0q P 152 1=some (1,false,1):=by kernel_rfl
@[simp]theorem E0g:A0q P 152 2=some (2,false,1):=by kernel_rfl
@[simp]theorem E0a:A0q P 152 3=some (3,false,1):=by kernel_rfl
@[simp]theorem E0y:A0q P 170 0=some (0,false,1):=by kernel_rfl
@[simp]theorem D93:A0q P 170 1=some (1,false,1):=by kernel_rfl
@[simp]theorem D98:A0q P 201 0=some (0,false,1):=by kernel_rfl
@[simp]theorem E05:A0q P 201 1=some (1,false,1):=by kernel_rfl
@[simp]theorem E0v:A0q P 204 0=some (0,true,3):=by kernel_rfl
@[simp]theorem E0c:A0q P 204 1=some (3,false,1):=by kernel_rfl
@[simp]theorem E02:A0q P 233 0=some (0,false,1):=by kernel_rfl
@[simp]theorem E07:A0q P 233 1=some (1,false,1):=by kernel_rfl
@[simp]theorem E0m:A0q P 233 2=some (2,false,1):=by kernel_rfl
@[simp]theorem E2c:A0q P 33 0=some (0,false,1):=by kernel_rfl
@[simp]theorem E1y:A0q P 33 1=some (1,false,1):=by kernel_rfl
@[simp]theorem E2s:A0q P 46 0=some (0,false,1):=by kernel_rfl
@[simp]theorem E2y:A0q P 46 1=some (1,false,1):=by kernel_rfl
@[simp]theorem E22:A0q P 46 2=some (2,false,1):=by kernel_rfl
@[simp]theorem E4p:A0q P 49 0=some (0,false,1):=by kernel_rfl
@[simp]theorem E4z:A0q P 49 1=some (1,false,1):=by kernel_rfl
@[simp]theorem E38:A0q P 49 2=some (2,false,1):=by kernel_rfl
@[simp]theorem E3z:A0q P 49 3=some (3,true,3):=by kernel_rfl
@[simp]theorem E4f:A0q P 49 4=some (6,false,1):=by kernel_rfl
@[simp]theorem E39:A0q P 49 5=some (7,false,1):=by kernel_rfl
@[simp]theorem E3w:A0q P 49 6=some (8,false,1):=by kernel_rfl
@[simp]theorem E1l:A0q P 49 7=some (9,false,1):=by kernel_rfl
@[simp]theorem E3i:A0q P 49 8=some (10,false,1):=by kernel_rfl
@[simp]theorem E1t:A0q P 60 0=some (0,false,1):=by kernel_rfl
@[simp]theorem E1e:A0q P 60 1=some (1,true,3):=by kernel_rfl
@[simp]theorem E1h:A0q P 60 2=some (4,false,1):=by kernel_rfl
@[simp]theorem E1r:A0q P 60 3=some (5,false,1):=by kernel_rfl
@[simp]theorem E2n:A0q P 60 4=some (6,false,1):=by kernel_rfl
@[simp]theorem E3v:A0q P 66 2=some (2,false,1):=by kernel_rfl
@[simp]theorem E2r:A0q P 66 3=some (3,false,1):=by kernel_rfl
@[simp]theorem E3o:A0q P 66 5=some (36,false,1):=by kernel_rfl
@[simp]theorem E1i:A0q P 72 0=some (0,false,1):=by kernel_rfl
@[simp]theorem E37:A0q P 72 1=some (1,false,1):=by kernel_rfl
@[simp]theorem E4k:A0q P 72 2=some (2,false,1):=by kernel_rfl
@[simp]theorem E2v:A0q P 76 0=some (0,false,1):=by kernel_rfl
@[simp]theorem E33:A0q P 76 1=some (1,false,1):=by kernel_rfl
@[simp]theorem E19:A0q P 76 2=some (2,false,1):=by kernel_rfl
@[simp]theorem E4o:A0q P 83 0=some (0,false,1):=by kernel_rfl
@[simp]theorem E4c:A0q P 83 1=some (1,false,1):=by kernel_rfl
@[simp]theorem E23:A0q P 83 2=some (2,true,3):=by kernel_rfl
@[simp]theorem E2m:A0q P 83 3=some (5,false,1):=by kernel_rfl
@[simp]theorem E1j:A0q P 83 4=some (6,false,1):=by kernel_rfl
@[simp]theorem E3k:A0q P 83 5=some (7,false,1):=by kernel_rfl
@[simp]theorem E4a:A0q P 83 6=some (8,false,1):=by kernel_rfl
@[simp]theorem E3q:A0q P 83 7=some (9,false,1):=by kernel_rfl
@[simp]theorem E1d:A0q P 83 8=some (10,false,1):=by kernel_rfl
@[simp]theorem E2w:A0q P 83 9=some (11,false,1):=by kernel_rfl
@[simp]theorem E4v:A0q P 93 0=some (0,false,1):=by kernel_rfl
@[simp]theorem E4e:A0q P 93 1=some (1,false,1):=by kernel_rfl
@[simp]theorem E1c:A0q P 93 2=some (2,false,1):=by kernel_rfl
@[simp]theorem E4u:A0q P 93 3=some (3,false,1):=by kernel_rfl
@[simp]theorem E4j:A0q P 95 0=some (0,true,4):=by kernel_rfl
@[simp]theorem E2k:A0q P 95 1=some (4,false,1):=by kernel_rfl
@[simp]theorem E30:A0q P 95 2=some (5,false,1):=by kernel_rfl
@[simp]theorem G1g:tInt P 138=some .u64:=by kernel_rfl
@[simp]theorem G0d:tInt P 220=some .u64:=by kernel_rfl
@[simp]theorem y_tInt_3:tInt P 3=some .i64:=by kernel_rfl
@[simp]theorem G2n:tInt P 43=some .u64:=by kernel_rfl
@[simp]theorem y_tInt_5:tInt P 5=some .u8:=by kernel_rfl
@[simp]theorem y_tInt_9:tInt P 9=none:=by kernel_rfl
@[simp]theorem E6s:A22 P 117=true:=by kernel_rfl
@[simp]theorem E8i:A22 P 158=true:=by kernel_rfl
@[simp]theorem F7f:A22 P 77=true:=by kernel_rfl
@[simp]theorem E6a:B5a P 128=false:=by kernel_rfl
@[simp]theorem F9c:B5a P 9=true:=by kernel_rfl
@[simp]theorem G05:tMap P 108=some (.int .i64,.nilFunc):=by kernel_rfl
@[simp]theorem F9k:tMap P 117=some (.int .u64,.bool false):=by kernel_rfl
@[simp]theorem F9r:tMap P 158=some (.int .i64,.bool false):=by kernel_rfl
@[simp]theorem G1q:tMap P 77=some (.int .u64,.agg { toList:=([.int .i64 0,.int .u64 0,.int .i64 0,.int .i64 0,.int .i64 0,.int .i64 0,.int .u64 0,.int .i64 0,.int .i64 0,.int .i64 0,.slice none 0 0]) }):=by kernel_rfl
@[simp]theorem F5j:A08 P 112=some 6:=by kernel_rfl
@[simp]theorem F54:A08 P 117=some 1:=by kernel_rfl
@[simp]theorem F1i:A08 P 127=some 4:=by kernel_rfl
@[simp]theorem F5b:A08 P 130=some 64:=by kernel_rfl
@[simp]theorem E9h:A08 P 132=some 1:=by kernel_rfl
@[simp]theorem F71:A08 P 140=some 1:=by kernel_rfl
@[simp]theorem F3f:A08 P 144=some 1:=by kernel_rfl
@[simp]theorem E9j:A08 P 147=some 3:=by kernel_rfl
@[simp]theorem E9b:A08 P 152=some 4:=by kernel_rfl
@[simp]theorem F5x:A08 P 158=some 1:=by kernel_rfl
@[simp]theorem F5t:A08 P 168=some 1:=by kernel_rfl
@[simp]theorem E98:A08 P 170=some 2:=by kernel_rfl
@[simp]theorem F1v:A08 P 171=some 1:=by kernel_rfl
@[simp]theorem F5p:A08 P 199=some 1:=by kernel_rfl
@[simp]theorem F05:A08 P 204=some 4:=by kernel_rfl
@[simp]theorem F2w:A08 P 220=some 1:=by kernel_rfl
@[simp]theorem F0s:A08 P 230=some 1:=by kernel_rfl
@[simp]theorem F0b:A08 P 263=some 1:=by kernel_rfl
@[simp]theorem F96:A08 P 28=some 1:=by kernel_rfl
@[simp]theorem G4o:A08 P 3=some 1:=by kernel_rfl
@[simp]theorem F50:A08 P 318=some 5:=by kernel_rfl
@[simp]theorem F9x:A08 P 33=some 2:=by kernel_rfl
@[simp]theorem F9l:A08 P 34=some 1:=by kernel_rfl
@[simp]theorem G12:A08 P 4=some 1:=by kernel_rfl
@[simp]theorem G1b:A08 P 43=some 1:=by kernel_rfl
@[simp]theorem G0q:A08 P 46=some 3:=by kernel_rfl
@[simp]theorem F85:A08 P 47=some 1:=by kernel_rfl
@[simp]theorem F8o:A08 P 49=some 11:=by kernel_rfl
@[simp]theorem G5t:A08 P 5=some 1:=by kernel_rfl
@[simp]theorem F9z:A08 P 60=some 7:=by kernel_rfl
@[simp]theorem G0a:A08 P 66=some 38:=by kernel_rfl
@[simp]theorem F9t:A08 P 72=some 3:=by kernel_rfl
@[simp]theorem G0o:A08 P 74=some 1:=by kernel_rfl
@[simp]theorem G07:A08 P 76=some 3:=by kernel_rfl
@[simp]theorem F9s:A08 P 77=some 1:=by kernel_rfl
@[simp]theorem F93:A08 P 78=some 1:=by kernel_rfl
@[simp]theorem F9i:A08 P 79=some 1:=by kernel_rfl
@[simp]theorem F9w:A08 P 80=some 1:=by kernel_rfl
@[simp]theorem F8w:A08 P 81=some 1:=by kernel_rfl
@[simp]theorem F8s:A08 P 83=some 12:=by kernel_rfl
@[simp]theorem F8t:A08 P 95=some 6:=by kernel_rfl
abbrev C4v:Nat:=48
abbrev D1p:List Value:=([Value.int .u64 0,Value.int .i64 0,Value.int .i64 0,Value.int .i64 0,Value.int .u64 0,Value.int .i64 0])
@[simp]theorem A8v:A0e P 132=some (95,6,48,([.int .u64 0,.int .i64 0,.int .i64 0,.int .i64 0,.int .u64 0,.int .i64 0])):=by kernel_rfl
abbrev C48:Nat:=24
abbrev D0r:List Value:=([Value.int .u64 0,Value.int .i64 0,Value.bool false])
@[simp]theorem A80:A0e P 144=some (147,3,24,([.int .u64 0,.int .i64 0,.bool false])):=by kernel_rfl
@[simp]theorem E7i:A0e P 157=some (46,3,24,([.int .i64 0,.int .i64 0,.int .i64 0])):=by kernel_rfl
@[simp]theorem F04:A0e P 22=some (72,3,24,([.int .i64 0,.int .i64 0,.int .i64 0])):=by kernel_rfl
abbrev C4w:Nat:=32
abbrev D1h:List Value:=([Value.int .i64 0,Value.int .i64 0,Value.int .i64 0,Value.int .u64 0])
@[simp]theorem A5h:A0e P 230=some (204,4,32,([.int .i64 0,.int .i64 0,.int .i64 0,.int .u64 0])):=by kernel_rfl
@[simp]theorem B3n:A0e P 231=some (199,1,8,([.pointer none])):=by kernel_rfl
@[simp]theorem A5v:A0e P 28=some (3,1,8,([.int .i64 0])):=by kernel_rfl
@[simp]theorem E5d:A0e P 286=some (231,1,24,([.slice none 0 0])):=by kernel_rfl
@[simp]theorem E7k:A0e P 291=some (230,1,24,([.slice none 0 0])):=by kernel_rfl
@[simp]theorem E7b:A0e P 293=some (34,1,24,([.slice none 0 0])):=by kernel_rfl
@[simp]theorem C5l:A0e P 30=some (33,2,16,([.int .i64 0,.int .i64 0])):=by kernel_rfl
abbrev C8w:Nat:=8
abbrev D6o:List Value:=([Value.int .u64 0])
@[simp]theorem A1o:A0e P 34=some (43,1,8,([.int .u64 0])):=by kernel_rfl
@[simp]theorem F1a:A0e P 47=some (5,1,1,([.int .u8 0])):=by kernel_rfl
@[simp]theorem B0b:A0e P 74=some (170,2,16,([.nilFunc,.int .i64 0])):=by kernel_rfl
@[simp]theorem F1g:A2r P 112=some ([.pointer none,.slice none 0 0,.int .i64 0,.bool false,.pointer none,.pointer none]):=by kernel_rfl
@[simp]theorem F2r:A2r P 117=some ([.map none]):=by kernel_rfl
@[simp]theorem F5d:A2r P 127=some ([.bool false,.int .i64 0,.int .u64 0,.int .u64 0]):=by kernel_rfl
@[simp]theorem F41:A2r P 130=some ([.bool false,.int .i64 0,.int .u64 0,.int .u64 0,.bool false,.int .i64 0,.int .u64 0,.int .u64 0,.bool false,.int .i64 0,.int .u64 0,.int .u64 0,.bool false,.int .i64 0,.int .u64 0,.int .u64 0,.bool false,.int .i64 0,.int .u64 0,.int .u64 0,.bool false,.int .i64 0,.int .u64 0,.int .u64 0,.bool false,.int .i64 0,.int .u64 0,.int .u64 0,.bool false,.int .i64 0,.int .u64 0,.int .u64 0,.bool false,.int .i64 0,.int .u64 0,.int .u64 0,.bool false,.int .i64 0,.int .u64 0,.int .u64 0,.bool false,.int .i64 0,.int .u64 0,.int .u64 0,.bool false,.int .i64 0,.int .u64 0,.int .u64 0,.bool false,.int .i64 0,.int .u64 0,.int .u64 0,.bool false,.int .i64 0,.int .u64 0,.int .u64 0,.bool false,.int .i64 0,.int .u64 0,.int .u64 0,.bool false,.int .i64 0,.int .u64 0,.int .u64 0]):=by kernel_rfl
@[simp]theorem F57:A2r P 132=some ([.slice none 0 0]):=by kernel_rfl
@[simp]theorem F68:A2r P 140=some ([.pointer none]):=by kernel_rfl
@[simp]theorem F18:A2r P 147=some ([.int .u64 0,.int .i64 0,.bool false]):=by kernel_rfl
@[simp]theorem F1u:A2r P 152=some ([.bool false,.bool false,.bool false,.bool false]):=by kernel_rfl
@[simp]theorem F16:A2r P 158=some ([.map none]):=by kernel_rfl
@[simp]theorem F1k:A2r P 170=some ([.nilFunc,.int .i64 0]):=by kernel_rfl
@[simp]theorem F4f:A2r P 171=some ([.nilFunc]):=by kernel_rfl
@[simp]theorem F7p:A2r P 204=some ([.int .i64 0,.int .i64 0,.int .i64 0,.int .u64 0]):=by kernel_rfl
@[simp]theorem F69:A2r P 220=some ([.int .u64 0]):=by kernel_rfl
@[simp]theorem F6o:A2r P 263=some ([.nilFunc]):=by kernel_rfl
@[simp]theorem G2l:A2r P 3=some ([.int .i64 0]):=by kernel_rfl
@[simp]theorem F1o:A2r P 318=some (rep 5 (.bool false)):=by kernel_rfl
@[simp]theorem F9a:A2r P 33=some ([.int .i64 0,.int .i64 0]):=by kernel_rfl
@[simp]theorem G0i:A2r P 34=some ([.slice none 0 0]):=by kernel_rfl
@[simp]theorem G3l:A2r P 4=some ([.bool false]):=by kernel_rfl
@[simp]theorem G1k:A2r P 43=some ([.int .u64 0]):=by kernel_rfl
@[simp]theorem F9h:A2r P 46=some ([.int .i64 0,.int .i64 0,.int .i64 0]):=by kernel_rfl
@[simp]theorem F9f:A2r P 49=some ([.int .i64 0,.int .u64 0,.int .i64 0,.int .i64 0,.int .i64 0,.int .i64 0,.int .u64 0,.int .i64 0,.int .i64 0,.int .i64 0,.slice none 0 0]):=by kernel_rfl
@[simp]theorem G1d:A2r P 60=some ([.int .i64 0,.int .i64 0,.int .i64 0,.int .i64 0,.int .u64 0,.int .u64 0,.int .i64 0]):=by kernel_rfl
@[simp]theorem F84:A2r P 66=some ([.int .i64 0,.int .i64 0,.int .i64 0,.int .i64 0,.int .u8 0,.int .u8 0,.int .u8 0,.int .u8 0,.int .u8 0,.int .u8 0,.int .u8 0,.int .u8 0,.int .u8 0,.int .u8 0,.int .u8 0,.int .u8 0,.int .u8 0,.int .u8 0,.int .u8 0,.int .u8 0,.int .u8 0,.int .u8 0,.int .u8 0,.int .u8 0,.int .u8 0,.int .u8 0,.int .u8 0,.int .u8 0,.int .u8 0,.int .u8 0,.int .u8 0,.int .u8 0,.int .u8 0,.int .u8 0,.int .u8 0,.int .u8 0,.slice none 0 0,.bool false]):=by kernel_rfl
@[simp]theorem F9o:A2r P 72=some ([.int .i64 0,.int .i64 0,.int .i64 0]):=by kernel_rfl
@[simp]theorem F99:A2r P 76=some ([.slice none 0 0,.int .i64 0,.bool false]):=by kernel_rfl
@[simp]theorem G0w:A2r P 83=some ([.int .i64 0,.int .i64 0,.slice none 0 0,.int .i64 0,.bool false,.map none,.pointer none,.pointer none,.pointer none,.pointer none,.int .i64 0,.int .u64 0]):=by kernel_rfl
@[simp]theorem G0z:A2r P 95=some ([.int .u64 0,.int .i64 0,.int .i64 0,.int .i64 0,.int .u64 0,.int .i64 0]):=by kernel_rfl
@[simp]theorem A67:A5r P 132=some false:=by kernel_rfl
@[simp]theorem A7g:A5r P 144=some false:=by kernel_rfl
@[simp]theorem A5j:A5r P 230=some false:=by kernel_rfl
@[simp]theorem B3i:A5r P 231=some false:=by kernel_rfl
@[simp]theorem A6s:A5r P 28=some false:=by kernel_rfl
@[simp]theorem A7q:A5r P 3=some true:=by kernel_rfl
@[simp]theorem C4q:A5r P 30=some false:=by kernel_rfl
@[simp]theorem A2m:A5r P 34=some false:=by kernel_rfl
@[simp]theorem C5s:A5r P 47=some false:=by kernel_rfl
@[simp]theorem B0m:A5r P 74=some false:=by kernel_rfl
@[simp]theorem F5k(ps:Array (Nat×Value)):A0r P 112 ps=(A41 (fun i=>[(0,1),(1,3),(4,1),(5,1)][i]?) ([.pointer none,.slice none 0 0,.int .i64 0,.bool false,.pointer none,.pointer none]) ps).map fun l=>.agg l.toArray:=by kernel_rfl
@[simp]theorem F2x(ps:Array (Nat×Value)):A0r P 127 ps=(A41 (fun i=>[(0,1),(1,1),(2,1),(3,1)][i]?) ([.bool false,.int .i64 0,.int .u64 0,.int .u64 0]) ps).map fun l=>.agg l.toArray:=by kernel_rfl
@[simp]theorem F79(ps:Array (Nat×Value)):A0r P 130 ps=(A41 (fun i=>[(0,64)][i]?) ([.bool false,.int .i64 0,.int .u64 0,.int .u64 0,.bool false,.int .i64 0,.int .u64 0,.int .u64 0,.bool false,.int .i64 0,.int .u64 0,.int .u64 0,.bool false,.int .i64 0,.int .u64 0,.int .u64 0,.bool false,.int .i64 0,.int .u64 0,.int .u64 0,.bool false,.int .i64 0,.int .u64 0,.int .u64 0,.bool false,.int .i64 0,.int .u64 0,.int .u64 0,.bool false,.int .i64 0,.int .u64 0,.int .u64 0,.bool false,.int .i64 0,.int .u64 0,.int .u64 0,.bool false,.int .i64 0,.int .u64 0,.int .u64 0,.bool false,.int .i64 0,.int .u64 0,.int .u64 0,.bool false,.int .i64 0,.int .u64 0,.int .u64 0,.bool false,.int .i64 0,.int .u64 0,.int .u64 0,.bool false,.int .i64 0,.int .u64 0,.int .u64 0,.bool false,.int .i64 0,.int .u64 0,.int .u64 0,.bool false,.int .i64 0,.int .u64 0,.int .u64 0]) ps).map fun l=>.agg l.toArray:=by kernel_rfl
@[simp]theorem F6v(ps:Array (Nat×Value)):A0r P 134 ps=(A41 (fun i=>[(0,1)][i]?) ([.slice none 0 0]) ps).map fun l=>.agg l.toArray:=by kernel_rfl
@[simp]theorem F1d(ps:Array (Nat×Value)):A0r P 143 ps=(A41 (fun i=>[(0,1)][i]?) ([.pointer none]) ps).map fun l=>.agg l.toArray:=by kernel_rfl
@[simp]theorem F1q(ps:Array (Nat×Value)):A0r P 147 ps=(A41 (fun i=>[(0,1),(1,1),(2,1)][i]?) ([.int .u64 0,.int .i64 0,.bool false]) ps).map fun l=>.agg l.toArray:=by kernel_rfl
@[simp]theorem F6y(ps:Array (Nat×Value)):A0r P 149 ps=(A41 (fun i=>[(0,1)][i]?) ([.slice none 0 0]) ps).map fun l=>.agg l.toArray:=by kernel_rfl
@[simp]theorem F8k(ps:Array (Nat×Value)):A0r P 170 ps=(A41 (fun i=>[(0,1),(1,1)][i]?) ([.nilFunc,.int .i64 0]) ps).map fun l=>.agg l.toArray:=by kernel_rfl
@[simp]theorem F67(ps:Array (Nat×Value)):A0r P 201 ps=(A41 (fun i=>[(0,1),(1,1)][i]?) ([.pointer none,.int .i64 0]) ps).map fun l=>.agg l.toArray:=by kernel_rfl
@[simp]theorem F5c(ps:Array (Nat×Value)):A0r P 204 ps=(A41 (fun i=>[(0,3),(3,1)][i]?) ([.int .i64 0,.int .i64 0,.int .i64 0,.int .u64 0]) ps).map fun l=>.agg l.toArray:=by kernel_rfl
@[simp]theorem F5n(ps:Array (Nat×Value)):A0r P 233 ps=(A41 (fun i=>[(0,1),(1,1),(2,1)][i]?) ([.slice none 0 0,.slice none 0 0,.slice none 0 0]) ps).map fun l=>.agg l.toArray:=by kernel_rfl
@[simp]theorem F7l(ps:Array (Nat×Value)):A0r P 318 ps=(A41 (fun i=>[(0,1),(1,1),(2,1),(3,1),(4,1)][i]?) (rep 5 (.bool false)) ps).map fun l=>.agg l.toArray:=by kernel_rfl
@[simp]theorem F87(ps:Array (Nat×Value)):A0r P 33 ps=(A41 (fun i=>[(0,1),(1,1)][i]?) ([.int .i64 0,.int .i64 0]) ps).map fun l=>.agg l.toArray:=by kernel_rfl
@[simp]theorem F9v(ps:Array (Nat×Value)):A0r P 46 ps=(A41 (fun i=>[(0,1),(1,1),(2,1)][i]?) ([.int .i64 0,.int .i64 0,.int .i64 0]) ps).map fun l=>.agg l.toArray:=by kernel_rfl
@[simp]theorem G1l(ps:Array (Nat×Value)):A0r P 49 ps=(A41 (fun i=>[(0,1),(1,1),(2,1),(3,3),(6,1),(7,1),(8,1),(9,1),(10,1)][i]?) ([.int .i64 0,.int .u64 0,.int .i64 0,.int .i64 0,.int .i64 0,.int .i64 0,.int .u64 0,.int .i64 0,.int .i64 0,.int .i64 0,.slice none 0 0]) ps).map fun l=>.agg l.toArray:=by kernel_rfl
@[simp]theorem F8z(ps:Array (Nat×Value)):A0r P 66 ps=(A41 (fun i=>[(0,1),(1,1),(2,1),(3,1),(4,32),(36,1),(37,1)][i]?) ([.int .i64 0,.int .i64 0,.int .i64 0,.int .i64 0,.int .u8 0,.int .u8 0,.int .u8 0,.int .u8 0,.int .u8 0,.int .u8 0,.int .u8 0,.int .u8 0,.int .u8 0,.int .u8 0,.int .u8 0,.int .u8 0,.int .u8 0,.int .u8 0,.int .u8 0,.int .u8 0,.int .u8 0,.int .u8 0,.int .u8 0,.int .u8 0,.int .u8 0,.int .u8 0,.int .u8 0,.int .u8 0,.int .u8 0,.int .u8 0,.int .u8 0,.int .u8 0,.int .u8 0,.int .u8 0,.int .u8 0,.int .u8 0,.slice none 0 0,.bool false]) ps).map fun l=>.agg l.toArray:=by kernel_rfl
@[simp]theorem F9y(ps:Array (Nat×Value)):A0r P 72 ps=(A41 (fun i=>[(0,1),(1,1),(2,1)][i]?) ([.int .i64 0,.int .i64 0,.int .i64 0]) ps).map fun l=>.agg l.toArray:=by kernel_rfl
@[simp]theorem F97(ps:Array (Nat×Value)):A0r P 76 ps=(A41 (fun i=>[(0,1),(1,1),(2,1)][i]?) ([.slice none 0 0,.int .i64 0,.bool false]) ps).map fun l=>.agg l.toArray:=by kernel_rfl
@[simp]theorem F91(ps:Array (Nat×Value)):A0r P 83 ps=(A41 (fun i=>[(0,1),(1,1),(2,3),(5,1),(6,1),(7,1),(8,1),(9,1),(10,1),(11,1)][i]?) ([.int .i64 0,.int .i64 0,.slice none 0 0,.int .i64 0,.bool false,.map none,.pointer none,.pointer none,.pointer none,.pointer none,.int .i64 0,.int .u64 0]) ps).map fun l=>.agg l.toArray:=by kernel_rfl
@[simp]theorem F95(ps:Array (Nat×Value)):A0r P 93 ps=(A41 (fun i=>[(0,1),(1,1),(2,1),(3,1)][i]?) ([.int .u64 0,.int .i64 0,.int .i64 0,.int .i64 0]) ps).map fun l=>.agg l.toArray:=by kernel_rfl
@[simp]theorem G0s(ps:Array (Nat×Value)):A0r P 95 ps=(A41 (fun i=>[(0,4),(4,1),(5,1)][i]?) ([.int .u64 0,.int .i64 0,.int .i64 0,.int .i64 0,.int .u64 0,.int .i64 0]) ps).map fun l=>.agg l.toArray:=by kernel_rfl
@[simp]theorem G8p{a:Option Addr}{n c:Nat}{s:St}:lenR P 132 (.slice a n c) s=some (.int .i64 n):=by simp[lenR,lenV]
theorem B4v:A08 P 95=some 6:=by kernel_rfl
@[simp]theorem y_sl_132{n c:Nat}{a:Addr}{lo hi:Option Value}{s:St}(h:okb lo/\okb hi/\bnd lo 0<=bnd hi n/\bnd hi n<=n/\(c=top+6\/c<top/\n<=c)):slcV P 132 (.slice (some a) n c) lo hi none s=some (.slice (some ⟨a.block,a.off+bnd lo 0*6,none⟩) (bnd hi n-bnd lo 0) (A2a 6 c (bnd lo 0))):=B03 A05 B4v h
@[simp]theorem G5o{n c:Nat}{a:Addr}{lo:Option Value}{q q':IntKind}{hi mx:Int}{s:St}(h:okb lo/\0<=hi/\bnd lo 0<=hi.toNat/\hi<=mx/\mx.toNat<=n/\(c=top+6\/c<top/\n<=c)):slcV P 132 (.slice (some a) n c) lo (some (.int q hi)) (some (.int q' mx)) s=some (.slice (some ⟨a.block,a.off+bnd lo 0*6,none⟩) (hi.toNat-bnd lo 0) (mx.toNat-bnd lo 0)):=B1s A05 B4v h
@[simp]theorem G22{a:Option Addr}{n c:Nat}{s:St}:lenR P 144 (.slice a n c) s=some (.int .i64 n):=by simp[lenR,lenV]
theorem B4q:A08 P 147=some 3:=by kernel_rfl
@[simp]theorem y_sl_144{n c:Nat}{a:Addr}{lo hi:Option Value}{s:St}(h:okb lo/\okb hi/\bnd lo 0<=bnd hi n/\bnd hi n<=n/\(c=top+3\/c<top/\n<=c)):slcV P 144 (.slice (some a) n c) lo hi none s=some (.slice (some ⟨a.block,a.off+bnd lo 0*3,none⟩) (bnd hi n-bnd lo 0) (A2a 3 c (bnd lo 0))):=B03 A0v B4q h
@[simp]theorem G44{n c:Nat}{a:Addr}{lo:Option Value}{q q':IntKind}{hi mx:Int}{s:St}(h:okb lo/\0<=hi/\bnd lo 0<=hi.toNat/\hi<=mx/\mx.toNat<=n/\(c=top+3\/c<top/\n<=c)):slcV P 144 (.slice (some a) n c) lo (some (.int q hi)) (some (.int q' mx)) s=some (.slice (some ⟨a.block,a.off+bnd lo 0*3,none⟩) (hi.toNat-bnd lo 0) (mx.toNat-bnd lo 0)):=B1s A0v B4q h
@[simp]theorem G71{a:Option Addr}{n c:Nat}{s:St}:lenR P 157 (.slice a n c) s=some (.int .i64 n):=by simp[lenR,lenV]
@[simp]theorem G7j{a:Option Addr}{n c:Nat}{s:St}:lenR P 230 (.slice a n c) s=some (.int .i64 n):=by simp[lenR,lenV]
theorem A53:A08 P 204=some 4:=by kernel_rfl
@[simp]theorem y_sl_230{n c:Nat}{a:Addr}{lo hi:Option Value}{s:St}(h:okb lo/\okb hi/\bnd lo 0<=bnd hi n/\bnd hi n<=n/\(c=top+4\/c<top/\n<=c)):slcV P 230 (.slice (some a) n c) lo hi none s=some (.slice (some ⟨a.block,a.off+bnd lo 0*4,none⟩) (bnd hi n-bnd lo 0) (A2a 4 c (bnd lo 0))):=B03 A0i A53 h
@[simp]theorem G7u{n c:Nat}{a:Addr}{lo:Option Value}{q q':IntKind}{hi mx:Int}{s:St}(h:okb lo/\0<=hi/\bnd lo 0<=hi.toNat/\hi<=mx/\mx.toNat<=n/\(c=top+4\/c<top/\n<=c)):slcV P 230 (.slice (some a) n c) lo (some (.int q hi)) (some (.int q' mx)) s=some (.slice (some ⟨a.block,a.off+bnd lo 0*4,none⟩) (hi.toNat-bnd lo 0) (mx.toNat-bnd lo 0)):=B1s A0i A53 h
@[simp]theorem y_sn_230{lo hi mx:Option Value}{s:St}(h:okb lo/\okb hi/\okb mx/\bnd lo 0<=0/\bnd hi 0<=0/\bnd mx 0<=0/\(mx.isSome=true->hi.isSome=true)):slcV P 230 (.slice none 0 0) lo hi mx s=some (.slice none 0 0):=B86 A0i A53 h
@[simp]theorem H0j{a:Option Addr}{n c:Nat}{s:St}:lenR P 231 (.slice a n c) s=some (.int .i64 n):=by simp[lenR,lenV]
theorem A56:A08 P 199=some 1:=by kernel_rfl
@[simp]theorem y_sl_231{n c:Nat}{a:Addr}{lo hi:Option Value}{s:St}(h:okb lo/\okb hi/\bnd lo 0<=bnd hi n/\bnd hi n<=n/\(c=top+1\/c<top/\n<=c)):slcV P 231 (.slice (some a) n c) lo hi none s=some (.slice (some ⟨a.block,a.off+bnd lo 0*1,none⟩) (bnd hi n-bnd lo 0) (A2a 1 c (bnd lo 0))):=B03 A0k A56 h
@[simp]theorem y_sn_231{lo hi mx:Option Value}{s:St}(h:okb lo/\okb hi/\okb mx/\bnd lo 0<=0/\bnd hi 0<=0/\bnd mx 0<=0/\(mx.isSome=true->hi.isSome=true)):slcV P 231 (.slice none 0 0) lo hi mx s=some (.slice none 0 0):=B86 A0k A56 h
theorem C0k:A08 P 3=some 1:=by kernel_rfl
@[simp]theorem y_len_30{a:Option Addr}{n c:Nat}{s:St}:lenR P 30 (.slice a n c) s=some (.int .i64 n):=by simp[lenR,lenV]
@[simp]theorem y_len_34{a:Option Addr}{n c:Nat}{s:St}:lenR P 34 (.slice a n c) s=some (.int .i64 n):=by simp[lenR,lenV]
theorem A4u:A08 P 43=some 1:=by kernel_rfl
@[simp]theorem y_sl_34{n c:Nat}{a:Addr}{lo hi:Option Value}{s:St}(h:okb lo/\okb hi/\bnd lo 0<=bnd hi n/\bnd hi n<=n/\(c=top+1\/c<top/\n<=c)):slcV P 34 (.slice (some a) n c) lo hi none s=some (.slice (some ⟨a.block,a.off+bnd lo 0*1,none⟩) (bnd hi n-bnd lo 0) (A2a 1 c (bnd lo 0))):=B03 A0c A4u h
@[simp]theorem y_sl3x34{n c:Nat}{a:Addr}{lo:Option Value}{q q':IntKind}{hi mx:Int}{s:St}(h:okb lo/\0<=hi/\bnd lo 0<=hi.toNat/\hi<=mx/\mx.toNat<=n/\(c=top+1\/c<top/\n<=c)):slcV P 34 (.slice (some a) n c) lo (some (.int q hi)) (some (.int q' mx)) s=some (.slice (some ⟨a.block,a.off+bnd lo 0*1,none⟩) (hi.toNat-bnd lo 0) (mx.toNat-bnd lo 0)):=B1s A0c A4u h
@[simp]theorem y_sn_34{lo hi mx:Option Value}{s:St}(h:okb lo/\okb hi/\okb mx/\bnd lo 0<=0/\bnd hi 0<=0/\bnd mx 0<=0/\(mx.isSome=true->hi.isSome=true)):slcV P 34 (.slice none 0 0) lo hi mx s=some (.slice none 0 0):=B86 A0c A4u h
@[simp]theorem G8i{n:Nat}(h:3<=n)(k:n<214):A3s P n=true:=by
 have e:((List.range 211).all fun i=>A3s P (i+3))=true:=by kernel_rfl
 have e:=List.all_eq_true.1 e (n-3) (by simp;omega)
 rwa[Nat.sub_add_cancel h]at e
@[simp]theorem F8v{n:Nat}(h:235<=n)(k:n<257):A3s P n=true:=by
 have e:((List.range 22).all fun i=>A3s P (i+235))=true:=by kernel_rfl
 have e:=List.all_eq_true.1 e (n-235) (by simp;omega)
 rwa[Nat.sub_add_cancel h]at e
end Go.Zz
