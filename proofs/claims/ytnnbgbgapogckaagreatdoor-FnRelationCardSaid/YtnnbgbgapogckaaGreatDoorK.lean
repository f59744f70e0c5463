/-
  All functions keep their contracts.
-/
import Derived.Test.YtnnbgbgapogckaaGreatDoorW0
import Derived.Test.YtnnbgbgapogckaaGreatDoorW1
import Derived.Test.YtnnbgbgapogckaaGreatDoorW2
import Derived.Test.YtnnbgbgapogckaaGreatDoorW3
namespace Go.Proofs.YtnnbgbgapogckaaGreatDoor
open Go Go.Sx
set_option maxRecDepth 100000
set_option maxHeartbeats 6400000
set_option linter.unusedVariables false
set_option linter.unusedSimpArgs false
theorem k0:Sq 9 c0:=w0
theorem k1:Sq 42 c1:=w1
theorem k2:Sq 44 c2:=w2
theorem k3:Sq 263 c3:=w3
theorem k4:Sq 319 c4:=w4 k2
theorem k5:Sq 301 c5:=w5 k4 k2
theorem k6:Sq 286 c6:=w6 k5
theorem k7:Sq 264 c7:=w7 k2 k6
theorem k8:Sq 238 c8:=w8 k2 k3 k7
theorem k9:Sq 239 c9:=w9 k2 k7
theorem k10:Sq 197 c10:=w10 k8 k9
theorem k11:Sq 163 c11:=w11
theorem k12:Sq 198 c12:=w12 k2 k11
theorem k13:Sq 96 c13:=w13
theorem k14:Sq 139 c14:=w14 k13
theorem k15:Sq 219 c15:=w15
theorem k16:Sq 161 c16:=w16
theorem k17:Sq 164 c17:=w17 k2 k15 k16
theorem k18:Sq 125 c18:=w18 k10 k12 k14 k17
theorem k19:Sq 180 c19:=w19 k2 k11
theorem k20:Sq 147 c20:=w20
theorem k21:Sq 114 c21:=w21
theorem k22:Sq 224 c22:=w22 k20 k21
theorem k23:Sq 225 c23:=w23 k21
theorem k24:Sq 106 c24:=w24
theorem k25:Sq 181 c25:=w25 k22 k23 k21 k24
theorem k26:Sq 99 c26:=w26 k18 k2 k13 k19 k25
theorem k27:Sq 43 c27:=w27 k26 k2
theorem k28:Sq 10 c28:=w28 k1 k27 k2
theorem k29:Sq 159 c29:=w29
theorem k30:Sq 229 c30:=w30 k29
theorem k31:Sq 52 c31:=w31
theorem k32:Sq 187 c32:=w32 k29 k30 k31
theorem k33:Sq 212 c33:=w33 k29 Zeq Za8
theorem k34:Sq 249 c34:=w34
theorem k35:Sq 230 c35:=w35 k34
theorem k36:Sq 188 c36:=w36 k33 k35
theorem k37:Sq 108 c37:=w37 k32 k36
theorem k38:Sq 110 c38:=w38
theorem k39:Sq 190 c39:=w39 k29
theorem k40:Sq 231 c40:=w40 k39
theorem k41:Sq 189 c41:=w41 k40
theorem k42:Sq 109 c42:=w42 k41
theorem k43:Sq 51 c43:=w43 k37 k38 k42
theorem k44:Sq 100 c44:=w44
theorem k45:Sq 101 c45:=w45
theorem k46:Sq 182 c46:=w46
theorem k47:Sq 102 c47:=w47 k31 k46
theorem k48:Sq 45 c48:=w48 k43 k44 k45 k31 k47
theorem k49:Sq 226 c49:=w49
theorem k50:Sq 183 c50:=w50 k49
theorem k51:Sq 103 c51:=w51 k50
theorem k52:Sq 46 c52:=w52 k51
theorem k53:Sq 47 c53:=w53 k51
theorem k54:Sq 11 c54:=w54 k48 k52 k53
theorem k55:Sq 184 c55:=w55
theorem k56:Sq 227 c56:=w56
theorem k57:Sq 185 c57:=w57 k24 k56
theorem k58:Sq 104 c58:=w58 k25 k21 k55 k57 k24
theorem k59:Sq 228 c59:=w59
theorem k60:Sq 186 c60:=w60 k59
theorem k61:Sq 105 c61:=w61 k57 k24 k60
theorem k62:Sq 48 c62:=w62 k58 k61
theorem k63:Sq 49 c63:=w63 k58 k61 k24
theorem k64:Sq 107 c64:=w64 k25 k21
theorem k65:Sq 50 c65:=w65 k64
theorem k66:Sq 12 c66:=w66 k62 k63 k65
theorem k67:Sq 13 c67:=w67 k43 k31
theorem Zcg:Sq 3 Jz:=w_laws_FnRelation k0 k28 k54 k66 k67
end Go.Proofs.YtnnbgbgapogckaaGreatDoor
