/-
  All functions keep their contracts.
-/
import Derived.Test.YtnnbgbgapogckaaGreatDoorW0
import Derived.Test.YtnnbgbgapogckaaGreatDoorW1
import Derived.Test.YtnnbgbgapogckaaGreatDoorW2
import Derived.Test.YtnnbgbgapogckaaGreatDoorW3
import Derived.Test.YtnnbgbgapogckaaGreatDoorW4
import Derived.Test.YtnnbgbgapogckaaGreatDoorW5
import Derived.Test.YtnnbgbgapogckaaGreatDoorW6
namespace Go.Proofs.YtnnbgbgapogckaaGreatDoor
open Go Go.Sx
set_option maxRecDepth 100000
set_option maxHeartbeats 6400000
set_option linter.unusedVariables false
set_option linter.unusedSimpArgs false
theorem k0:Sq 9 c0:=w0
theorem k1:Sq 42 c1:=w1
theorem k2:Sq 44 c2:=w2
theorem k3:Sq 263 c3:=w3
theorem k4:Sq 319 c4:=w4 k2
theorem k5:Sq 301 c5:=w5 k4 k2
theorem k6:Sq 286 c6:=w6 k5
theorem k7:Sq 264 c7:=w7 k2 k6
theorem k8:Sq 238 c8:=w8 k2 k3 k7
theorem k9:Sq 239 c9:=w9 k2 k7
theorem k10:Sq 197 c10:=w10 k8 k9
theorem k11:Sq 163 c11:=w11
theorem k12:Sq 198 c12:=w12 k2 k11
theorem k13:Sq 96 c13:=w13
theorem k14:Sq 139 c14:=w14 k13
theorem k15:Sq 219 c15:=w15
theorem k16:Sq 161 c16:=w16
theorem k17:Sq 164 c17:=w17 k2 k15 k16
theorem k18:Sq 125 c18:=w18 k10 k12 k14 k17
theorem k19:Sq 87 c19:=w19 k2 k18 k16
theorem k20:Sq 123 c20:=w20 k2 k19 k18
theorem k21:Sq 124 c21:=w21 k2
theorem k22:Sq 147 c22:=w22
theorem k23:Sq 114 c23:=w23
theorem k24:Sq 260 c24:=w24 k22 k23
theorem k25:Sq 327 c25:=w25 k23
theorem k26:Sq 318 c26:=w26 k25 k23
theorem k27:Sq 300 c27:=w27 k26
theorem k28:Sq 285 c28:=w28 k27
theorem k29:Sq 261 c29:=w29 k23 k28
theorem k30:Sq 262 c30:=w30
theorem k31:Sq 223 c31:=w31 k24 k22 k23 k29 k30
theorem k32:Sq 176 c32:=w32 k31
theorem k33:Sq 177 c33:=w33 k23
theorem k34:Sq 178 c34:=w34 k22
theorem k35:Sq 95 c35:=w35 k32 k33 k34
theorem k36:Sq 144 c36:=w36 k23
theorem k37:Sq 77 c37:=w37 k35 k14 k36
theorem k38:Sq 137 c38:=w38 k13
theorem k39:Sq 140 c39:=w39
theorem k40:Sq 136 c40:=w40 k39
theorem k41:Sq 138 c41:=w41 k13
theorem k42:Sq 69 c42:=w42 k38 k40 k41 k14 k39
theorem k43:Sq 126 c43:=w43 k37 k2 k42
theorem k44:Sq 141 c44:=w44
theorem k45:Sq 70 c45:=w45 k44
theorem k46:Sq 71 c46:=w46 k13
theorem k47:Sq 72 c47:=w47
theorem k48:Sq 240 c48:=w48
theorem k49:Sq 199 c49:=w49 k47 k48
theorem k50:Sq 127 c50:=w50 k42 k45 k46 k49 k44
theorem k51:Sq 128 c51:=w51 k37 k13 k2
theorem k52:Sq 60 c52:=w52 k20 k21 k2 k18 k43 k37 k50 k51
theorem k53:Sq 61 c53:=w53 k46 k2
theorem k54:Sq 21 c54:=w54 k1 k52 k53
theorem k55:Sq 159 c55:=w55
theorem k56:Sq 212 c56:=w56 k55 Zeq Za8
theorem k57:Sq 274 c57:=w57
theorem k58:Sq 249 c58:=w58
theorem k59:Sq 230 c59:=w59 k58
theorem k60:Sq 188 c60:=w60 k56 k59
theorem k61:Sq 250 c61:=w61 k55 k57 k60
theorem k62:Sq 292 c62:=w62
theorem k63:Sq 158 c63:=w63
theorem k64:Sq 190 c64:=w64 k55
theorem k65:Sq 231 c65:=w65 k64
theorem k66:Sq 189 c66:=w66 k65
theorem k67:Sq 109 c67:=w67 k66
theorem k68:Sq 133 c68:=w68
theorem k69:Sq 324 c69:=w69 k63 k55 k67 k68
theorem k70:Sq 307 c70:=w70 k69 k67
theorem k71:Sq 308 c71:=w71
theorem k72:Sq 306 c72:=w72 k70 k71
theorem k73:Sq 323 c73:=w73 k72
theorem k74:Sq 305 c74:=w74 k73
theorem k75:Sq 293 c75:=w75 k74
theorem k76:Sq 310 c76:=w76
theorem k77:Sq 309 c77:=w77 k76
theorem k78:Sq 294 c78:=w78 k77
theorem k79:Sq 278 c79:=w79 k57
theorem k80:Sq 295 c80:=w80 k79 k55
theorem k81:Sq 275 c81:=w81 k62 k75 k78 k80 k79 k55
theorem k82:Sq 277 c82:=w82
theorem k83:Sq 296 c83:=w83 k82
theorem k84:Sq 276 c84:=w84 k83
theorem k85:Sq 251 c85:=w85 k81 k84
theorem k86:Sq 297 c86:=w86
theorem k87:Sq 296 c87:=w87 k86
theorem k88:Sq 276 c88:=w88 k87
theorem k89:Sq 279 c89:=w89 k88
theorem k90:Sq 252 c90:=w90 k79 k67 k89
theorem k91:Sq 216 c91:=w91 k56 k61 k85 k55 k90
theorem k92:Sq 153 c92:=w92 k91 k60
theorem k93:Sq 154 c93:=w93 k60
theorem k94:Sq 209 c94:=w94
theorem k95:Sq 191 c95:=w95
theorem k96:Sq 112 c96:=w96 k95 k55
theorem k97:Sq 217 c97:=w97 k96
theorem k98:Sq 231 c98:=w98 k97
theorem k99:Sq 189 c99:=w99 k98
theorem ZBE:Sq 155 ZAT:=ZFE k94 k55 k99
theorem ZBF:Sq 157 ZAU:=ZFF
theorem ZBG:Sq 218 ZAV:=ZFG ZBF
theorem ZBH:Sq 156 ZAW:=ZFH ZBG
theorem ZBI:Sq 82 ZAX:=ZFI k92 k93 ZBE k96 ZBH
theorem ZBJ:Sq 83 c105:=ZFJ
theorem ZBK:Sq 160 ZAY:=ZFK k55
theorem ZBx:Sq 84 c107:=ZFL k63 k55 ZBK k67
theorem ZAO:Sq 31 ZAv:=ZFM ZBI ZBJ ZBx
theorem ZBq:Sq 241 c109:=ZFN
theorem ZBL:Sq 200 ZAZ:=ZFO ZBq
theorem ZBM:Sq 134 ZA0:=ZFP
theorem ZBN:Sq 192 ZA1:=ZFQ ZBJ
theorem ZBO:Sq 193 ZA2:=ZFR
theorem ZBP:Sq 113 ZA3:=ZFS ZBM ZBJ ZBN ZBO
theorem ZBQ:Sq 55 ZA4:=ZFT ZBP
theorem ZBR:Sq 201 c116:=ZFU ZBQ
theorem ZBS:Sq 129 c117:=ZFV ZBJ ZBL k63 ZBP ZBR
theorem Zzu:Sq 202 Zy7:=ZFW
theorem ZBT:Sq 130 c119:=ZFX Zzu k67 k68
theorem ZBy:Sq 131 ZAK:=ZFY
theorem ZBz:Sq 62 ZAL:=ZFZ ZAO ZBS ZBT ZBy
theorem ZBU:Sq 179 ZA5:=ZF0
theorem ZBV:Sq 132 ZA6:=ZF1 ZBU
theorem ZBW:Sq 63 c124:=ZDU ZBV k67 k68
theorem ZBX:Sq 66 ZA7:=ZF2
theorem ZBY:Sq 65 ZA8:=ZF3 ZBV ZBX ZBM
theorem ZBZ:Sq 64 c127:=ZF4
theorem ZB0:Sq 22 ZA9:=ZDV ZBz ZBW ZBY ZBZ
theorem ZB1:Sq 135 ZBa:=ZF5 k23
theorem ZB2:Sq 67 c130:=ZF6 k37 k42 ZB1
theorem ZBA:Sq 68 c131:=ZF7 k46 ZB1
theorem ZB3:Sq 73 ZBb:=ZFB
theorem ZB4:Sq 23 ZBc:=ZF8 ZB2 ZBA k42 k45 k46 k47 ZB3
theorem ZB5:Sq 142 ZBd:=ZF9 ZBV k55
theorem ZB6:Sq 74 ZBe:=ZGa ZBz ZB5
theorem ZB7:Sq 24 ZBf:=ZGb ZB6 ZBY ZBZ
theorem ZB8:Sq 25 ZBg:=ZGc
theorem ZB9:Sq 26 c138:=ZGd
theorem ZIx:Sq 5 ZH2:=w_laws_FnCone k0 k54 ZB0 ZB4 ZB7 ZB8 ZB9
end Go.Proofs.YtnnbgbgapogckaaGreatDoor
