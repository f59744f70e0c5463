/-
  All functions keep their contracts.
-/
import Derived.Test.YtnnbgbgapogckaaGreatDoorW0
import Derived.Test.YtnnbgbgapogckaaGreatDoorW1
import Derived.Test.YtnnbgbgapogckaaGreatDoorW2
import Derived.Test.YtnnbgbgapogckaaGreatDoorW3
import Derived.Test.YtnnbgbgapogckaaGreatDoorW4
import Derived.Test.YtnnbgbgapogckaaGreatDoorW5
import Derived.Test.YtnnbgbgapogckaaGreatDoorW6
namespace Go.Proofs.YtnnbgbgapogckaaGreatDoor
open Go Go.Sx
set_option maxRecDepth 100000
set_option maxHeartbeats 6400000
set_option linter.unusedVariables false
set_option linter.unusedSimpArgs false
theorem k0:Sq 9 c0:=w0
theorem k1:Sq 42 c1:=w1
theorem k2:Sq 44 c2:=w2
theorem k3:Sq 263 c3:=w3
theorem k4:Sq 319 c4:=w4 k2
theorem k5:Sq 301 c5:=w5 k4 k2
theorem k6:Sq 286 c6:=w6 k5
theorem k7:Sq 264 c7:=w7 k2 k6
theorem k8:Sq 238 c8:=w8 k2 k3 k7
theorem k9:Sq 239 c9:=w9 k2 k7
theorem k10:Sq 197 c10:=w10 k8 k9
theorem k11:Sq 163 c11:=w11
theorem k12:Sq 198 c12:=w12 k2 k11
theorem k13:Sq 96 c13:=w13
theorem k14:Sq 139 c14:=w14 k13
theorem k15:Sq 219 c15:=w15
theorem k16:Sq 161 c16:=w16
theorem k17:Sq 164 c17:=w17 k2 k15 k16
theorem k18:Sq 125 c18:=w18 k10 k12 k14 k17
theorem k19:Sq 87 c19:=w19 k2 k18 k16
theorem k20:Sq 111 c20:=w20 k2
theorem k21:Sq 53 c21:=w21 k1 k19 k20
theorem k22:Sq 14 c22:=w22 k21
theorem k23:Sq 159 c23:=w23
theorem k24:Sq 212 c24:=w24 k23 Zeq Za8
theorem k25:Sq 274 c25:=w25
theorem k26:Sq 249 c26:=w26
theorem k27:Sq 230 c27:=w27 k26
theorem k28:Sq 188 c28:=w28 k24 k27
theorem k29:Sq 250 c29:=w29 k23 k25 k28
theorem k30:Sq 292 c30:=w30
theorem k31:Sq 158 c31:=w31
theorem k32:Sq 190 c32:=w32 k23
theorem k33:Sq 231 c33:=w33 k32
theorem k34:Sq 189 c34:=w34 k33
theorem k35:Sq 109 c35:=w35 k34
theorem k36:Sq 133 c36:=w36
theorem k37:Sq 324 c37:=w37 k31 k23 k35 k36
theorem k38:Sq 307 c38:=w38 k37 k35
theorem k39:Sq 308 c39:=w39
theorem k40:Sq 306 c40:=w40 k38 k39
theorem k41:Sq 323 c41:=w41 k40
theorem k42:Sq 305 c42:=w42 k41
theorem k43:Sq 293 c43:=w43 k42
theorem k44:Sq 310 c44:=w44
theorem k45:Sq 309 c45:=w45 k44
theorem k46:Sq 294 c46:=w46 k45
theorem k47:Sq 278 c47:=w47 k25
theorem k48:Sq 295 c48:=w48 k47 k23
theorem k49:Sq 275 c49:=w49 k30 k43 k46 k48 k47 k23
theorem k50:Sq 277 c50:=w50
theorem k51:Sq 296 c51:=w51 k50
theorem k52:Sq 276 c52:=w52 k51
theorem k53:Sq 251 c53:=w53 k49 k52
theorem k54:Sq 297 c54:=w54
theorem k55:Sq 296 c55:=w55 k54
theorem k56:Sq 276 c56:=w56 k55
theorem k57:Sq 279 c57:=w57 k56
theorem k58:Sq 252 c58:=w58 k47 k35 k57
theorem k59:Sq 216 c59:=w59 k24 k29 k53 k23 k58
theorem k60:Sq 153 c60:=w60 k59 k28
theorem k61:Sq 154 c61:=w61 k28
theorem k62:Sq 209 c62:=w62
theorem k63:Sq 191 c63:=w63
theorem k64:Sq 112 c64:=w64 k63 k23
theorem k65:Sq 217 c65:=w65 k64
theorem k66:Sq 231 c66:=w66 k65
theorem k67:Sq 189 c67:=w67 k66
theorem k68:Sq 155 c68:=w68 k62 k23 k67
theorem k69:Sq 157 c69:=w69
theorem k70:Sq 218 c70:=w70 k69
theorem k71:Sq 156 c71:=w71 k70
theorem k72:Sq 82 c72:=w72 k60 k61 k68 k64 k71
theorem k73:Sq 83 c73:=w73
theorem k74:Sq 160 c74:=w74 k23
theorem k75:Sq 84 c75:=w75 k31 k23 k74 k35
theorem k76:Sq 31 c76:=w76 k72 k73 k75
theorem k77:Sq 54 c77:=w77 k76 k64
theorem k78:Sq 134 c78:=w78
theorem k79:Sq 192 c79:=w79 k73
theorem k80:Sq 193 c80:=w80
theorem k81:Sq 113 c81:=w81 k78 k73 k79 k80
theorem k82:Sq 55 c82:=w82 k81
theorem k83:Sq 15 c83:=w83 k77 k82
theorem k84:Sq 147 c84:=w84
theorem k85:Sq 114 c85:=w85
theorem k86:Sq 260 c86:=w86 k84 k85
theorem k87:Sq 327 c87:=w87 k85
theorem k88:Sq 318 c88:=w88 k87 k85
theorem k89:Sq 300 c89:=w89 k88
theorem k90:Sq 285 c90:=w90 k89
theorem k91:Sq 261 c91:=w91 k85 k90
theorem k92:Sq 262 c92:=w92
theorem k93:Sq 223 c93:=w93 k86 k84 k85 k91 k92
theorem k94:Sq 176 c94:=w94 k93
theorem k95:Sq 177 c95:=w95 k85
theorem k96:Sq 178 c96:=w96 k84
theorem k97:Sq 95 c97:=w97 k94 k95 k96
theorem k98:Sq 144 c98:=w98 k85
theorem k99:Sq 77 c99:=w99 k97 k14 k98
theorem ZBE:Sq 56 ZAT:=ZFE k99 k85
theorem ZBF:Sq 194 ZAU:=ZFF
theorem ZBG:Sq 115 ZAV:=ZFG k16 k13 k14 ZBF
theorem ZBH:Sq 57 ZAW:=ZFH ZBG
theorem ZBI:Sq 16 ZAX:=ZFI ZBE ZBH
theorem ZBJ:Sq 17 c105:=ZFJ
theorem ZBK:Sq 18 ZAY:=ZFK
theorem ZBx:Sq 208 c107:=ZFL
theorem ZAO:Sq 265 ZAv:=ZFM
theorem ZBq:Sq 242 c109:=ZFN ZAO
theorem ZBL:Sq 207 ZAZ:=ZFO ZBq
theorem ZBM:Sq 179 ZA0:=ZFP
theorem ZBN:Sq 151 ZA1:=ZFQ k23 ZBx ZBL k73 ZBM k62 k64 k31
theorem ZBO:Sq 244 ZA2:=ZFR
theorem ZBP:Sq 243 ZA3:=ZFS ZBO
theorem ZBQ:Sq 210 ZA4:=ZFT ZBP
theorem ZBR:Sq 211 c116:=ZFU
theorem ZBS:Sq 248 c117:=ZFV
theorem Zzu:Sq 247 Zy7:=ZFW ZBS
theorem ZBT:Sq 213 c119:=ZFX Zzu
theorem ZBy:Sq 214 ZAK:=ZFY k26
theorem ZBz:Sq 215 ZAL:=ZFZ k63 ZBR
theorem ZBU:Sq 152 ZA5:=ZF0 k73 ZBQ ZBR k24 ZBT ZBy ZBz k31 k75
theorem ZBV:Sq 81 ZA6:=ZF1 ZBN ZBU
theorem ZBW:Sq 30 c124:=ZDU k76 ZBV
theorem ZBX:Sq 232 ZA7:=ZF2
theorem ZBY:Sq 233 ZA8:=ZF3
theorem ZBZ:Sq 234 c127:=ZF4 k78
theorem ZB0:Sq 195 ZA9:=ZDV ZBX k78 ZBY ZBZ
theorem ZB1:Sq 235 ZBa:=ZF5
theorem ZB2:Sq 236 c130:=ZF6
theorem ZBA:Sq 237 c131:=ZF7
theorem ZB3:Sq 196 ZBb:=ZFB ZB1 ZB2 ZBA k78
theorem ZB4:Sq 122 ZBc:=ZF8 k78
theorem ZB5:Sq 116 ZBd:=ZF9 ZB0 ZB3 ZB4
theorem ZB6:Sq 119 ZBe:=ZGa k73
theorem ZB7:Sq 170 ZBf:=ZGb
theorem ZB8:Sq 120 ZBg:=ZGc
theorem ZB9:Sq 121 c138:=ZGd k73
theorem ZBr:Sq 117 c139:=ZGe ZB6 k73 k63 ZB7 ZB8 ZB9
theorem ZCa:Sq 118 ZBh:=ZGf ZB6 k73 k63 k79 ZB8 ZB9
theorem ZAP:Sq 58 c141:=ZGg ZB5 k73 ZBr ZCa ZB6 ZB8 ZB9 ZB4
theorem ZCb:Sq 19 ZBi:=ZGh ZBW ZAP
theorem ZCc:Sq 59 c143:=ZGi k77 k81
theorem ZCd:Sq 20 ZBj:=ZCv ZCc
theorem ZEr:Sq 4 ZEi:=w_laws_FnWireGrows k0 k22 k83 ZBI ZBJ ZBK ZCb ZCd
end Go.Proofs.YtnnbgbgapogckaaGreatDoor
