/-
  All functions keep their contracts.
-/
import Derived.Test.YtoijdogpgpbddaaGreatDoorW0
import Derived.Test.YtoijdogpgpbddaaGreatDoorW1
import Derived.Test.YtoijdogpgpbddaaGreatDoorW2
import Derived.Test.YtoijdogpgpbddaaGreatDoorW3
import Derived.Test.YtoijdogpgpbddaaGreatDoorSxOwn
namespace Go.Proofs.YtoijdogpgpbddaaGreatDoor
open Go Go.Sx
set_option maxRecDepth 100000
set_option maxHeartbeats 100000000
set_option linter.unusedVariables false
set_option linter.unusedSimpArgs false
theorem Zud: Sq 3 Zom :=
have a:=ws0.w1;
have b:=ws1.w2;
have c:=ws2.w7 b (ws1.w6 (ws2.w5 (ws1.w4 b) b));
have d:=w11;
have e:=ws0.w13;
have f:=ws0.w14 e;
have g:=ws1.w15;
have h:=ws1.w16;
have i:=ws0.w17 b g h;
have j:=ws0.w18 (ws2.w10 (ws2.w8 b ws2.w3 c) (ws0.w9 b c)) (ws0.w12 b d) f i;
have k:=ws1.w19 b j h;
have l:=ws2.w20;
have m:=ws1.w21;
have n:=ws2.w33 (ws1.w30 (ws1.w29 (ws0.w22 l m) l m (ws0.w27 m (ws1.w26 (ws0.w25 (ws0.w24 (ws2.w23 m) m)))) ws2.w28)) (ws1.w31 m) (ws1.w32 l);
have o:=ws1.w34 m;
have p:=ws2.w35 n f o;
have q:=ws1.w36 e;
have r:=ws0.w38 p e b q (ws1.w37 e b) d f i;
have s:=ws2.w42;
have t:=ws2.w55 h;
have u:=ws2.w56 (ws1.w53 (ws0.w52 h (ws2.w51 (ws1.w50 h)))) (ws1.w54 h) t;
have v:=ws2.w57 e f;
have w:=ws0.w58;
have x:=ws1.w59 f;
have y:=ws2.w63 (ws1.w49 p ws1.w39 (ws0.w40 e m) (ws2.w48 e ws2.w41 s l ws2.w43 (ws2.w45 ws2.w44) (ws1.w47 s f ws0.w46) f o)) (ws0.w62 u e (w60 e v h w g x) (ws0.w61 v f e w h x) v w x t);
have z:=ws1.w65 b r y;
have aa:=ws0.w70;
have ab:=ws0.w72 e;
have ac:=ws1.w73 q (ws0.w71 aa) ab f aa;
have ad:=ws0.w75;
have ae:=ws1.w76 ad;
have af:=ws1.w77 e;
have ag:=ws0.w82 p e b;
have ah:=ws1.w87 p ac (ws0.w86 m);
have ai:=ws1.w88 m;
have aj:=ws0.w96 h e f ws2.w95;
have ak:=ws0.w97 e aj;
have al:=ws1.w99;
have am:=ws2.w100 ws1.w98 al;
have an:=ws2.w101 e;
have ao:=ws0.w102 aj;
have ap:=ws1.w113 (ws2.w93 p (ws1.w85 m l) ah (ws2.w90 af m ai ws0.w89) (ws1.w92 ah ac af ae ws0.w91)) ac ae (ws1.w112 af ws1.w94 (ws1.w111 (ws0.w109 (ws2.w105 ak am an (ws2.w103 ao al) ws0.w104 al) (ws1.w108 ak am an (ws0.w107 ao ws1.w106 al))) ws2.w110) ai);
have aq:=ws2.w117 n e m;
have ar:=ws0.w121;
have au:=ws0.w122 ar Zq9 Zl8;
have av:=ws2.w123;
have aw:=ws1.w124;
have ax:=ws0.w126 au (ws2.w125 aw);
have ay:=ws2.w129;
have az:=ws2.w133 (ws2.w132 (ws2.w131 (ws0.w130 ar)));
have a0:=ws0.w134;
have a1:=ws1.w145 av;
have a2:=ws2.w158 (ws2.w157 au (ws1.w127 ar av ax) (ws0.w151 (ws2.w147 ws2.w128 (ws0.w141 (ws0.w140 (ws1.w139 (ws1.w138 (ws2.w136 (ws0.w135 ay ar az a0) az) ws1.w137)))) (ws1.w144 (ws1.w143 ws0.w142)) (ws1.w146 a1 ar) a1 ar) (ws0.w150 (ws2.w149 ws2.w148))) ar (ws1.w156 a1 az (ws0.w155 (ws1.w154 (ws0.w153 ws2.w152))))) ax;
have a3:=ws1.w160;
have a4:=ws1.w161;
have a5:=ws1.w162 a4 ar;
have a6:=ws2.w171;
have a7:=ws2.w173 ay ar (ws1.w172 ar) az;
have a8:=ws2.w174 (ws2.w170 a2 (ws0.w159 ax) (ws1.w166 a3 ar (ws1.w165 (ws2.w164 (ws2.w163 a5)))) a5 (ws0.w169 (ws0.w168 ws0.w167))) a6 a7;
have a9:=ws1.w179;
have ba:=ws1.w180 a6;
have bb:=ws1.w182 a9 a6 ba ws2.w181;
have bc:=ws2.w185 a6 (ws0.w178 ws0.w177) ay bb (ws2.w184 (ws2.w183 bb));
have bd:=ws2.w186;
have be:=ws2.w187 bd;
have bf:=ws1.w188;
have bg:=ws2.w191 (ws1.w190 ar);
have bh:=ws2.w193 bg (ws2.w192 ar);
have bi:=ws0.w194 be bf ws2.w189 bg bh;
have bj:=ws0.w198 (ws0.w197 be ar) bg bh;
have bk:=ws0.w207 a8 (ws1.w176 au ws0.w175) bc bi (ws0.w196 ws0.w195 az a0) bj ws0.w199 (ws1.w206 be (ws0.w201 ws0.w200) ws1.w202 (ws1.w205 (ws1.w204 ws0.w203)));
have bl:=ws1.w208 be;
have bm:=ws2.w216 (ws2.w215 ws1.w214);
have bn:=ws1.w217;
have bo:=ws1.w218;
have bp:=ws0.w224;
have bq:=ws2.w225 (ws2.w223 (ws1.w222 (ws1.w220 ws0.w219) ws1.w221)) bp;
have br:=ws1.w234 (ws2.w211 (ws1.w210 ws2.w209)) (ws2.w213 ws1.w212) bm (ws1.w232 (ws0.w228 bn bo bq bp ws1.w226 (ws1.w227 bp)) bn (ws0.w231 bn bo bq (ws0.w230 ws0.w229 bp))) ws2.w233;
have bs:=ws0.w245;
have bt:=ws1.w253 a8 (ws0.w252 (ws2.w241 ar ws2.w237 (ws1.w240 (ws1.w239 ws0.w238)) a6 bd a3 a5 ay) (ws0.w251 a6 (ws2.w244 (ws1.w243 ws0.w242)) bs au (ws2.w248 (ws0.w247 ws1.w246)) (ws0.w249 aw) (ws1.w250 a4 bs) ay a7));
have bu:=ws1.w262 a9;
have bv:=ws1.w263 (ZN3 ws2.w254 a9 ws1.w255 (ws2.w256 a9)) (ZN4 ws2.w258 ws0.w259 ws0.w260 a9) bu;
have bw:=ws0.w264 a6;
have bx:=ws1.w265;
have bz:=ws2.w266;
have b0:=ws2.w267 a6;
have b1:=ws0.w269 bw a6 a4 ba bz b0;
have b2:=ws0.w270 bv a6 (ws1.w268 bw a6 a4 bx bz b0) b1 bw bz b0 bu;
have b3:=ws0.w272 bx a6;
have b4:=ws0.w274;
have b5:=ws2.w275 bt bc bj b3 ws2.w273 b4;
have b6:=ZN7 ZN6;
have b7:=ws2.w299;
have b8:=ZN9 (ws1.w116 n e) (ws0.w118 aq) (ws2.w119 aq) (ws0.w120 n ab) (ws0.w236 bk (ws2.w235 bl br bg)) ap (ws0.w271 bt b2) (ws2.w291 b5 (ws2.w277 bt bc bi (ws1.w276 b2 bc bl b3 bf b4)) b2 (ZN8 (ZN5 a6 a9 a4 Zvy Zq8) b2 a6 b6) (ws2.w290 bk (ws0.w282 be az a0) (ws2.w285 ws0.w283 ws1.w284) (ws2.w289 be b6 bm (ws2.w288 (ws2.w287 ws2.w286)) br bg))) (ZE1 rfl y) (ws0.w296 bt (ws1.w295 a6 bv b1 (ws1.w294 a6 (ws1.w293 ws2.w292)) bw bu)) b5 (ws0.w298 ws2.w297) (ws2.w302 (ws2.w300 b7) (ws0.w301 b7));
w_laws_FnTop ws1.w0 (ws0.w66 a k z b r) ws0.w67 (ws0.w115 a (ZN2 (w83 (ws2.w68 b k j) (w69 b) b j (ws0.w74 p b ac) p (ws0.w81 ac ae af (ws2.w80 ws2.w78 ws0.w79) ad) ag) p b z (ws1.w84 p u y) ag r ap)) b8
end Go.Proofs.YtoijdogpgpbddaaGreatDoor
