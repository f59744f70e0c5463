/-
  All functions keep their contracts.
-/
import Derived.Test.YtjkccpcebpeadaaGreatDoorW0
import Derived.Test.YtjkccpcebpeadaaGreatDoorW1
import Derived.Test.YtjkccpcebpeadaaGreatDoorW2
import Derived.Test.YtjkccpcebpeadaaGreatDoorW3
namespace Go.Proofs.YtjkccpcebpeadaaGreatDoor
open Go Go.Sx
set_option maxRecDepth 100000
set_option maxHeartbeats 100000000
set_option linter.unusedVariables false
set_option linter.unusedSimpArgs false
theorem ZJV: Sq 4 ZJn :=
have a:=ws3.w2;
have b:=ws1.w7 a (ws0.w6 (ws1.w5 (ws1.w4 a) a));
have c:=w11;
have d:=ws0.w13;
have e:=ws0.w14 d;
have f:=ws1.w16;
have g:=ws1.w20;
have h:=ws2.w21;
have i:=w24;
have j:=ws3.w25 (ws3.w22 g h) (ws2.w23 h) h i;
have k:=ws2.w29;
have l:=ws2.w30 k ZoR Zj3;
have m:=ws1.w31;
have n:=ws0.w34 l (ws3.w33 ws3.w32);
have o:=ws1.w36;
have p:=ws0.w37;
have q:=ws1.w41 (ws1.w40 (ws3.w39 (ws3.w38 k)));
have r:=ws3.w42;
have s:=ws3.w53 m;
have t:=ws2.w63 (ws2.w62 (ws0.w61 ws1.w60));
have u:=ws3.w70 ws2.w69 k;
have v:=ws3.w78 (ws2.w66 (ws0.w65 l (ws2.w35 k m n) (ws3.w59 (ws3.w55 o (ws1.w49 (ws2.w48 (ws1.w47 (ws1.w46 (ws3.w44 (ws2.w43 p k q r) q) ws1.w45)))) (ws1.w52 (ws2.w51 ws1.w50)) (ws3.w54 s k) s k) (ws2.w58 (ws0.w57 ws0.w56))) k (ws3.w64 s q t)) n) (ws0.w67 n) (ws3.w74 ws2.w68 k (ws0.w73 (ws3.w72 (ws0.w71 u)))) u (ws2.w77 (ws1.w76 ws0.w75));
have w:=ws1.w79;
have x:=ws2.w82 v w (ws3.w81 p k (ws2.w80 k) q);
have y:=ws2.w85;
have z:=ws2.w88 y w (ws3.w86 w) ws2.w87;
have aa:=ws1.w91 w (ws1.w84 ws2.w83) p z (ws3.w90 (ws0.w89 z));
have ab:=ws2.w92;
have ac:=w94;
have ad:=ws1.w96 (ws2.w95 k (ws1.w93 k) ac) n;
have ae:=ws3.w97;
have af:=ws1.w98 ae k;
have ag:=ws0.w102 k;
have ah:=ws3.w103 ag;
have ai:=ws2.w105 ah (ws0.w104 k);
have aj:=ws0.w114;
have ak:=ws1.w118 ae;
have al:=ws1.w125 ak (ws1.w120 ws1.w119) ws2.w121 (ws2.w124 (ws2.w123 ws0.w122));
have am:=ws1.w142 (ws3.w141 ws2.w140);
have an:=ws2.w150;
have ao:=ws0.w151;
have ap:=ws2.w157;
have aq:=ws0.w158 (ws2.w156 (ws2.w155 (ws0.w153 ws2.w152) ws3.w154)) ap;
have ar:=ws1.w169 (ws2.w117 x aa (ws0.w116 ab ad (ws3.w101 (ws2.w100 (ws0.w99 af))) (ws2.w106 af k ah ai) (ws1.w111 (ws1.w110 (ws3.w109 (ws1.w108 ae q (ws3.w107 k) r)))) (ws0.w115 (ws0.w113 l ws3.w112) aj k n))) aj k aa (ws2.w137 (ws2.w126 al) (ws1.w132 ak (ws3.w128 ak ws2.w127 y) (ws0.w131 (ws2.w130 ws0.w129))) (ws3.w136 (ws1.w135 (ZIp ZIo))) ZsJ) ws1.w138 (ws0.w143 (ws3.w139 ac) ac ZoQ am) al (ws2.w168 (ws1.w144 ak) (ws3.w167 am (ws0.w146 ws0.w145) (ws1.w149 (ws0.w148 ws3.w147)) (ws2.w165 (ws3.w161 an ao aq ap ws3.w159 (ws1.w160 ap)) an (ws0.w164 an ao aq (ws1.w163 ws0.w162 ap))) ws3.w166) ah);
have au:=ZNv (ZNu ws3.w176);
have av:=ws0.w181 (ZNt (ws3.w170 ad ab q) ws1.w171 ws3.w172 ac (ws3.w174 ac ws3.w173)) (ws3.w179 au) (ws2.w180 au);
have aw:=ws1.w192 (ws1.w182 o) (ws3.w191 (ws0.w187 (ws3.w185 w (ws2.w184 ws3.w183)) (ws2.w186 t)) (ws1.w190 ws3.w188 k ws3.w189 o) aq);
have ax:=ws2.w207 (ws1.w205 (ws0.w202 (ws3.w201 (ws1.w194 g h) g h (ws3.w199 h (ws0.w198 (ws0.w197 (ws2.w196 (ws3.w195 h) h)))) ws2.w200)) (ws3.w203 h) (ws2.w204 g)) e (ws2.w206 h);
have ay:=ws1.w208 h g;
have az:=ws1.w213;
have a0:=ws3.w216 d;
have a1:=ws0.w217;
have a2:=ws3.w220 a0 (ws1.w218 a1) (ws3.w219 d) e a1;
have a3:=ws3.w221;
have a4:=ws3.w222 a3;
have a5:=ws1.w223 d;
have a6:=ws0.w231 ax a2 (ws3.w230 h);
have a7:=ws2.w232 h;
have a8:=ws2.w239 f d e ws1.w238;
have a9:=ws3.w240 d a8;
have ba:=ws0.w242;
have bb:=ws2.w243 ws1.w241 ba;
have bc:=ws1.w244 d;
have bd:=ws3.w245 a8;
have be:=ws3.w257 (ws1.w215 ax j (ws1.w209 ay) d (ws3.w212 ax (ws1.w211 (ws2.w210 d) h) h) (ws3.w214 d h az)) h (ws1.w227 a2 a4 a5 (ws1.w226 ws3.w224 ws0.w225) a3) (ws1.w229 i ws2.w228) (ws2.w256 (ws3.w236 ax ay a6 (ws3.w233 a5 h a7 az) (ws1.w235 a6 a2 a5 a4 ws2.w234)) a2 a4 (ws3.w255 a5 ws1.w237 (ws2.w254 (ws2.w252 (ws0.w248 a9 bb bc (ws2.w246 bd ba) ws0.w247 ba) (ws3.w251 a9 bb bc (ws0.w250 bd ws2.w249 ba))) ws1.w253) a7));
have bf:=ws1.w260 i ws3.w259;
have bg:=ws2.w261 j h ws0.w258 bf i;
have bh:=ws2.w264 bf i (ws2.w263 ws3.w262);
have bi:=ws2.w272 a0 ws0.w271;
w_laws_FnSetupChecks ws3.w0 (ws1.w28 ws1.w1 (ws1.w27 (ws0.w26 (ws2.w18 (ws0.w10 (ws1.w8 a ws0.w3 b) (ws0.w9 a b)) (ws2.w12 a c) e (ws2.w17 a ws2.w15 f)) a d (ws2.w19 a c) j) a) a) (ws1.w193 ar av aw) (ws1.w276 be (ws0.w269 (ws3.w265 bg bh) (ws1.w266 bg bh i) (ws0.w268 (ws3.w267 j h))) (ws0.w275 ws1.w270 (ws0.w273 bi) (ws2.w274 bi bb))) (ws0.w277 ar) av (ws1.w284 (ws2.w283 (ws0.w281 x aa (ws0.w280 ak ws2.w278 ws0.w279 ah ai)) (ws0.w282 ag k)) aw)
end Go.Proofs.YtjkccpcebpeadaaGreatDoor
