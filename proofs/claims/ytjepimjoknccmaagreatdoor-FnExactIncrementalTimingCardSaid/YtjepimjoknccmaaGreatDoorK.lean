/-
  All functions keep their contracts.
-/
import Derived.Test.YtjepimjoknccmaaGreatDoorW0
import Derived.Test.YtjepimjoknccmaaGreatDoorW1
import Derived.Test.YtjepimjoknccmaaGreatDoorW2
import Derived.Test.YtjepimjoknccmaaGreatDoorW3
namespace Go.Proofs.YtjepimjoknccmaaGreatDoor
open Go Go.Sx
set_option maxRecDepth 100000
set_option maxHeartbeats 6400000
set_option linter.unusedVariables false
set_option linter.unusedSimpArgs false
theorem ZfY: Sq 3 ZaU :=
have a:=ws0.w2;
have b:=ws2.w16 a;
have c:=ws0.w27;
have d:=ws1.w41 c;
have e:=ws1.w46;
have f:=ws2.w52;
have g:=ws0.w53;
have h:=ws0.w66;
have i:=ws0.w67 h;
have j:=ws2.w68 g;
have k:=ws1.w69 (ws2.w65 (ws1.w62 (ws2.w61 (ws1.w54 f g) f g (ws2.w59 g (ws2.w58 (ws1.w57 (ws1.w56 (ws1.w55 g) g)))) ws2.w60)) (ws2.w63 g) (ws0.w64 f)) i j;
have l:=ws1.w73;
have m:=ws0.w80 k ws0.w70 (ws1.w71 h g) (ws1.w79 h ws2.w72 l f ws2.w74 (ws2.w76 ws1.w75) (ws2.w78 l i ws2.w77) i j);
have n:=ws1.w81 h;
have o:=ws0.w82 g;
have p:=ws1.w83;
have q:=ws0.w84 n g o p;
have r:=ws2.w85 h;
have s:=ws0.w88 o p;
have t:=ws1.w90;
have u:=ws0.w96 t;
have v:=ws1.w98 h i;
have w:=ws2.w99;
have x:=ws1.w101 i;
have y:=ws0.w104 (ws0.w97 (ws1.w94 (ws1.w93 t (ws1.w92 (ws2.w91 t)))) (ws1.w95 t) u) h (ZPO h v t w ws2.w100 x) (ws1.w103 v i h w t x) v w x u;
have z:=ZPQ;
have aa:=ws1.w111 g f;
have ab:=ws1.w113;
have ac:=ws2.w116 (ws1.w112 h) (ws1.w114 ab) (ws0.w115 h) i ab;
have ad:=ws0.w117 g;
have ae:=ws2.w118 k ac ad;
have af:=ws2.w120 ws0.w119;
have ag:=ws2.w122 ae ac n af ws1.w121;
have ah:=ws2.w128 t h i ws2.w127;
have ai:=ws1.w129 h ah;
have aj:=ws0.w131;
have ak:=ws2.w132 ws2.w130 aj;
have al:=ws1.w133 h;
have am:=ws2.w134 ah;
have an:=ws1.w147 (ws0.w87 m q (ws2.w86 r)) (ws0.w107 m (ws2.w89 k n s) (ws2.w106 y n ws2.w105 r)) y (ZPR (ZPP h) y h z) (ws0.w146 (ws2.w124 k aa n s (ws1.w123 k aa ae q ag)) (ws2.w125 n ad) (ws1.w145 ac af ag ws1.w126 n z (ws0.w143 (ws1.w141 (ws2.w137 ai ak al (ws1.w135 am aj) ws1.w136 aj) (ws2.w140 ai ak al (ws2.w139 am ws1.w138 aj))) ws2.w142) o ws2.w144));
have ao:=ws2.w148;
have ap:=ws2.w149 ao ZsV Znk;
have aq:=ws0.w150;
have ar:=ws2.w151;
have au:=ws1.w153 ap (ws1.w152 ar);
have av:=ws1.w156;
have aw:=ws1.w160 (ws0.w159 (ws2.w158 (ws1.w157 ao)));
have ax:=ws1.w161;
have ay:=ws0.w172 aq;
have az:=ws0.w185 (ws0.w184 ap (ws0.w154 ao aq au) (ws1.w178 (ws2.w174 ws2.w155 (ws2.w168 (ws0.w167 (ws0.w166 (ws2.w165 (ws0.w163 (ws0.w162 av ao aw ax) aw) ws0.w164)))) (ws0.w171 (ws0.w170 ws0.w169)) (ws2.w173 ay ao) ay ao) (ws2.w177 (ws2.w176 ws0.w175))) ao (ws2.w183 ay aw (ws1.w182 (ws1.w181 (ws0.w180 ws2.w179))))) au;
have a0:=ws1.w187;
have a1:=ws1.w188;
have a2:=ws1.w189 a1 ao;
have a3:=ws0.w198;
have a4:=ws0.w200 av ao (ws2.w199 ao) aw;
have a5:=ws0.w201 (ws2.w197 az (ws1.w186 au) (ws1.w193 a0 ao (ws0.w192 (ws0.w191 (ws1.w190 a2)))) a2 (ws2.w196 (ws1.w195 ws0.w194))) a3 a4;
have a6:=ws1.w206;
have a7:=ws0.w211;
have a8:=ws1.w219 a5 (ws1.w218 (ws0.w207 ao ws0.w202 (ws2.w205 (ws1.w204 ws1.w203)) a3 a6 a0 a2 av) (ws0.w217 a3 (ws2.w210 (ws0.w209 ws0.w208)) a7 ap (ws1.w214 (ws0.w213 ws2.w212)) (ws0.w215 ar) (ws1.w216 a1 a7) av a4));
have a9:=ws0.w222;
have ba:=ws2.w223 a3;
have bb:=ws0.w225 a9 a3 ba ws1.w224;
have bc:=ws0.w228 a3 (ws1.w221 ws0.w220) av bb (ws2.w227 (ws2.w226 bb));
have bd:=ws2.w229 a6;
have be:=ws1.w232 (ws2.w231 ao);
have bf:=ws0.w234 be (ws0.w233 ao);
have bg:=ws2.w235 (ws0.w230 bd ao) be bf;
have bh:=ws2.w236;
have bi:=ws1.w237 bh a3;
have bj:=ws1.w239;
have bk:=ws1.w241;
have bl:=ws0.w243 bd bk ws0.w242 be bf;
have bm:=ws2.w252 a9;
have bn:=ws1.w254 a3;
have bo:=ws2.w255;
have bp:=ws0.w256 a3;
have bq:=ws0.w259 (ws0.w253 (ZPS ws2.w244 a9 ws0.w245 (ws2.w246 a9)) (ZPT ws0.w248 ws2.w249 ws0.w250 a9) bm) a3 (ws1.w257 bn a3 a1 bh bo bp) (ws1.w258 bn a3 a1 ba bo bp) bn bo bp bm;
have br:=ZPW ZPV;
have bs:=ws2.w286 (ws0.w285 ws1.w284);
have bt:=ws0.w295;
have bu:=ws0.w296;
have bv:=ws1.w302;
have bw:=ws2.w303 (ws2.w301 (ws0.w300 (ws0.w298 ws0.w297) ws2.w299)) bv;
have bx:=ws0.w314 (ws1.w279 a5 (ws2.w268 ap ws2.w267) bc bl (ws1.w270 ws2.w269 aw ax) bg ws0.w271 (ws1.w278 bd (ws1.w273 ws0.w272) ws0.w274 (ws2.w277 (ws2.w276 ws2.w275)))) (ws0.w280 bd aw ax) (ws1.w283 ws1.w281 ws1.w282) (ws0.w313 bd br bs (ws1.w289 (ws1.w288 ws2.w287)) (ws2.w312 (ws1.w292 (ws0.w291 ws2.w290)) (ws1.w294 ws1.w293) bs (ws0.w310 (ws0.w306 bt bu bw bv ws2.w304 (ws0.w305 bv)) bt (ws2.w309 bt bu bw (ws0.w308 ws1.w307 bv))) ws2.w311) be);
have bz:=ws2.w317;
have b0:=ws0.w320;
have b1:=ws2.w336 b0;
have b2:=ws1.w342;
have b3:=ws0.w344;
w_laws_FnExactIncrementalTiming (ws2.w18 (ws1.w9 (ws0.w8 (ws0.w7 (ws2.w1 ws0.w0) (ws0.w6 (ws0.w5 (ws2.w4 (ws2.w3 a)))) a))) (ws0.w15 (ws1.w11 (ws0.w10 a)) ws0.w12 (ws1.w14 ws1.w13)) (ws2.w17 b)) (ws2.w19 b) ws2.w20 ws1.w21 (ws2.w24 ws0.w22 ws2.w23) (ws1.w43 (ws0.w34 (ws1.w33 (ws2.w32 (ws1.w26 ws2.w25) (ws0.w31 (ws1.w30 (ws1.w29 (ws0.w28 c)))) c))) (ws1.w40 (ws2.w36 (ws2.w35 c)) ws1.w37 (ws2.w39 ws0.w38)) (ws1.w42 d)) (ws1.w44 d) ws1.w45 (ws1.w48 (ws1.w47 e)) (ws0.w51 ws1.w49 (ws0.w50 e)) an (ws2.w315 (ws2.w240 a8 bc bg bi ws2.w238 bj) (ws1.w262 a8 bc bl (ws0.w261 bq bc (ws0.w260 bd) bi bk bj)) bq (ZPX (ZPU a3 a9 a1 ZwV ZsU) bq a3 br) bx) (ws1.w319 ws1.w316 (ws2.w318 bz)) b0 (ws1.w338 (ws2.w329 (ws1.w328 (ws1.w327 (ws1.w322 ws0.w321) (ws2.w326 (ws2.w325 (ws2.w324 (ws1.w323 b0)))) b0))) (ws0.w335 (ws1.w331 (ws2.w330 b0)) ws0.w332 (ws0.w334 ws2.w333)) (ws0.w337 b1)) (ws0.w339 b1) (ws0.w341 (ws0.w340 bz)) (ws1.w354 (ws0.w348 (ws2.w347 b2 (ws0.w343 b2) (ws2.w346 (ws1.w345 b3)) b3)) (ws2.w352 (ws0.w349 b2 b3) (ws1.w350 b2) (ws2.w351 b2)) (ws0.w353 b3)) (ws0.w356 (ws2.w355 b3)) ws2.w357 (ws1.w360 ws2.w358 ws2.w359) b3 (ws0.w363 ws1.w361 ws2.w362) ws1.w364
end Go.Proofs.YtjepimjoknccmaaGreatDoor
