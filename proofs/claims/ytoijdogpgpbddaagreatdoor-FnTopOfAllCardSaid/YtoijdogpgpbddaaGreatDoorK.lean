/-
  All functions keep their contracts.
-/
import Derived.Test.YtoijdogpgpbddaaGreatDoorW0
import Derived.Test.YtoijdogpgpbddaaGreatDoorW1
import Derived.Test.YtoijdogpgpbddaaGreatDoorW2
import Derived.Test.YtoijdogpgpbddaaGreatDoorW3
import Derived.Test.YtoijdogpgpbddaaGreatDoorSxOwn
namespace Go.Proofs.YtoijdogpgpbddaaGreatDoor
open Go Go.Sx
set_option maxRecDepth 100000
set_option maxHeartbeats 100000000
set_option linter.unusedVariables false
set_option linter.unusedSimpArgs false
theorem ZO1: Sq 4 ZOJ :=
have a:=ws1.w1;
have b:=ws2.w2;
have c:=ws0.w7 b (ws2.w6 (ws2.w5 (ws0.w4 b) b));
have d:=w11;
have e:=ws0.w13;
have f:=ws1.w14 e;
have g:=ws1.w15;
have h:=ws1.w16;
have i:=ws0.w17 b g h;
have j:=ws1.w18 (ws1.w10 (ws2.w8 b ws2.w3 c) (ws1.w9 b c)) (ws0.w12 b d) f i;
have k:=ws1.w19 b j h;
have l:=ws2.w20;
have m:=ws0.w21;
have n:=ws2.w33 (ws1.w30 (ws1.w29 (ws0.w22 l m) l m (ws0.w27 m (ws2.w26 (ws0.w25 (ws1.w24 (ws2.w23 m) m)))) ws0.w28)) (ws1.w31 m) (ws1.w32 l);
have o:=ws1.w34 m;
have p:=ws2.w35 n f o;
have q:=ws2.w36 e;
have r:=ws0.w38 p e b q (ws1.w37 e b) d f i;
have s:=ws1.w42;
have t:=ws1.w55 h;
have u:=ws2.w56 (ws2.w53 (ws0.w52 h (ws1.w51 (ws1.w50 h)))) (ws1.w54 h) t;
have v:=ws2.w57 e f;
have w:=ws1.w58;
have x:=ws1.w59 f;
have y:=ws0.w63 (ws1.w49 p ws1.w39 (ws0.w40 e m) (ws2.w48 e ws0.w41 s l ws0.w43 (ws0.w45 ws0.w44) (ws1.w47 s f ws1.w46) f o)) (ws0.w62 u e (w60 e v h w g x) (ws0.w61 v f e w h x) v w x t);
have z:=ws1.w65 b r y;
have aa:=ws2.w70;
have ab:=ws1.w72 e;
have ac:=ws1.w73 q (ws0.w71 aa) ab f aa;
have ad:=ws2.w75;
have ae:=ws1.w76 ad;
have af:=ws1.w77 e;
have ag:=ws0.w82 p e b;
have ah:=ws2.w87 p ac (ws0.w86 m);
have ai:=ws1.w88 m;
have aj:=ws0.w96 h e f ws1.w95;
have ak:=ws0.w97 e aj;
have al:=ws0.w99;
have am:=ws2.w100 ws2.w98 al;
have an:=ws0.w101 e;
have ao:=ws0.w102 aj;
have ap:=ws1.w113 (ws0.w93 p (ws2.w85 m l) ah (ws2.w90 af m ai ws2.w89) (ws2.w92 ah ac af ae ws0.w91)) ac ae (ws1.w112 af ws1.w94 (ws1.w111 (ws0.w109 (ws2.w105 ak am an (ws0.w103 ao al) ws2.w104 al) (ws2.w108 ak am an (ws1.w107 ao ws2.w106 al))) ws0.w110) ai);
have aq:=ws0.w117 n e m;
have ar:=ws0.w121;
have au:=ws2.w122 ar Zq9 Zl8;
have av:=ws2.w123;
have aw:=ws2.w124;
have ax:=ws1.w126 au (ws2.w125 aw);
have ay:=ws2.w129;
have az:=ws0.w133 (ws0.w132 (ws0.w131 (ws2.w130 ar)));
have a0:=ws2.w134;
have a1:=ws0.w145 av;
have a2:=ws0.w158 (ws2.w157 au (ws1.w127 ar av ax) (ws1.w151 (ws2.w147 ws2.w128 (ws2.w141 (ws0.w140 (ws2.w139 (ws2.w138 (ws1.w136 (ws2.w135 ay ar az a0) az) ws2.w137)))) (ws1.w144 (ws2.w143 ws2.w142)) (ws2.w146 a1 ar) a1 ar) (ws2.w150 (ws0.w149 ws1.w148))) ar (ws1.w156 a1 az (ws1.w155 (ws1.w154 (ws1.w153 ws2.w152))))) ax;
have a3:=ws1.w160;
have a4:=ws1.w161;
have a5:=ws2.w162 a4 ar;
have a6:=ws2.w171;
have a7:=ws2.w173 ay ar (ws1.w172 ar) az;
have a8:=ws2.w174 (ws2.w170 a2 (ws0.w159 ax) (ws1.w166 a3 ar (ws0.w165 (ws0.w164 (ws0.w163 a5)))) a5 (ws2.w169 (ws0.w168 ws0.w167))) a6 a7;
have a9:=ws2.w179;
have ba:=ws2.w180 a6;
have bb:=ws1.w182 a9 a6 ba ws1.w181;
have bc:=ws2.w185 a6 (ws0.w178 ws0.w177) ay bb (ws0.w184 (ws2.w183 bb));
have bd:=ws0.w186;
have be:=ws2.w187 bd;
have bf:=ws1.w188;
have bg:=ws0.w191 (ws2.w190 ar);
have bh:=ws0.w193 bg (ws1.w192 ar);
have bi:=ws0.w194 be bf ws2.w189 bg bh;
have bj:=ws0.w198 (ws2.w197 be ar) bg bh;
have bk:=ws0.w207 a8 (ws1.w176 au ws2.w175) bc bi (ws1.w196 ws0.w195 az a0) bj ws0.w199 (ws1.w206 be (ws1.w201 ws0.w200) ws2.w202 (ws1.w205 (ws2.w204 ws0.w203)));
have bl:=ws1.w208 be;
have bm:=ws1.w216 (ws0.w215 ws1.w214);
have bn:=ws0.w217;
have bo:=ws2.w218;
have bp:=ws1.w224;
have bq:=ws2.w225 (ws2.w223 (ws1.w222 (ws2.w220 ws2.w219) ws1.w221)) bp;
have br:=ws1.w234 (ws1.w211 (ws2.w210 ws0.w209)) (ws2.w213 ws1.w212) bm (ws1.w232 (ws0.w228 bn bo bq bp ws1.w226 (ws1.w227 bp)) bn (ws0.w231 bn bo bq (ws0.w230 ws1.w229 bp))) ws2.w233;
have bs:=ws0.w245;
have bt:=ws1.w253 a8 (ws1.w252 (ws2.w241 ar ws0.w237 (ws2.w240 (ws0.w239 ws1.w238)) a6 bd a3 a5 ay) (ws0.w251 a6 (ws2.w244 (ws2.w243 ws0.w242)) bs au (ws2.w248 (ws1.w247 ws1.w246)) (ws0.w249 aw) (ws1.w250 a4 bs) ay a7));
have bu:=ws2.w262 a9;
have bv:=ws1.w263 (ZN3 ws1.w254 a9 ws2.w255 (ws0.w256 a9)) (ZN4 ws0.w258 ws2.w259 ws1.w260 a9) bu;
have bw:=ws0.w264 a6;
have bx:=ws1.w265;
have bz:=ws0.w266;
have b0:=ws2.w267 a6;
have b1:=ws0.w269 bw a6 a4 ba bz b0;
have b2:=ws0.w270 bv a6 (ws1.w268 bw a6 a4 bx bz b0) b1 bw bz b0 bu;
have b3:=ws0.w272 bx a6;
have b4:=ws0.w274;
have b5:=ws2.w275 bt bc bj b3 ws1.w273 b4;
have b6:=ZN7 ZN6;
have b7:=ws0.w299;
have b8:=ZN9 (ws2.w116 n e) (ws2.w118 aq) (ws0.w119 aq) (ws0.w120 n ab) (ws0.w236 bk (ws2.w235 bl br bg)) ap (ws0.w271 bt b2) (ws2.w291 b5 (ws0.w277 bt bc bi (ws1.w276 b2 bc bl b3 bf b4)) b2 (ZN8 (ZN5 a6 a9 a4 Zvy Zq8) b2 a6 b6) (ws0.w290 bk (ws2.w282 be az a0) (ws1.w285 ws0.w283 ws0.w284) (ws2.w289 be b6 bm (ws1.w288 (ws0.w287 ws1.w286)) br bg))) (ZE1 rfl y) (ws0.w296 bt (ws1.w295 a6 bv b1 (ws2.w294 a6 (ws2.w293 ws2.w292)) bw bu)) b5 (ws0.w298 ws0.w297) (ws2.w302 (ws2.w300 b7) (ws0.w301 b7));
have b9:=ws0.w305;
have ca:=ws1.w306 b9;
have cb:=ws1.w307 ca b9;
have cc:=ws0.w308 b9;
have cd:=ws1.w311 ca cc;
have ce:=ws1.w325 cd;
w_laws_FnTopOfAll (w_laws_FnTop ws1.w0 (ws0.w66 a k z b r) ws2.w67 (ws1.w115 a (ZN2 (w83 (ws2.w68 b k j) (w69 b) b j (ws0.w74 p b ac) p (ws0.w81 ac ae af (ws2.w80 ws2.w78 ws1.w79) ad) ag) p b z (ws1.w84 p u y) ag r ap)) b8) (ws1.w327 (ws2.w318 (ws1.w317 ca (ws1.w316 cb cc (ws2.w310 ca (ws1.w309 cb cc b9)) (ws1.w315 ca (ws1.w314 cc (ws0.w313 ca (ws0.w312 cd)))) cd))) (ws2.w324 (ws2.w320 ca (ws1.w319 cb cc cd)) (ws2.w321 ca cb) (ws0.w323 ca (ws0.w322 cb cc))) (ws1.w326 ca ce)) (ws2.w329 ca (ws2.w328 cc cb ce)) (ws0.w330 cb cc) b8
end Go.Proofs.YtoijdogpgpbddaaGreatDoor
