/-
  All functions keep their contracts.
-/
import Derived.Test.YtcjminfjgckdlaaGreatDoorW0
import Derived.Test.YtcjminfjgckdlaaGreatDoorW1
import Derived.Test.YtcjminfjgckdlaaGreatDoorW2
import Derived.Test.YtcjminfjgckdlaaGreatDoorW3
namespace Go.Proofs.YtcjminfjgckdlaaGreatDoor
open Go Go.Sx
set_option maxRecDepth 100000
set_option maxHeartbeats 100000000
set_option linter.unusedVariables false
set_option linter.unusedSimpArgs false
theorem Zk1: Sq 4 ZgX :=
have a:=ws2.w2;
have b:=ws0.w7 a (ws1.w6 (ws0.w5 (ws2.w4 a) a));
have c:=w11;
have d:=ws3.w13;
have e:=ws1.w14 d;
have f:=ws2.w15;
have g:=ws1.w16;
have h:=ws2.w17 a f g;
have i:=ws0.w18 (ws1.w10 (ws1.w8 a ws1.w3 b) (ws0.w9 a b)) (ws1.w12 a c) e h;
have j:=ws0.w22;
have k:=ws1.w23;
have l:=ws1.w36 k;
have m:=ws2.w37 (ws3.w35 (ws1.w32 (ws0.w31 (ws2.w24 j k) j k (ws1.w29 k (ws3.w28 (ws2.w27 (ws1.w26 (ws1.w25 k) k)))) ws2.w30)) (ws0.w33 k) (ws3.w34 j)) e l;
have n:=ws2.w38 d;
have o:=ws0.w39;
have p:=ws0.w42 n (ws3.w40 o) (ws3.w41 d) e o;
have q:=ws2.w44;
have r:=ws2.w45 q;
have s:=ws2.w46 d;
have t:=ws1.w51 m d a;
have u:=ws0.w54 m d a n (ws1.w53 d a) c e h;
have v:=ws1.w58;
have w:=ws3.w65 m ws3.w55 (ws2.w56 d k) (ws0.w64 d ws2.w57 v j ws3.w59 (ws1.w61 ws2.w60) (ws0.w63 v e ws1.w62) e l);
have x:=ws2.w71 g;
have y:=ws3.w72 (ws0.w69 (ws1.w68 g (ws2.w67 (ws2.w66 g)))) (ws0.w70 g) x;
have z:=ws1.w73 d e;
have aa:=ws0.w74;
have ab:=ws3.w75 e;
have ac:=ws2.w79 w (ws2.w78 y d (w76 d z g aa f ab) (ws0.w77 z e d aa g ab) z aa ab x);
have ad:=ws3.w84 m p (ws2.w83 k);
have ae:=ws3.w85 k;
have af:=ws0.w87 s k ae ws3.w86;
have ag:=ws2.w93 g d e ws0.w92;
have ah:=ws1.w94 d ag;
have ai:=ws1.w96;
have aj:=ws3.w97 ws3.w95 ai;
have ak:=ws3.w98 d;
have al:=ws3.w99 ag;
have am:=ws0.w110 (ws0.w90 m (ws0.w82 k j) ad af (ws0.w89 ad p s r ws1.w88)) p r (ws2.w109 s ws2.w91 (ws1.w108 (ws0.w106 (ws1.w102 ah aj ak (ws1.w100 al ai) ws1.w101 ai) (ws2.w105 ah aj ak (ws2.w104 al ws2.w103 ai))) ws1.w107) ae);
have an:=ws3.w113;
have ao:=ws3.w114 an Zq7 ZlJ;
have ap:=ws0.w115;
have aq:=ws3.w116;
have ar:=ws3.w118 ao (ws1.w117 aq);
have au:=ws1.w121;
have av:=ws2.w125 (ws3.w124 (ws0.w123 (ws3.w122 an)));
have aw:=ws3.w126;
have ax:=ws0.w137 ap;
have ay:=ws3.w150 (ws2.w149 ao (ws2.w119 an ap ar) (ws2.w143 (ws0.w139 ws3.w120 (ws0.w133 (ws1.w132 (ws1.w131 (ws3.w130 (ws1.w128 (ws0.w127 au an av aw) av) ws2.w129)))) (ws3.w136 (ws0.w135 ws2.w134)) (ws1.w138 ax an) ax an) (ws0.w142 (ws0.w141 ws3.w140))) an (ws1.w148 ax av (ws2.w147 (ws1.w146 (ws2.w145 ws1.w144))))) ar;
have az:=ws1.w152;
have a0:=ws2.w153;
have a1:=ws0.w154 a0 an;
have a2:=ws0.w163;
have a3:=ws0.w165 au an (ws2.w164 an) av;
have a4:=ws3.w166 (ws1.w162 ay (ws2.w151 ar) (ws1.w158 az an (ws3.w157 (ws3.w156 (ws1.w155 a1)))) a1 (ws2.w161 (ws3.w160 ws0.w159))) a2 a3;
have a5:=ws0.w171;
have a6:=ws0.w172 a2;
have a7:=ws3.w174 a5 a2 a6 ws0.w173;
have a8:=ws3.w177 a2 (ws2.w170 ws2.w169) au a7 (ws3.w176 (ws2.w175 a7));
have a9:=ws2.w178;
have ba:=ws0.w179 a9;
have bb:=ws2.w180;
have bc:=ws0.w183 (ws0.w182 an);
have bd:=ws0.w185 bc (ws2.w184 an);
have be:=ws2.w186 ba bb ws3.w181 bc bd;
have bf:=ws0.w188 ws2.w187 av aw;
have bg:=ws0.w190 (ws3.w189 ba an) bc bd;
have bh:=ws0.w191;
have bi:=ws2.w199 a4 (ws0.w168 ao ws0.w167) a8 be bf bg bh (ws3.w198 ba (ws2.w193 ws0.w192) ws1.w194 (ws1.w197 (ws3.w196 ws3.w195)));
have bj:=ws2.w200 ba;
have bk:=ws0.w208 (ws1.w207 ws0.w206);
have bl:=ws0.w209;
have bm:=ws3.w210;
have bn:=ws2.w216;
have bo:=ws1.w217 (ws1.w215 (ws3.w214 (ws0.w212 ws3.w211) ws3.w213)) bn;
have bp:=ws2.w226 (ws1.w203 (ws1.w202 ws1.w201)) (ws0.w205 ws2.w204) bk (ws3.w224 (ws3.w220 bl bm bo bn ws3.w218 (ws0.w219 bn)) bl (ws0.w223 bl bm bo (ws0.w222 ws3.w221 bn))) ws0.w225;
have bq:=ws2.w237;
have br:=ws2.w245 a4 (ws2.w244 (ws2.w233 an ws3.w229 (ws3.w232 (ws2.w231 ws2.w230)) a2 a9 az a1 au) (ws0.w243 a2 (ws3.w236 (ws1.w235 ws3.w234)) bq ao (ws1.w240 (ws3.w239 ws3.w238)) (ws3.w241 aq) (ws2.w242 a0 bq) au a3));
have bs:=ws0.w246;
have bt:=ws3.w247 bs a2;
have bu:=ws3.w249;
have bv:=ws1.w250 br a8 bg bt ws2.w248 bu;
have bw:=ws3.w259 a5;
have bx:=ws0.w261 a2;
have bz:=ws3.w262;
have b0:=ws1.w263 a2;
have b1:=ws2.w266 (ws1.w260 (ZMU ws3.w251 a5 ws0.w252 (ws1.w253 a5)) (ZMV ws2.w255 ws1.w256 ws1.w257 a5) bw) a2 (ws3.w264 bx a2 a0 bs bz b0) (ws3.w265 bx a2 a0 a6 bz b0) bx bz b0 bw;
have b2:=ZMY ZMX;
have b3:=ZMZ (ZMW a2 a5 a0 Zve Zq6) b1 a2 b2;
have b4:=ws1.w273 ba av aw;
w_laws_FnIncremental ws1.w0 (ws3.w112 ws1.w1 (ZMT (w52 (ws0.w20 a (ws3.w19 a i g) i) (w21 a) a i (ws2.w43 m a p) m (ws3.w50 p r s (ws0.w49 ws3.w47 ws1.w48) q) t) m a (ws3.w80 a u ac) (ws1.w81 m y ac) t u am)) (ws0.w228 bi (ws1.w227 bj bp bc)) am (ws2.w282 bv (ws1.w268 br a8 be (ws1.w267 b1 a8 bj bt bb bu)) b1 b3 (ws0.w281 bi b4 (ws1.w276 ws2.w274 ws0.w275) (ws2.w280 ba b2 bk (ws2.w279 (ws1.w278 ws2.w277)) bp bc))) (ws0.w283 br b1) bv (ws0.w286 w af (ws1.w285 (ws3.w284 d))) (ZM0 br b3) (ws3.w292 (ws1.w288 a4 a8 bf bh) b4 (ws1.w290 ba ws2.w289 a5) ws1.w291) ws1.w293 (ws0.w295 ws0.w294)
end Go.Proofs.YtcjminfjgckdlaaGreatDoor
