/-
  All functions keep their contracts.
-/
import Derived.Test.YtjkccpcebpeadaaGreatDoorW0
import Derived.Test.YtjkccpcebpeadaaGreatDoorW1
import Derived.Test.YtjkccpcebpeadaaGreatDoorW2
import Derived.Test.YtjkccpcebpeadaaGreatDoorW3
namespace Go.Proofs.YtjkccpcebpeadaaGreatDoor
open Go Go.Sx
set_option maxRecDepth 100000
set_option maxHeartbeats 100000000
set_option linter.unusedVariables false
set_option linter.unusedSimpArgs false
theorem Zjo: Sq 3 ZfN :=
have a:=ws0.w2;
have b:=ws1.w7 a (ws2.w6 (ws0.w5 (ws2.w4 a) a));
have c:=w11;
have d:=ws2.w13;
have e:=ws1.w14 d;
have f:=ws2.w16;
have g:=ws2.w20;
have h:=ws1.w21;
have i:=w24;
have j:=ws2.w25 (ws1.w22 g h) (ws1.w23 h) h i;
have k:=ws0.w29;
have l:=ws0.w30 k ZoR Zj3;
have m:=ws2.w31;
have n:=ws2.w34 l (ws1.w33 ws1.w32);
have o:=ws0.w37;
have p:=ws2.w41 (ws1.w40 (ws2.w39 (ws0.w38 k)));
have q:=ws1.w42;
have r:=ws0.w53 m;
have s:=ws2.w70 ws1.w69 k;
have t:=ws2.w78 (ws1.w66 (ws0.w65 l (ws1.w35 k m n) (ws0.w59 (ws2.w55 ws0.w36 (ws0.w49 (ws1.w48 (ws2.w47 (ws2.w46 (ws2.w44 (ws0.w43 o k p q) p) ws1.w45)))) (ws2.w52 (ws1.w51 ws1.w50)) (ws1.w54 r k) r k) (ws0.w58 (ws1.w57 ws2.w56))) k (ws2.w64 r p (ws0.w63 (ws2.w62 (ws0.w61 ws2.w60))))) n) (ws2.w67 n) (ws0.w74 ws1.w68 k (ws2.w73 (ws1.w72 (ws2.w71 s)))) s (ws0.w77 (ws0.w76 ws1.w75));
have u:=ws2.w79;
have v:=ws2.w82 t u (ws0.w81 o k (ws1.w80 k) p);
have w:=ws1.w85;
have x:=ws2.w88 w u (ws0.w86 u) ws2.w87;
have y:=ws2.w91 u (ws1.w84 ws0.w83) o x (ws0.w90 (ws1.w89 x));
have z:=w94;
have aa:=ws1.w97;
have ab:=ws0.w98 aa k;
have ac:=ws1.w103 (ws1.w102 k);
have ad:=ws1.w105 ac (ws1.w104 k);
have ae:=ws2.w113 l ws0.w112;
have af:=ws2.w114;
have ag:=ws0.w117 v y (ws2.w116 ws0.w92 (ws2.w96 (ws1.w95 k (ws1.w93 k) z) n) (ws1.w101 (ws0.w100 (ws2.w99 ab))) (ws2.w106 ab k ac ad) (ws0.w111 (ws2.w110 (ws1.w109 (ws2.w108 aa p (ws2.w107 k) q)))) (ws0.w115 ae af k n));
have ah:=ws0.w118 aa;
have ai:=ws0.w125 ah (ws1.w120 ws2.w119) ws0.w121 (ws0.w124 (ws2.w123 ws0.w122));
have aj:=ws0.w137 (ws1.w126 ai) (ws1.w132 ah (ws1.w128 ah ws2.w127 w) (ws0.w131 (ws0.w130 ws1.w129))) (ws1.w136 (ws0.w135 (ZIp ZIo))) ZsJ;
have ak:=ws2.w138;
have al:=ws1.w142 (ws0.w141 ws2.w140);
have am:=ws2.w143 (ws0.w139 z) z ZoQ al;
have an:=ws2.w150;
have ao:=ws1.w151;
have ap:=ws2.w157;
have aq:=ws0.w158 (ws1.w156 (ws1.w155 (ws0.w153 ws0.w152) ws0.w154)) ap;
have ar:=ws1.w168 (ws0.w144 ah) (ws1.w167 al (ws1.w146 ws1.w145) (ws1.w149 (ws0.w148 ws1.w147)) (ws1.w165 (ws0.w161 an ao aq ap ws1.w159 (ws2.w160 ap)) an (ws0.w164 an ao aq (ws2.w163 ws2.w162 ap))) ws2.w166) ac;
have au:=ws0.w184 (ws1.w182 (ws0.w179 (ws2.w178 (ws2.w171 g h) g h (ws1.w176 h (ws0.w175 (ws2.w174 (ws1.w173 (ws1.w172 h) h)))) ws0.w177)) (ws0.w180 h) (ws0.w181 g)) e (ws1.w183 h);
have av:=ws2.w185 h g;
have aw:=ws1.w190;
have ax:=ws2.w194;
have ay:=ws2.w197 (ws1.w193 d) (ws1.w195 ax) (ws1.w196 d) e ax;
have az:=ws1.w198;
have a0:=ws2.w199 az;
have a1:=ws2.w200 d;
have a2:=ws2.w208 au ay (ws2.w207 h);
have a3:=ws2.w209 h;
have a4:=ws1.w216 f d e ws1.w215;
have a5:=ws1.w217 d a4;
have a6:=ws2.w219;
have a7:=ws0.w220 ws2.w218 a6;
have a8:=ws0.w221 d;
have a9:=ws1.w222 a4;
have ba:=ws2.w234 (ws0.w192 au j (ws1.w186 av) d (ws1.w189 au (ws2.w188 (ws0.w187 d) h) h) (ws2.w191 d h aw)) h (ws1.w204 ay a0 a1 (ws0.w203 ws2.w201 ws1.w202) az) (ws1.w206 i ws1.w205) (ws2.w233 (ws0.w213 au av a2 (ws2.w210 a1 h a3 aw) (ws2.w212 a2 ay a1 a0 ws1.w211)) ay a0 (ws0.w232 a1 ws0.w214 (ws1.w231 (ws1.w229 (ws1.w225 a5 a7 a8 (ws0.w223 a9 a6) ws0.w224 a6) (ws0.w228 a5 a7 a8 (ws2.w227 a9 ws0.w226 a6))) ws2.w230) a3));
w_laws_FnSetupTiming ws1.w0 (ws0.w28 ws2.w1 (ws1.w27 (ws0.w26 (ws2.w18 (ws2.w10 (ws2.w8 a ws0.w3 b) (ws2.w9 a b)) (ws2.w12 a c) e (ws1.w17 a ws0.w15 f)) a d (ws2.w19 a c) j) a) a) (ws1.w170 (ws0.w169 ag af k y aj ak am ai ar)) ba (ws2.w235 ag am) (ws0.w236 v y aj) (ws0.w245 (ws1.w244 v ae y (ws1.w239 ah ws0.w237 ws2.w238 ac ad) (ws1.w241 ws0.w240 p q) (ws2.w243 (ws1.w242 ah k) ac ad) ak ai) ar) (ws2.w247 ws0.w246) (ws1.w248 v u aa)
end Go.Proofs.YtjkccpcebpeadaaGreatDoor
