/-
  All functions keep their contracts.
-/
import Derived.Test.YtmihfdfjccociaaGreatDoorW0
import Derived.Test.YtmihfdfjccociaaGreatDoorW1
import Derived.Test.YtmihfdfjccociaaGreatDoorW2
import Derived.Test.YtmihfdfjccociaaGreatDoorW3
namespace Go.Proofs.YtmihfdfjccociaaGreatDoor
open Go Go.Sx
set_option maxRecDepth 100000
set_option maxHeartbeats 100000000
set_option linter.unusedVariables false
set_option linter.unusedSimpArgs false
theorem Zfa: Sq 3 Zcq :=
have a:=ws0.w2;
have b:=ws3.w7 a (ws1.w6 (ws2.w5 (ws2.w4 a) a));
have c:=w11;
have d:=ws1.w13;
have e:=ws2.w14 d;
have f:=ws3.w20;
have g:=ws0.w21;
have h:=w24;
have i:=ws3.w25 (ws2.w22 f g) (ws0.w23 g) g h;
have j:=ws2.w29;
have k:=ws3.w30 j Zj7 Zf8;
have l:=ws0.w31;
have m:=ws1.w34 k (ws1.w33 ws0.w32);
have n:=ws0.w37;
have o:=ws2.w41 (ws3.w40 (ws2.w39 (ws3.w38 j)));
have p:=ws3.w42;
have q:=ws1.w53 l;
have r:=ws3.w70 ws1.w69 j;
have s:=ws3.w78 (ws3.w66 (ws2.w65 k (ws3.w35 j l m) (ws2.w59 (ws3.w55 ws2.w36 (ws2.w49 (ws0.w48 (ws1.w47 (ws2.w46 (ws1.w44 (ws0.w43 n j o p) o) ws2.w45)))) (ws3.w52 (ws1.w51 ws3.w50)) (ws1.w54 q j) q j) (ws0.w58 (ws2.w57 ws2.w56))) j (ws2.w64 q o (ws1.w63 (ws1.w62 (ws3.w61 ws3.w60))))) m) (ws3.w67 m) (ws1.w74 ws2.w68 j (ws3.w73 (ws0.w72 (ws0.w71 r)))) r (ws2.w77 (ws3.w76 ws1.w75));
have t:=ws3.w79;
have u:=ws3.w82 s t (ws2.w81 n j (ws1.w80 j) o);
have v:=ws2.w88 ws3.w85 t (ws1.w86 t) ws3.w87;
have w:=ws3.w91 t (ws0.w84 ws1.w83) n v (ws3.w90 (ws2.w89 v));
have x:=w94;
have y:=ws3.w97;
have z:=ws2.w98 y j;
have aa:=ws0.w102 j;
have ab:=ws1.w103 aa;
have ac:=ws2.w105 ab (ws1.w104 j);
have ad:=ws1.w117 u w (ws2.w116 ws1.w92 (ws3.w96 (ws1.w95 j (ws0.w93 j) x) m) (ws3.w101 (ws2.w100 (ws2.w99 z))) (ws2.w106 z j ab ac) (ws1.w111 (ws1.w110 (ws2.w109 (ws3.w108 y o (ws1.w107 j) p)))) (ws2.w115 (ws2.w113 k ws0.w112) ws3.w114 j m));
have ae:=ws3.w139 (ws1.w137 (ws2.w134 (ws3.w133 (ws1.w126 f g) f g (ws3.w131 g (ws0.w130 (ws1.w129 (ws1.w128 (ws1.w127 g) g)))) ws0.w132)) (ws2.w135 g) (ws2.w136 f)) e (ws1.w138 g);
have af:=ws1.w147 ae i (ws3.w141 (ws3.w140 g f)) d (ws2.w144 ae (ws1.w143 (ws3.w142 d) g) g) (ws2.w146 d g ws1.w145);
have ag:=ws0.w152 (ws0.w151 y) j;
w_laws_FnSetupSources ws2.w0 (ws1.w28 ws2.w1 (ws1.w27 (ws0.w26 (ws1.w18 (ws1.w10 (ws1.w8 a ws1.w3 b) (ws2.w9 a b)) (ws2.w12 a c) e (ws1.w17 a ws3.w15 ws1.w16)) a d (ws2.w19 a c) i) a)) (ws3.w123 ad (ws3.w122 (ws1.w118 x) x Zj6 (ws2.w121 (ws0.w120 ws2.w119)))) (ws0.w125 ad (ws0.w124 x)) af (ws0.w150 af (ws3.w149 h ws1.w148)) (ws0.w154 u w (ws2.w153 ag ab ac)) (ws3.w157 u w (ws3.w156 ag (ws0.w155 aa)))
end Go.Proofs.YtmihfdfjccociaaGreatDoor
