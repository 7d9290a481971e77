/- Joined texts. -/
import Derived.Test.YtnllbjchcfpmpaaGreatDoorMWkB
set_option linter.all false
namespace Go.Proofs.YtnllbjchcfpmpaaGreatDoor
open Go.Stp Go.RowKit Go.ValP Go.Sp _root_.Go.Proofs.Tryz
set_option maxRecDepth 100000
theorem og{x0 x1:V}{g:Int}{w0:World}(f:fT x0 x1=some g):Calls prog 72 [(vA x0),(vA x1)].toArray w0 (bj λv w=>v=I g/\Ext w0 w):=by
 refine en func72 [0,1] O2 λQ a Zi Z J H h u=>?_
 clear J
 unfold fT at f
 refine rg λK k=>aZ h H O O3 O O λa p1 w X H h=>?_
 have H:HZ w0 _ _ [_] _:=H
 refine aZ h H O O3 O O λa p2 w X H h=>?_
 have H:HZ w0 _ _ O2 _:=H
 refine ae 1 h O λa h=>cz k<|nV 6 h λK k=>?_
 refine F1 O (λw X=>have H:=H.ext X;lA H 0 aQ aq O3) ?_
 refine F1 O (λw X=>have H:=H.ext X;lA H 1 aQ aq O3) ?_
 refine fC f O (λy5 f5 w X=>dC call114 (mE f5 :)) λy5 f=>?_
 refine F1 O (λw X=>have H:=H.ext X;lA H 1 aQ aq O3) ?_
 refine F1 O (λw X=>have H:=H.ext X;lA H 0 aQ aq O3) ?_
 refine fC f O (λy6 f6 w X=>dC call114 (mE f6 :)) λy6 f=>?_
 refine fE [2,3,7,10] O4 H λa w X H h=>?_
 refine zS h H 0 aq O3 O3 O2 λw H=>?_
 refine zS h H 1 aq O3 O3 O2 λw H=>?_
 refine cz k<|sq<|rg λK k=>s1 h O (ab O cB O Z3 O O) λa h=>s1 h O (l1 H 0 A3) λa h=>s1 h O (ab O cB O Z3 O O) λa h=>s1 h O (l1 H 1 A3) λa h=>sB h f O (fN O O) λz8 e8 f a h=>cN k h [2,3,15] O3 λh=>?_
 refine cI h f O (λW f=>?_) λW f=>?_
 refine fl h ?_
 refine F1 O (λw X=>have H:=H.ext X;lA H 0 aQ aq O3) ?_
 refine fC f O (λY f10 w X=>dC call115 (mD f10 :)) λY f=>?_
 refine F1 O (λw X=>have H:=H.ext X;lA H 1 aQ aq O3) ?_
 refine fC f O (λa1 f11 w X=>dC call115 (mD f11 :)) λa1 f=>?_
 refine fI f O (λw X=>bf O O) λa8 ad f=>?_
 refine bN 1 O ?_
 refine fE [4] [_] H λa w X H h=>?_
 cases f
 refine r1 u h O O ⟨O,H.out⟩
 refine ag<|sb ?_
 refine rg λK k=>s1 h O (ab O cB O Z3 O O) λa h=>s1 h O (l1 H 0 A3) λa h=>sB h f O (aD O O) λaf ao f a h=>ae 1 h O λa h=>cN k h [2,3,21] O3 λh=>?_
 refine cI h f O (λE f=>?_) λE f=>?_
 refine rg λK k=>s1 h O (ab O cB O Z9 O O) λa h=>s1 h O (l1 H 0 A9) λa h=>s1 h O (ab O cB O Z9 O O) λa h=>s1 h O (l1 H 1 A9) λa h=>?_
 obtain⟨a6,a7,f⟩:=bv f
 refine d_ (T:=Ext) (V:=I a6) h O O O ((by rw[a7];exact dC call116 (uk))) λw X a h=>?_
 have H:=H.ext X
 refine ae 1 h O λa h=>cN k h [4] [_] λh=>?_
 cases f
 refine r1 u h O O ⟨O,H.out⟩
 refine rg λK k=>s1 h O (ab O cB O Z2 O O) λa h=>s1 h O (l1 H 0 A2) λa h=>s1 h O (ab O cB O Z2 O O) λa h=>s1 h O (l1 H 1 A2) λa h=>sB h f O (bn O O) λb0 b1 f a h=>ae 1 h O λa h=>cN k h [2,3,30] O3 λh=>?_
 refine cI h f O (λF f=>?_) λF f=>?_
 refine rg λK k=>ae 1 h O λa h=>cz k ?_
 cases f
 refine r1 u h O O ⟨O,H.out⟩
 refine rg λK k=>s1 h O (ab O cB O Z2 O O) λa h=>s1 h O (l1 H 0 A2) λa h=>s1 h O (ab O cB O Z2 O O) λa h=>s1 h O (l1 H 1 A2) λa h=>sB h f O (dS O O) λb2 b3 f a h=>ae 1 h O λa h=>cN k h [36] [_] λh=>?_
 refine cI h f O (λG f=>?_) λG f=>?_
 refine rg λK k=>ae 1 h O λa h=>cz k ?_
 cases f
 refine r1 u h O O ⟨O,H.out⟩
 refine ag<|rg λK k=>ae 1 h O λa h=>cz k ?_
 cases f
 refine r1 u h O O ⟨O,H.out⟩
theorem pE{x0:List UInt8}{u:Int}{w0:World}(f:eD x0=some u) (hG:GW w0):Calls prog 132 [S x0].toArray w0 (bj λv w=>v=I u/\Ext w0 w):=by
 refine en func132 [0] [_] λQ a Zi Z Y H h hr=>?_
 clear Y
 unfold eD at f
 refine rg λK k=>ae 1 h O λa h=>cz k ?_
 obtain⟨J2,a1,f⟩:=bv f
 refine dA (λa w=>∃(Z:FZ) (s2:Unit),J2 s2=some u/\Fr 22 [] a/\HZ w0 Zi Z [] w) ?_ ?_
 rintro a w ⟨Z,s2,f,h,H⟩
 subst a1
 refine rg λK k=>ae 1 h O λa h=>cz k ?_
 cases f
 refine r1 hr h O O ⟨O,H.out⟩
 refine rg λK k=>?_
 obtain⟨c4,f⟩:=ck f
 obtain⟨z5,e5,f⟩:=bv f
 refine cW (data:=z5) h H O O O ((by rw[e5];exact dC call42 (eG c4 (hG.ext H.out)))) λE Z w b0 X H g a h=>?_
 refine s1 h O (bY lg O (g.at H.zin)) λa h=>ae 1 h O λa h=>cz k<|lb ?_
 obtain⟨B8,a6,f⟩:=bv f
 refine ib (λF a w=>∃(Z:FZ) (s8:Int),loopF B8 F s8=some u/\Fr 22 [(0,S x0),(5,E),(6,I (z5.length:Int)),(7,I s8)] a/\HZ w0 Zi Z [] w/\bx Z E 1 eS z5) KK ⟨_,_,f,h.to,H,g⟩ ?_
 rintro F a w ⟨Z,s8,f,h,H,g⟩
 obtain⟨F,rfl,n8,a7,f⟩:=iJ a6 f
 refine rg λK k=>sB h f O (bn O O) λb1 b2 f a h=>cz k<|sq<|cI h f O (λG f=>?_) λG f=>?_
 refine ag<|sb ?_
 refine rg λK k=>ae 1 h O λa h=>?_
 obtain⟨J,f⟩:=ck f
 obtain⟨a8,ad,f⟩:=bv f
 refine bB h lg Z9 O O (g.at H.zin) (λ_=>rfl) a8 J.1 (by rw[ad];exact ak J) rfl λa b3 af h=>?_
 refine s1 h O (al O af A9 O) λa h=>ae 2 h O λa h=>cN k h [0,3,4,5,6,7] O6 λh=>?_
 refine rg λK k=>ae 2 h O λa h=>s1 h O (dE U9 O) λa h=>sI h f O (bf O O) λb4 b5 f a h=>?_
 obtain⟨ao,f⟩:=ck f
 refine sS h f O (lm U9 O O ao) λb6 b7 f a h=>ae 1 h O λa h=>sB h f O (aH O O) λbb bk f a h=>cN k h [0,3,5,6,7,18] O6 λh=>?_
 refine cI h f O (λW f=>?_) λW f=>?_
 refine rg λK k=>ae 1 h O λa h=>sI h f O (aw O O) λbq bs f a h=>ae 1 h O λa h=>cN k h [2] [_] λh=>?_
 cases f
 refine r1 hr h O O ⟨O,H.out⟩
 refine ag<|ah<|sI h f O (aw O O) λc6 c7 f a h=>ae 1 h O λa h=>am ?_
 exact fK (bp ⟨fq a7 f,h.to,H,g⟩)
 exact aR (tH ⟨f,h.to,H⟩)
theorem kJ{x0:Int}{G:(List UInt8)}{w0:World}(f:fH x0=some G) (hG:GW w0):Calls prog 63 [I x0].toArray w0 (bj λv w=>v=S G/\Ext w0 w):=by
 refine en func63 [0] [_] λQ a Zi Z Y H h hr=>?_
 clear Y
 unfold fH at f
 refine rg λK k=>ae 1 h O λa h=>cz k<|rg λK k=>?_
 obtain⟨c2,f⟩:=ck f
 obtain⟨z3,e3,f⟩:=bv f
 refine cW (data:=z3) h H O O O ((by rw[e3];exact dC call42 (eG c2 (hG.ext H.out)))) λao Z w b0 X H g a h=>?_
 refine ae 1 h O λa h=>cz k<|sq<|rg λK k=>ae 1 h O λa h=>sB h f O (bn O O) λz6 e6 f a h=>ae 1 h O λa h=>ai h O O (gF O) O O (λF=>an O) λa h=>?_
 refine ai h O O (gF O) O O (λF=>an O) λa h=>?_
 refine ai h O O (gF O) O O (λF=>bY lg (eg F O) (g.at H.zin)) λa h=>?_
 obtain⟨z7,e7,f⟩:=bv f
 refine ai h O O (gF O) O O (λF=>vB e7 (dS (eg F O) (eg F O))) λa h=>?_
 refine sB h f O (ca O O) λz8 e8 f a h=>cN k h [0,3,12] O3 λh=>?_
 refine cI h f O (λa1 f=>?_) λa1 f=>?_
 refine rg λK k=>ae 1 h O λa h=>cz k ?_
 cases f
 refine r1 hr h O O ⟨O,H.out⟩
 refine ag<|fl h ?_
 refine bN 2 O ?_
 refine fI f O (λw X=>bf O O) λb1 b2 f=>?_
 obtain⟨J,f⟩:=ck f
 obtain⟨u,a6,f⟩:=bv f
 refine aT [13,15] O O O O false (.rel (λw' v'=>At w' v' eS u 0)) aI (λw X=>?_) ?_
 skip
 exact have H:=H.ext X;fh lg Z9 O O (g.at H.zin) (λ_=>rfl) u J.1 (by rw[a6];exact ak J)
 refine aT [16] O O O O false (.eq (S u)) trivial (λw X=>?_) ?_
 intro b3 a7
 exact(al O a7 A9 O).bC
 refine bN 2 O ?_
 refine fI f O (λw X=>bf O O) λb4 b5 f=>?_
 obtain⟨W,f⟩:=ck f
 obtain⟨E,a8,f⟩:=bv f
 refine aT [18,20] O O O O false (.rel (λw' v'=>At w' v' eS E 0)) aI (λw X=>?_) ?_
 skip
 exact have H:=H.ext X;fh lg Z9 O O (g.at H.zin) (λ_=>rfl) E W.1 (by rw[a8];exact ak W)
 refine aT [21] O O O O false (.eq (S E)) trivial (λw X=>?_) ?_
 intro b6 ad
 exact(al O ad A9 O).bC
 refine F1 O (λw X=>dE U9 O) ?_
 refine fI f O (λw X=>bf O O) λb7 bb f=>?_
 obtain⟨af,f⟩:=ck f
 refine fS f O (λw X=>lm U9 O O af) λbk bq f=>?_
 refine bN 1 O ?_
 refine fE [2] [_] H λa w X H h=>?_
 cases f
 refine r1 hr h O O ⟨O,H.out⟩
theorem iZ{x0 x1:Int}{E:Bool}{w0:World}(f:cn x0 x1=some E) (hG:GW w0):Calls prog 24 [I x0,I x1].toArray w0 (bj λv w=>v=.bool E/\Ext w0 w):=by
 refine en func24 [0,1] O2 λQ a Zi Z G H h hr=>?_
 clear G
 unfold cn at f
 refine rg λK k=>ae 1 h O λa h=>cz k<|rg λK k=>?_
 obtain⟨c2,f⟩:=ck f
 obtain⟨z3,e3,f⟩:=bv f
 refine cW (data:=z3) h H O O O ((by rw[e3];exact dC call42 (eG c2 (hG.ext H.out)))) λb1 Z w b2 X H u a h=>?_
 refine ae 1 h O λa h=>cz k<|sq<|rg λK k=>ae 1 h O λa h=>sB h f O (bn O O) λz6 e6 f a h=>ae 1 h O λa h=>ai h O O (gF O) O O (λg=>an O) λa h=>?_
 refine ai h O O (gF O) O O (λg=>an O) λa h=>?_
 refine ai h O O (gF O) O O (λg=>bY lg (eg g O) (u.at H.zin)) λa h=>?_
 obtain⟨z7,e7,f⟩:=bv f
 refine ai h O O (gF O) O O (λg=>vB e7 (dS (eg g O) (eg g O))) λa h=>?_
 refine sB h f O (ca O O) λz8 e8 f a h=>cN k h [0,1,5,15] O4 λh=>?_
 refine cI h f O (λJ f=>?_) λJ f=>?_
 refine rg λK k=>ae 1 h O λa h=>cN k h [4] [_] λh=>?_
 cases f
 refine r1 hr h O O ⟨O,H.out⟩
 refine ag<|rg λK k=>ae 2 h O λa h=>sI h f O (bf O O) λb3 b4 f a h=>?_
 obtain⟨F,f⟩:=ck f
 obtain⟨W,Y,f⟩:=bv f
 refine bB h lg Z9 O O (u.at H.zin) (λ_=>rfl) W F.1 (by rw[Y];exact ak F) rfl λa b5 a1 h=>?_
 refine s1 h O (al O a1 A9 O) λa h=>ae 1 h O λa h=>cN k h [1,6] O2 λh=>?_
 refine rg λK k=>ae 3 h O λa h=>s1 h O (dE U9 O) λa h=>sI h f O (bf O O) λb6 b7 f a h=>?_
 obtain⟨a6,f⟩:=ck f
 refine sI h f O (gi U9 O O a6) λbb bk f a h=>sI h f O (bf O O) λbq bs f a h=>sI h f O (db (by rw[U5];rfl) U3 rfl rfl) λc6 c7 f a h=>sB h f rfl (gI rfl rfl) λc8 cc f a h=>ae 1 h rfl λa h=>ai h rfl rfl (gT rfl) rfl rfl (λg=>an rfl) λa h=>?_
 refine ai h O O (gT O) O O (λg=>an O) λa h=>?_
 refine ai h O O (gT O) O O (λg=>an O) λa h=>?_
 refine ai h O O (gT O) O O (λg=>dE U9 (eg g O)) λa h=>?_
 obtain⟨ch,a7,f⟩:=bv f
 refine ai h O O (gT O) O O (λg=>vI a7 (bf (eg g O) O)) λa h=>?_
 obtain⟨a8,f⟩:=ck f
 obtain⟨cp,ad,f⟩:=bv f
 refine ai h O O (gT O) O O (λg=>vI ad (gi U9 (eg g O) (eg g O) (a8 g))) λa h=>?_
 obtain⟨ct,af,f⟩:=bv f
 refine ai h O O (gT O) O O (λg=>vI af (bf (eg g O) O)) λa h=>?_
 obtain⟨cx,ao,f⟩:=bv f
 refine ai h O O (gT O) O O (λg=>vI ao (db (by rw[U5];rfl) U3 (eg g rfl) rfl)) λa h=>?_
 obtain⟨cy,b0,f⟩:=bv f
 refine ai h O O (gT O) O O (λg=>vB b0 (jX (eg g O) (eg g O))) λa h=>?_
 refine sB h f O (bK O O) λda dd f a h=>ae 1 h O λa h=>cN k h [4] [_] λh=>?_
 cases f
 refine r1 hr h O O ⟨O,H.out⟩
theorem fu{x0:Int}{g:Int × Bool}{w0:World}(f:g_ x0=some g):Calls prog 159 [I x0].toArray w0 (bj λv w=>v=.tuple #[I g.1,.bool g.2]/\Ext w0 w):=by
 refine en func159 [0] [_] λQ a Zi Z u H h F=>?_
 clear u
 unfold g_ at f
 refine rg λK k=>ae 2 h O λa h=>cz k<|sq<|rg λK k=>ae 1 h O λa h=>sB h f O (dS O O) λW X f a h=>ae 1 h O λa h=>ai h O O (gF O) O O (λG=>an O) λa h=>?_
 obtain⟨Y,J,f⟩:=bv f
 refine ai h O O (gF O) O O (λG=>vB J (bn (eg G O) O)) λa h=>?_
 refine sB h f O (ca O O) λz4 e4 f a h=>cN k h [0,9] O2 λh=>?_
 refine cI h f O (λE f=>?_) λE f=>?_
 refine rg λK k=>ae 2 h O λa h=>cz k ?_
 cases f
 refine r2 F h O O O ⟨O,H.out⟩
 refine ag<|rg λK k=>ae 1 h O λa h=>sI h f O (dB O O) λz6 e6 f a h=>ae 2 h O λa h=>cN k h [2,3] O2 λh=>?_
 cases f
 refine r2 F h O O O ⟨O,H.out⟩
theorem sd{x0:Int}{g:Int × Bool}{w0:World}(f:kq x0=some g):Calls prog 152 [I x0].toArray w0 (bj λv w=>v=.tuple #[I g.1,.bool g.2]/\Ext w0 w):=by
 refine en func152 [0] [_] λQ a Zi Z u H h J=>?_
 clear u
 unfold kq at f
 refine rg λK k=>ae 2 h O λa h=>cz k<|rg λK k=>ae 1 h O λa h=>sI h f O (iy O O (by decide)) λz1 e1 f a h=>ae 1 h rfl λa h=>cN k h [0,4] O2 λh=>?_
 obtain⟨W,E,f⟩:=bv f
 refine dA (λa w=>∃(Z:FZ) (F:Int),W F=some g/\Fr 16 [(0,I x0),(4,I F)] a/\HZ w0 Zi Z [] w) ?_ ?_
 rintro a w ⟨Z,F,f,h,H⟩
 subst E
 refine rg λK k=>ae 2 h O λa h=>sC h H f O (λY f4=>dC call75 (pN f4 :)) λY f w X H a h=>?_
 refine ae 4 h O λa h=>cN k h [2,3] O2 λh=>?_
 cases f
 refine r2 J h O O O ⟨O,H.out⟩
 refine rg λK k=>ae 1 h O λa h=>sB h f O (bn O O) λz5 e5 f a h=>cz k<|cI h f O (λG f=>?_) λG f=>?_
 refine ah<|ae 1 h O λa h=>sI h f O (aw O O) λz7 e7 f a h=>ae 1 h O λa h=>am ?_
 exact bp ⟨f,h.to,H⟩
 exact ag (bp ⟨f,h.to,H⟩)
theorem rU{x0 x1 g:Int}{w0:World}(f:j9 x0 x1=some g):Calls prog 157 [I x0,I x1].toArray w0 (bj λv w=>v=I g/\Ext w0 w):=by
 refine en func157 [0,1] O2 λQ a Zi Z F H h hr=>?_
 clear F
 unfold j9 at f
 refine rg λK k=>ae 1 h O λa h=>cz k ?_
 obtain⟨J2,G,f⟩:=bv f
 refine Bg (λa w=>∃(Z:FZ) (J:Int),J2 J=some g/\Fr 12 [(0,I J)] a/\HZ w0 Zi Z [] w) ?_ ?_
 rintro a w ⟨Z,J,f,h,H⟩
 subst G
 refine rg λK k=>ae 2 h O λa h=>cz k ?_
 cases f
 refine r1 hr h O O ⟨O,H.out⟩
 obtain⟨B3,W,f⟩:=bv f
 refine ib (λu a w=>∃(Z:FZ) (E:Int × Int),loopF B3 u E=some g/\Fr 12 [(0,I E.1),(1,I E.2)] a/\HZ w0 Zi Z [] w) KK ⟨_,_,f,h.to,H⟩ ?_
 rintro u a w ⟨Z,E,f,h,H⟩
 obtain⟨u,rfl,n3,Y,f⟩:=iJ W f
 refine sq<|rg λK k=>ae 1 h O λa h=>sB h f O (fN O O) λz6 e6 f a h=>cz k<|cI h f O (λa1 f=>?_) λa1 f=>?_
 refine ag<|lb<|wD h kR kR ?_
 refine bN 3 O ?_
 obtain⟨c9,f⟩:=ck f
 refine fI f O (λw X=>iy O O c9) λa6 a7 f=>?_
 refine bN 2 O ?_
 refine fE [0,1] O2 H λa w X H h=>?_
 exact fK (bp ⟨fq Y f,h.to,H⟩)
 exact aR (bp ⟨f,h.to,H⟩)
theorem lQ{x0:List (Int)}{u:(List (Int))}{w0:World}(f:gn x0=some u){E:Value}(g:bx (hz w0) E 1 (eI .i64) x0):Calls prog 154 [E].toArray w0 (bj λv w=>bx (ZB Z0 w0.heap.size w) v 1 (eI .i64) u/\Ext w0 w):=by
 refine en func154 [0] [_] λQ a Zi Z a1 H h hr=>?_
 have g:=g.sub a1
 clear a1
 unfold gn at f
 refine rg λK k=>ae 1 h O λa h=>cz k<|rg λK k=>ae 1 h O λa h=>cz k ?_
 have H:=H.fc 2 1 rfl
 have H:HZ w0 _ _ [_] _:=H
 obtain⟨J2,b0,f⟩:=bv f
 refine dA (λa w=>∃(Z:FZ) (s2:(List (Int))) (G:Value),J2 s2=some u/\Fr 19 [(3,G)] a/\HZ w0 Zi Z [.row 2 1 G (s2:List (Int)).length ((s2:List (Int)).flatMap (eI .i64))] w) ?_ ?_
 rintro a w ⟨Z,s2,G,f,h,H⟩
 subst b0
 refine rg λK k=>ae 2 h O λa h=>cz k ?_
 cases f
 refine r1 hr h O O ⟨(H.kH (i:=0) O),H.out⟩
 refine rg λK k=>ae 1 h O λa h=>s1 h O (bY dp O (g.at H.zin)) λa h=>ae 1 h O λa h=>cz k<|lb ?_
 obtain⟨B5,b1,f⟩:=bv f
 refine ib (λJ a w=>∃(Z:FZ) (s5:Int × (List (Int))) (W:Value),loopF B5 J s5=some u/\Fr 19 [(3,W),(6,E),(7,I (x0.length:Int)),(8,I s5.1)] a/\HZ w0 Zi Z [.row 2 1 W (s5.2:List (Int)).length ((s5.2:List (Int)).flatMap (eI .i64))] w/\bx Z E 1 (eI .i64) x0) KK ⟨_,_,_,f,h.to,H,g⟩ ?_
 rintro J a w ⟨Z,s5,W,f,h,H,g⟩
 obtain⟨J,rfl,n5,b2,f⟩:=iJ b1 f
 refine rg λK k=>sB h f O (bn O O) λz8 e8 f a h=>cz k<|sq<|cI h f O (λa6 f=>?_) λa6 f=>?_
 refine ag<|sb ?_
 refine rg λK k=>?_
 obtain⟨a7,f⟩:=ck f
 obtain⟨b3,b4,f⟩:=bv f
 refine bB h dp Z2 O O (g.at H.zin) (λ_=>rfl) b3 a7.1 (by rw[b4];exact ak a7) rfl λa b7 Y h=>?_
 refine s1 h O (al O Y A2 O) λa h=>ae 1 h O λa h=>cz k<|ah<|ae 2 h O λa h=>sI h f O (cm O O (by decide)) λa8 bb f a h=>cZ (enc:=(eI .i64)) ([a8]:List (Int)) h H dp Z2 zeroValue2 rfl (zl:=[I 0]) kR (cb 1 1) [_] [_] rfl rfl rfl rfl rfl λa af Z w ad X H F h=>?_
 have g:=g.sub ad
 have Y:=At.ext Y X
 obtain⟨b5,f⟩:=ck f
 obtain⟨bk,b6,f⟩:=bv f
 refine cg (enc:=(eI .i64)) (out:=s5.2) (data:=[a8]) h H 0 O dp CE O O O F (λ_=>rfl) (λ_ _=>rfl) b5 O λa ao w H h=>?_
 rw[<-b6]at H
 have H:HZ w0 _ _ [_] _:=H
 refine ae 1 h O λa h=>am<|cO h [3,6,7,8] O4 λh=>?_
 refine ah<|sI h f O (aw O O) λbq bs f a h=>ae 1 h O λa h=>am ?_
 exact fK (iP ⟨fq b2 f,h.to,H,g⟩)
 exact aR (iP ⟨f,h.to,H⟩)
theorem eP{x0:Int}{f:V}{w0:World}(g:dP x0=some f):Calls prog 151 [I x0].toArray w0 (bj λv w=>v=.agg #[I f.k,I f.n,S f.s]/\Ext w0 w):=by
 refine en func151 [0] [_] λQ a Zi Z u H h E=>?_
 clear u
 unfold dP at g
 refine rg λK k=>zA h H eX O3 (λx=>[x]) λa J w X H h=>?_
 refine cz k<|rg λK k=>ae 1 h O λa h=>sC h H g O (λF f2=>dC call159 (fu f2 :)) λF g w X H a h=>?_
 refine ae 2 h O λa h=>sC h H g O (λG f3=>dC call70 (bc f3 :)) λG g w X H a h=>?_
 refine zS h H 0 aq O3 O3 [_] λw H=>?_
 refine cN k h [2] [_] λh=>?_
 cases g
 refine r1 E h O (aO H 0 aQ aq O3) ⟨O,H.out⟩
theorem qL{x0:Int}{W:Bool}{g:V}{w0:World}(f:jp x0 W=some g):Calls prog 153 [I x0,.bool W].toArray w0 (bj λv w=>v=.agg #[I g.k,I g.n,S g.s]/\Ext w0 w):=by
 refine en func153 [0,1] O2 λQ a Zi Z Y H h hr=>?_
 clear Y
 unfold jp at f
 refine rg λK k=>zA h H eX O3 (λx=>[x]) λa u w X H h=>?_
 refine cz k<|rg λK k=>ae 1 h O λa h=>sI h f O (cm O O (by decide)) λz2 e2 f a h=>ae 1 h rfl λa h=>cz k<|rg λK k=>ae 1 h rfl λa h=>cz k ?_
 obtain⟨J4,a1,f⟩:=bv f
 refine dA (λa w=>∃(Z:FZ) (E:Int × Int),J4 E=some g/\Fr 29 [(0,I x0),(1,.bool W),(4,(pt u)),(5,I E.1),(6,I E.2)] a/\HZ w0 Zi Z [.blk u (aB [I 0,I 0,S []] 27)] w) ?_ ?_
 rintro a w ⟨Z,E,f,h,H⟩
 subst a1
 obtain⟨J6,a6,f⟩:=bv f
 refine dA (λa w=>∃(Z:FZ) (s6:Int),J6 s6=some g/\Fr 29 [(1,.bool W),(4,(pt u)),(5,I s6),(6,I E.2)] a/\HZ w0 Zi Z [.blk u (aB [I 0,I 0,S []] 27)] w) ?_ ?_
 rintro a w ⟨Z,s6,f,h,H⟩
 subst a6
 obtain⟨J8,a7,f⟩:=bv f
 refine dA (λa w=>∃(Z:FZ) (s8:Int),J8 s8=some g/\Fr 29 [(4,(pt u)),(5,I s8),(6,I E.2)] a/\HZ w0 Zi Z [.blk u (aB [I 0,I 0,S []] 27)] w) ?_ ?_
 rintro a w ⟨Z,s8,f,h,H⟩
 subst a7
 refine rg λK k=>ae 2 h O λa h=>sI h f O (dB O O) λz9 e9 f a h=>sC h H f O (λa8 f10=>dC call151 (eP f10 :)) λa8 f w X H a h=>?_
 refine zS h H 0 aq O3 O3 [_] λw H=>?_
 refine cN k h [4] [_] λh=>?_
 cases f
 refine r1 hr h O (aO H 0 aQ aq O3) ⟨O,H.out⟩
 refine rg λK k=>ae 1 h O λa h=>sI h f O (iy O O (by decide)) λad af f a h=>sB h f rfl (aD rfl rfl) λao b0 f a h=>ae 1 h rfl λa h=>sB h f rfl (wx U4 rfl rfl) λb1 b2 f a h=>cN k h [4,5,6,22] O4 λh=>?_
 refine cI h f O (λF f=>?_) λF f=>?_
 refine ah<|ae 1 h O λa h=>sI h f O (aw O O) λb3 b4 f a h=>ae 1 h O λa h=>am ?_
 exact bp ⟨f,h.to,H⟩
 exact ag (bp ⟨f,h.to,H⟩)
 refine rg λK k=>ae 1 h O λa h=>sI h f O (iy O O (by decide)) λb5 b6 f a h=>sB h f rfl (fN rfl rfl) λb7 bb f a h=>cz k<|cI h f rfl (λG f=>?_) λG f=>?_
 refine ah<|ae 1 h O λa h=>sI h f O (aw O O) λbk bq f a h=>ae 1 h O λa h=>am ?_
 exact bp ⟨f,h.to,H⟩
 exact ag (bp ⟨f,h.to,H⟩)
 refine rg λK k=>ae 1 h O λa h=>sB h f O (bn O O) λbs c6 f a h=>cz k<|cI h f O (λJ f=>?_) λJ f=>?_
 refine ah<|ae 1 h O λa h=>sI h f O (lw O) λc7 c8 f a h=>ae 2 h O λa h=>am ?_
 exact bp ⟨f,h.to,H⟩
 exact ag (bp ⟨f,h.to,H⟩)
theorem pk{x0 x1:Int}{g:V}{w0:World}(f:iE x0 x1=some g):Calls prog 155 [I x0,I x1].toArray w0 (bj λv w=>v=.agg #[I g.k,I g.n,S g.s]/\Ext w0 w):=by
 refine en func155 [0,1] O2 λQ a Zi Z b0 H h hr=>?_
 clear b0
 unfold iE at f
 refine rg λK k=>zA h H eX O3 (λx=>[x]) λa E w X H h=>?_
 refine cz k<|rg λK k=>ae 1 h O λa h=>cz k ?_
 obtain⟨J3,b1,f⟩:=bv f
 refine dA (λa w=>∃(Z:FZ) (W:Int),J3 W=some g/\Fr 51 [(0,I x0),(4,(pt E)),(5,I W)] a/\HZ w0 Zi Z [.blk E (aB [I 0,I 0,S []] 27)] w) ?_ ?_
 rintro a w ⟨Z,W,f,h,H⟩
 subst b1
 refine fl h ?_
 refine bN 2 O ?_
 obtain⟨c4,f⟩:=ck f
 refine fI f O (λw X=>cm O O c4) λz5 e5 f=>?_
 refine bN 2 O ?_
 obtain⟨c6,f⟩:=ck f
 refine fI f O (λw X=>iy O O c6) λz7 e7 f=>?_
 refine bN 2 O ?_
 refine fE [0,4,5,6,7] O5 H λa w X H h=>?_
 obtain⟨J9,b2,f⟩:=bv f
 refine dA (λa w=>∃(Z:FZ) (s9:Int),J9 s9=some g/\Fr 51 [(0,I x0),(4,(pt E)),(5,I W),(6,I z5),(7,I s9)] a/\HZ w0 Zi Z [.blk E (aB [I 0,I 0,S []] 27)] w) ?_ ?_
 rintro a w ⟨Z,s9,f,h,H⟩
 subst b2
 obtain⟨b3,Y,f⟩:=bv f
 refine dA (λa w=>∃(Z:FZ) (F:Int),b3 F=some g/\Fr 51 [(4,(pt E)),(5,I W),(6,I F)] a/\HZ w0 Zi Z [.blk E (aB [I 0,I 0,S []] 27)] w) ?_ ?_
 rintro a w ⟨Z,F,f,h,H⟩
 subst Y
 refine sq<|rg λK k=>ae 2 h O λa h=>?_
 obtain⟨b4,f⟩:=ck f
 refine sI h f O (cm O O b4) λc7 c8 f a h=>sB h f O (dS O O) λcc ch f a h=>ae 1 h O λa h=>ai h O O (gF O) O O (λG=>an O) λa h=>?_
 refine ai h O O (gF O) O O (λG=>an O) λa h=>?_
 obtain⟨b5,f⟩:=ck f
 obtain⟨cp,b6,f⟩:=bv f
 refine ai h O O (gF O) O O (λG=>vI b6 (cm O (eg G O) (b5 G))) λa h=>?_
 obtain⟨ct,b7,f⟩:=bv f
 refine ai h O O (gF O) O O (λG=>vB b7 (bn (eg G O) (eg G O))) λa h=>?_
 refine sB h f O (ca O O) λcx cy f a h=>cN k h [4,5,6,45] O4 λh=>?_
 refine cI h f O (λa1 f=>?_) λa1 f=>?_
 refine rg λK k=>sC h H f O (λbb f21=>dC call18 (az f21 :)) λbb f w X H a h=>?_
 refine zS h H 0 aq O3 O3 [_] λw H=>?_
 refine cN k h [4] [_] λh=>?_
 cases f
 refine r1 hr h O (aO H 0 aQ aq O3) ⟨O,H.out⟩
 refine ag<|rg λK k=>ae 2 h O λa h=>sI h f O (dB O O) λda dd f a h=>sC h H f O (λbk f23=>dC call14 (bH f23 :)) λbk f w X H a h=>?_
 refine zS h H 0 aq O3 O3 [_] λw H=>?_
 refine cN k h [4] [_] λh=>?_
 cases f
 refine r1 hr h O (aO H 0 aQ aq O3) ⟨O,H.out⟩
 refine rg λK k=>ae 3 h O λa h=>sI h f O (bf O O) λdj dn f a h=>sB h f O (gI O O) λdv dz f a h=>cN k h [0,4,5,6,29] O5 λh=>?_
 refine cI h f O (λa6 f=>?_) λa6 f=>?_
 refine rg λK k=>ae 1 h O λa h=>sB h f O (bn O O) λe1 e2 f a h=>cz k<|cI h f O (λa7 f=>?_) λa7 f=>?_
 refine ah<|ae 1 h O λa h=>sI h f O (bf O O) λe3 e4 f a h=>ae 1 h O λa h=>am ?_
 exact bp ⟨f,h.to,H⟩
 refine ah<|ae 1 h O λa h=>sI h f O (aw O O) λe6 e8 f a h=>ae 1 h O λa h=>am ?_
 exact bp ⟨f,h.to,H⟩
 exact ag (bp ⟨f,h.to,H⟩)
 refine rg λK k=>ae 1 h O λa h=>sB h f O (bn O O) λe9 ea f a h=>cz k<|cI h f O (λa8 f=>?_) λa8 f=>?_
 refine ah<|ae 1 h O λa h=>sI h f O (lw O) λeb ec f a h=>ae 1 h O λa h=>am ?_
 exact bp ⟨f,h.to,H⟩
 exact ag (bp ⟨f,h.to,H⟩)
 refine rg λK k=>ae 1 h O λa h=>sI h f O (bf O O) λbq ed f a h=>ae 1 h O λa h=>cz k<|lb ?_
 obtain⟨bs,ad,f⟩:=bv f
 refine ib (λJ a w=>∃(Z:FZ) (u:Int × Int),loopF bs J u=some g/\Fr 51 [(0,I x0),(4,(pt E)),(5,I u.1),(9,I bq),(10,I u.2)] a/\HZ w0 Zi Z [.blk E (aB [I 0,I 0,S []] 27)] w) KK ⟨_,_,f,h.to,H⟩ ?_
 rintro J a w ⟨Z,u,f,h,H⟩
 obtain⟨J,rfl,ef,af,f⟩:=iJ ad f
 refine rg λK k=>sB h f O (bn O O) λei ej f a h=>cz k<|sq<|cI h f O (λao f=>?_) λao f=>?_
 refine ag<|sb ?_
 refine ah<|ae 1 h O λa h=>sI h f O (dB O O) λel eo f a h=>ae 1 h O λa h=>am<|ah<|sI h f O (aw O O) λep er f a h=>ae 1 h O λa h=>am ?_
 exact fK (bp ⟨fq af f,h.to,H⟩)
 exact aR (bp ⟨f,h.to,H⟩)
theorem fx{x0:List (V)}{u:(List (Int))}{w0:World}(f:dq x0=some u){E:Value}(g:bx (hz w0) E 3 vL x0):Calls prog 194 [E].toArray w0 (bj λv w=>bx (ZB Z0 w0.heap.size w) v 1 (eI .i64) u/\Ext w0 w):=by
 refine en func194 [0] [_] λQ a Zi Z a6 H h hr=>?_
 have g:=g.sub a6
 clear a6
 unfold dq at f
 refine rg λK k=>ae 1 h O λa h=>cz k<|rg λK k=>ae 1 h O λa h=>cz k ?_
 have H:=H.fc 2 1 rfl
 have H:HZ w0 _ _ [_] _:=H
 obtain⟨J2,b2,f⟩:=bv f
 refine dA (λa w=>∃(Z:FZ) (s2:(List (Int))) (G:Value),J2 s2=some u/\Fr 22 [(3,G)] a/\HZ w0 Zi Z [.row 2 1 G (s2:List (Int)).length ((s2:List (Int)).flatMap (eI .i64))] w) ?_ ?_
 rintro a w ⟨Z,s2,G,f,h,H⟩
 subst b2
 refine rg λK k=>ae 2 h O λa h=>cz k ?_
 cases f
 refine r1 hr h O O ⟨(H.kH (i:=0) O),H.out⟩
 refine rg λK k=>ae 1 h O λa h=>s1 h O (bY kU O (g.at H.zin)) λa h=>ae 1 h O λa h=>cz k<|lb ?_
 obtain⟨B5,b3,f⟩:=bv f
 refine ib (λJ a w=>∃(Z:FZ) (s5:Int × (List (Int))) (W:Value),loopF B5 J s5=some u/\Fr 22 [(3,W),(6,E),(7,I (x0.length:Int)),(8,I s5.1)] a/\HZ w0 Zi Z [.row 2 1 W (s5.2:List (Int)).length ((s5.2:List (Int)).flatMap (eI .i64))] w/\bx Z E 3 vL x0) KK ⟨_,_,_,f,h.to,H,g⟩ ?_
 rintro J a w ⟨Z,s5,W,f,h,H,g⟩
 obtain⟨J,rfl,n5,a7,f⟩:=iJ b3 f
 refine rg λK k=>sB h f O (bn O O) λz8 e8 f a h=>cz k<|sq<|cI h f O (λa8 f=>?_) λa8 f=>?_
 refine ag<|sb ?_
 refine rg λK k=>?_
 obtain⟨ad,f⟩:=ck f
 obtain⟨Y,b4,f⟩:=bv f
 refine bB h kU aq O O (g.at H.zin) (λ_=>rfl) Y ad.1 (by rw[b4];exact ak ad) rfl λa b7 a1 h=>?_
 refine s1 h O (ay O3 O a1 aQ aq O O) λa h=>zA h H eX O3 (λx=>[_,x]) λa bb w X H h=>?_
 have a1:=At.ext a1 X
 refine zS h H 1 aq O3 O3 O2 λw H=>?_
 refine cz k<|rg λK k=>s1 h O (ab O cB O Z3 O O) λa h=>s1 h O (l1 H 1 A3) λa h=>sB h f O (aD O O) λbk bq f a h=>cN k h [3,5,6,7,8,14] O6 λh=>?_
 refine cI h f O (λaf f=>?_) λaf f=>?_
 refine ah<|ae 1 h O λa h=>s1 h O (ab O cB O Z2 O O) λa h=>s1 h O (l1 H 1 A2) λa h=>cZ (enc:=(eI .i64)) ([Y.n]:List (Int)) h H dp Z2 zeroValue2 O (zl:=[I 0]) kR (cb 1 1) [_] [_] O O O O O λa b0 Z w ao X H F h=>?_
 have g:=g.sub ao
 obtain⟨b5,f⟩:=ck f
 obtain⟨bs,b6,f⟩:=bv f
 refine cg (enc:=(eI .i64)) (out:=s5.2) (data:=[Y.n]) h H 0 O dp CE O O O F (λ_=>rfl) (λ_ _=>rfl) b5 O λa b1 w H h=>?_
 rw[<-b6]at H
 have H:HZ w0 _ _ O2 _:=H
 refine ae 1 h O λa h=>am<|cO h [3,6,7,8] O4 λh=>?_
 refine ah<|sI h f O (aw O O) λc6 c7 f a h=>ae 1 h O λa h=>am ?_
 exact fK (iP ⟨fq a7 f,h.to,(H.cT 1 O),g⟩)
 refine ag<|ah<|sI h f O (aw O O) λc8 cc f a h=>ae 1 h O λa h=>am ?_
 exact fK (iP ⟨fq a7 f,h.to,(H.cT 1 O),g⟩)
 exact aR (iP ⟨f,h.to,H⟩)
theorem iU{x0:List (V)}{u:V}{w0:World}(f:gk x0=some u){W:Value}(E:bx (hz w0) W 3 vL x0):Calls prog 168 [W].toArray w0 (bj λv w=>v=.agg #[I u.k,I u.n,S u.s]/\Ext w0 w):=by
 refine en func168 [0] [_] λQ a Zi Z Y H h hr=>?_
 have E:=E.sub Y
 clear Y
 unfold gk at f
 refine rg λK k=>zA h H eX O3 (λx=>[x]) λa p1 w X H h=>?_
 refine cz k<|rg λK k=>ae 2 h O λa h=>cz k ?_
 obtain⟨J3,af,f⟩:=bv f
 refine dA (λa w=>∃(Z:FZ) (s3:Int × Bool),J3 s3=some u/\Fr 25 [(2,(pt p1)),(3,I s3.1),(4,.bool s3.2)] a/\HZ w0 Zi Z [.blk p1 (aB [I 0,I 0,S []] 27)] w) ?_ ?_
 rintro a w ⟨Z,s3,f,h,H⟩
 subst af
 refine rg λK k=>ae 2 h O λa h=>sC h H f O (λy4 f4=>dC call70 (bc f4 :)) λy4 f w X H a h=>?_
 refine zS h H 0 aq O3 O3 [_] λw H=>?_
 refine cN k h [2] [_] λh=>?_
 cases f
 refine r1 hr h O (aO H 0 aQ aq O3) ⟨O,H.out⟩
 refine rg λK k=>ae 1 h O λa h=>?_
 obtain⟨y5,f5,f⟩:=bo f
 refine cW (data:=y5) h H O O O (dC call194 (fx (x0:=x0) f5 (E.hz H.zin))) λF Z w a1 X H g a h=>?_
 have E:=E.sub a1
 refine s1 h O (bY dp O (g.at H.zin)) λa h=>ae 1 h O λa h=>cz k<|lb ?_
 obtain⟨B8,ao,f⟩:=bv f
 refine ib (λG a w=>∃(Z:FZ) (s8:Int × Bool × Int),loopF B8 G s8=some u/\Fr 25 [(2,(pt p1)),(3,I s8.1),(4,.bool s8.2.1),(8,F),(9,I (y5.length:Int)),(10,I s8.2.2)] a/\HZ w0 Zi Z [.blk p1 (aB [I 0,I 0,S []] 27)] w/\bx Z F 1 (eI .i64) y5) KK ⟨_,_,f,h.to,H,g⟩ ?_
 rintro G a w ⟨Z,s8,f,h,H,g⟩
 obtain⟨G,rfl,n8,a6,f⟩:=iJ ao f
 refine rg λK k=>sB h f O (bn O O) λb3 b4 f a h=>cz k<|sq<|cI h f O (λa7 f=>?_) λa7 f=>?_
 refine ag<|sb ?_
 refine rg λK k=>?_
 obtain⟨a8,f⟩:=ck f
 obtain⟨b0,b1,f⟩:=bv f
 refine bB h dp Z2 O O (g.at H.zin) (λ_=>rfl) b0 a8.1 (by rw[b1];exact ak a8) rfl λa b5 J h=>?_
 refine s1 h O (al O J A2 O) λa h=>ae 1 h O λa h=>cz k<|rg λK k=>ae 1 h O λa h=>cz k<|cI h f O (λad f=>?_) λad f=>?_
 refine ah<|ae 2 h O λa h=>sC h H f O (λb2 f17=>dC call74 (mO f17 :)) λb2 f w X H a h=>?_
 have J:=At.ext J X
 refine ae 5 h O λa h=>am<|cO h [2,3,4,8,9,10] O6 λh=>?_
 refine ah<|sI h f O (aw O O) λb6 b7 f a h=>ae 1 h O λa h=>am ?_
 exact fK (bp ⟨fq a6 f,h.to,H,g⟩)
 refine ag<|cO h [2,3,4,8,9,10] O6 λh=>?_
 refine ah<|sI h f O (aw O O) λbb bk f a h=>ae 1 h O λa h=>am ?_
 exact fK (bp ⟨fq a6 f,h.to,H,g⟩)
 exact aR (bp ⟨f,h.to,H⟩)
theorem nT{x0:Bool}{x1:List (V)}{u:V}{w0:World}(f:fY x0 x1=some u){a1:Value}(E:bx (hz w0) a1 3 vL x1):Calls prog 166 [.bool x0,a1].toArray w0 (bj λv w=>v=.agg #[I u.k,I u.n,S u.s]/\Ext w0 w):=by
 refine en func166 [0,1] O2 λQ a Zi Z a6 H h hr=>?_
 have E:=E.sub a6
 clear a6
 unfold fY at f
 refine rg λK k=>zA h H eX O3 (λx=>[x]) λa p1 w X H h=>?_
 refine cz k<|rg λK k=>ae 1 h O λa h=>?_
 obtain⟨y2,f2,f⟩:=bo f
 refine cW (data:=y2) h H O O O (dC call194 (fx (x0:=x1) f2 (E.hz H.zin))) λF Z w a7 X H g a h=>?_
 have E:=E.sub a7
 refine ae 1 h O λa h=>cz k<|sq<|rg λK k=>ae 1 h O λa h=>s1 h O (bY dp O (g.at H.zin)) λa h=>sB h f O (aD O O) λz5 e5 f a h=>cN k h [0,4,5,13] O4 λh=>?_
 refine cI h f O (λb1 f=>?_) λb1 f=>?_
 refine rg λK k=>sC h H f O (λy7 f7=>dC call14 (bH f7 :)) λy7 f w X H a h=>?_
 refine zS h H 0 aq O3 O3 [_] λw H=>?_
 refine cN k h [4] [_] λh=>?_
 cases f
 refine r1 hr h O (aO H 0 aQ aq O3) ⟨O,H.out⟩
 refine ag<|rg λK k=>ae 1 h O λa h=>?_
 obtain⟨c8,f⟩:=ck f
 obtain⟨z9,e9,f⟩:=bv f
 refine bB h dp Z2 O O (g.at H.zin) (λ_=>rfl) z9 c8.1 (by rw[e9];exact ak c8) rfl λa bq b2 h=>?_
 refine s1 h O (al O b2 A2 O) λa h=>ae 1 h O λa h=>cN k h [0,4,5,6] O4 λh=>?_
 obtain⟨b3,a8,f⟩:=bv f
 refine dA (λa w=>∃(Z:FZ) (W:Int),b3 W=some u/\Fr 38 [(4,(pt p1)),(6,I W)] a/\HZ w0 Zi Z [.blk p1 (aB [I 0,I 0,S []] 27)] w) ?_ ?_
 rintro a w ⟨Z,W,f,h,H⟩
 subst a8
 refine rg λK k=>ae 1 h O λa h=>sC h H f O (λb4 f12=>dC call14 (bH f12 :)) λb4 f w X H a h=>?_
 refine zS h H 0 aq O3 O3 [_] λw H=>?_
 refine cz k ?_
 cases f
 refine r1 hr h O (aO H 0 aQ aq O3) ⟨O,H.out⟩
 refine rg λK k=>ae 1 h O λa h=>s1 h O (bY dp O (g.at H.zin)) λa h=>ae 1 h O λa h=>cz k<|lb ?_
 obtain⟨b5,ad,f⟩:=bv f
 refine ib (λY a w=>∃(Z:FZ) (G:Int × Int),loopF b5 Y G=some u/\Fr 38 [(0,.bool x0),(4,(pt p1)),(6,I G.1),(18,F),(19,I (y2.length:Int)),(20,I G.2)] a/\HZ w0 Zi Z [.blk p1 (aB [I 0,I 0,S []] 27)] w/\bx Z F 1 (eI .i64) y2) KK ⟨_,_,f,h.to,H,g⟩ ?_
 rintro Y a w ⟨Z,G,f,h,H,g⟩
 obtain⟨Y,rfl,bs,J,f⟩:=iJ ad f
 refine rg λK k=>sB h f O (bn O O) λc6 c7 f a h=>cz k<|sq<|cI h f O (λaf f=>?_) λaf f=>?_
 refine ag<|sb ?_
 refine rg λK k=>?_
 obtain⟨ao,f⟩:=ck f
 obtain⟨b6,b7,f⟩:=bv f
 refine bB h dp Z2 O O (g.at H.zin) (λ_=>rfl) b6 ao.1 (by rw[b7];exact ak ao) rfl λa cc bb h=>?_
 refine s1 h O (al O bb A2 O) λa h=>ae 1 h O λa h=>cz k<|rg λK k=>ae 2 h O λa h=>sB h f O (dS O O) λch cp f a h=>ae 1 h O λa h=>sB h f O (tL U4 O O) λct cx f a h=>ae 1 h O λa h=>ai h O O (gT O) O O (λe0=>an O) λa h=>?_
 refine ai h O O (gT O) O O (λe0=>an O) λa h=>?_
 obtain⟨cy,bk,f⟩:=bv f
 refine ai h O O (gT O) O O (λe0=>vB bk (fN (eg e0 O) (eg e0 O))) λa h=>?_
 refine sB h f O (bK O O) λda dd f a h=>cN k h [0,4,6,8,18,19,20,33] O8 λh=>?_
 refine cI h f O (λb0 f=>?_) λb0 f=>?_
 refine ah<|ae 2 h O λa h=>am<|ah<|sI h f O (aw O O) λdj dn f a h=>ae 1 h O λa h=>am ?_
 exact fK (bp ⟨fq J f,h.to,H,g⟩)
 refine ag<|ah<|sI h f O (aw O O) λdv dz f a h=>ae 1 h O λa h=>am ?_
 exact fK (bp ⟨fq J f,h.to,H,g⟩)
 exact aR (bp ⟨f,h.to,H⟩)
theorem gv{x0 F:V}{u:Bool}{w0:World}(g:eC x0 F=some u):Calls prog 195 [(vA x0),(vA F)].toArray w0 (bj λv w=>v=.bool u/\Ext w0 w):=by
 refine en func195 [0,1] O2 λQ a Zi Z E H h G=>?_
 clear E
 unfold eC at g
 refine rg λK k=>aZ h H O O3 O O λa Y w X H h=>?_
 have H:HZ w0 _ _ [_] _:=H
 refine aZ h H O O3 O O λa p2 w X H h=>?_
 have H:HZ w0 _ _ O2 _:=H
 refine ae 1 h O λa h=>cz k<|rg λK k=>s1 h O (ab O cB O Z3 O O) λa h=>s1 h O (l1 H 0 A3) λa h=>s1 h O (ab O cB O Z3 O O) λa h=>s1 h O (l1 H 1 A3) λa h=>sB h g O (aD O O) λz3 e3 g a h=>ae 1 h O λa h=>ai h O O (gT O) O O (λf=>ab O cB O Z2 O O) λa h=>?_
 refine ai h O O (gT O) O O (λf=>aE (eg f O) A2 (H.hp.get 0 O) O) λa h=>?_
 refine ai h O O (gT O) O O (λf=>ab O cB O Z2 O O) λa h=>?_
 refine ai h O O (gT O) O O (λf=>aE (eg f O) A2 (H.hp.get 1 O) O) λa h=>?_
 obtain⟨z4,J,g⟩:=bv g
 refine ai h O O (gT O) O O (λf=>vB J (aD (eg f O) (eg f O))) λa h=>?_
 refine sB h g O (bK O O) λz5 e5 g a h=>ae 1 h O λa h=>ai h O O (gT O) O O (λf=>ab O cB O Z9 O O) λa h=>?_
 refine ai h O O (gT O) O O (λf=>aE (eg f O) A9 (H.hp.get 0 O) O) λa h=>?_
 refine ai h O O (gT O) O O (λf=>ab O cB O Z9 O O) λa h=>?_
 refine ai h O O (gT O) O O (λf=>aE (eg f O) A9 (H.hp.get 1 O) O) λa h=>?_
 obtain⟨z6,W,g⟩:=bv g
 refine ai h O O (gT O) O O (λf=>vB W (aH (eg f O) (eg f O))) λa h=>?_
 refine sB h g O (bK O O) λz7 e7 g a h=>ae 1 h O λa h=>cN k h [4] [_] λh=>?_
 cases g
 refine r1 G h O O ⟨O,H.out⟩
theorem je{x0:Int}{x1:Bool}{x2:List (V)}{u:V}{w0:World}(f:fj x0 x1 x2=some u){E:Value}(g:bx (hz w0) E 3 vL x2):Calls prog 170 [I x0,.bool x1,E].toArray w0 (bj λv w=>v=.agg #[I u.k,I u.n,S u.s]/\Ext w0 w):=by
 refine en func170 [0,1,2] O3 λQ a Zi Z J H h hr=>?_
 have g:=g.sub J
 clear J
 unfold fj at f
 refine rg λK k=>zA h H eX O3 (λx=>[x]) λa p1 w X H h=>?_
 refine cz k<|rg λK k=>ae 1 h O λa h=>cz k ?_
 obtain⟨J3,a7,f⟩:=bv f
 refine dA (λa w=>∃(Z:FZ) (s3:Int),J3 s3=some u/\Fr 30 [(6,(pt p1)),(7,I s3)] a/\HZ w0 Zi Z [.blk p1 (aB [I 0,I 0,S []] 27)] w) ?_ ?_
 rintro a w ⟨Z,s3,f,h,H⟩
 subst a7
 refine rg λK k=>ae 1 h O λa h=>sC h H f O (λy4 f4=>dC call159 (fu f4 :)) λy4 f w X H a h=>?_
 refine ae 2 h O λa h=>sC h H f O (λy5 f5=>dC call70 (bc f5 :)) λy5 f w X H a h=>?_
 refine zS h H 0 aq O3 O3 [_] λw H=>?_
 refine cN k h [6] [_] λh=>?_
 cases f
 refine r1 hr h O (aO H 0 aQ aq O3) ⟨O,H.out⟩
 refine rg λK k=>ae 1 h O λa h=>s1 h O (bY kU O (g.at H.zin)) λa h=>ae 1 h O λa h=>cz k<|lb ?_
 obtain⟨B7,a8,f⟩:=bv f
 refine ib (λF a w=>∃(Z:FZ) (s7:Int × Int),loopF B7 F s7=some u/\Fr 30 [(0,I x0),(1,.bool x1),(6,(pt p1)),(7,I s7.1),(10,E),(11,I (x2.length:Int)),(12,I s7.2)] a/\HZ w0 Zi Z [.blk p1 (aB [I 0,I 0,S []] 27)] w/\bx Z E 3 vL x2) KK ⟨_,_,f,h.to,H,g⟩ ?_
 rintro F a w ⟨Z,s7,f,h,H,g⟩
 obtain⟨F,rfl,n7,W,f⟩:=iJ a8 f
 refine rg λK k=>sB h f O (bn O O) λz9 e9 f a h=>cz k<|sq<|cI h f O (λY f=>?_) λY f=>?_
 refine ag<|sb ?_
 refine rg λK k=>?_
 obtain⟨a1,f⟩:=ck f
 obtain⟨ad,af,f⟩:=bv f
 refine bB h kU aq O O (g.at H.zin) (λ_=>rfl) ad a1.1 (by rw[af];exact ak a1) rfl λa ao G h=>?_
 refine s1 h O (ay O3 O G aQ aq O O) λa h=>zA h H eX O3 (λx=>[_,x]) λa b0 w X H h=>?_
 have G:=At.ext G X
 refine zS h H 1 aq O3 O3 O2 λw H=>?_
 refine cz k<|rg λK k=>s1 h O (ab O cB O Z3 O O) λa h=>s1 h O (l1 H 1 A3) λa h=>ae 1 h O λa h=>sB h f O (aD O O) λb1 b2 f a h=>ae 1 h O λa h=>sB h f O (tL U4 O O) λb3 b4 f a h=>cN k h [0,1,6,7,10,11,12,21] O8 λh=>?_
 refine cI h f O (λa6 f=>?_) λa6 f=>?_
 refine ah<|ae 1 h O λa h=>sI h f O (aw O O) λb5 b6 f a h=>ae 1 h O λa h=>am<|ah<|sI h f O (aw O O) λb7 bb f a h=>ae 1 h O λa h=>am ?_
 exact fK (bp ⟨fq W f,h.to,(H.cT 1 O),g⟩)
 refine ag<|ah<|sI h f O (aw O O) λbk bq f a h=>ae 1 h O λa h=>am ?_
 exact fK (bp ⟨fq W f,h.to,(H.cT 1 O),g⟩)
 exact aR (bp ⟨f,h.to,H⟩)
theorem nX{x0:V}{x1:List (V)}{u:V}{w0:World}(f:fZ x0 x1=some u){E:Value}(g:bx (hz w0) E 3 vL x1):Calls prog 172 [(vA x0),E].toArray w0 (bj λv w=>v=.agg #[I u.k,I u.n,S u.s]/\Ext w0 w):=by
 refine en func172 [0,1] O2 λQ a Zi Z J H h hr=>?_
 have g:=g.sub J
 clear J
 unfold fZ at f
 refine rg λK k=>aZ h H O O3 O O λa p1 w X H h=>?_
 have H:HZ w0 _ _ [_] _:=H
 refine zA h H eX O3 (λx=>[_,x]) λa p2 w X H h=>?_
 refine cz k<|rg λK k=>ae 1 h O λa h=>cz k ?_
 obtain⟨J4,a7,f⟩:=bv f
 refine dA (λa w=>∃(Z:FZ) (s4:Int),J4 s4=some u/\Fr 25 [(4,(pt p2)),(5,I s4)] a/\HZ w0 Zi Z [.blk p1 (aB (vL x0) 27),.blk p2 (aB [I 0,I 0,S []] 27)] w) ?_ ?_
 rintro a w ⟨Z,s4,f,h,H⟩
 subst a7
 refine rg λK k=>ae 1 h O λa h=>sC h H f O (λy5 f5=>dC call159 (fu f5 :)) λy5 f w X H a h=>?_
 refine ae 2 h O λa h=>sC h H f O (λy6 f6=>dC call70 (bc f6 :)) λy6 f w X H a h=>?_
 refine zS h H 1 aq O3 O3 O2 λw H=>?_
 refine cN k h [4] [_] λh=>?_
 cases f
 refine r1 hr h O (aO H 1 aQ aq O3) ⟨O,H.out⟩
 refine rg λK k=>ae 1 h O λa h=>s1 h O (bY kU O (g.at H.zin)) λa h=>ae 1 h O λa h=>cz k<|lb ?_
 obtain⟨B8,a8,f⟩:=bv f
 refine ib (λF a w=>∃(Z:FZ) (s8:Int × Int),loopF B8 F s8=some u/\Fr 25 [(2,(pt p1)),(4,(pt p2)),(5,I s8.1),(8,E),(9,I (x1.length:Int)),(10,I s8.2)] a/\HZ w0 Zi Z [.blk p1 (aB (vL x0) 27),.blk p2 (aB [I 0,I 0,S []] 27)] w/\bx Z E 3 vL x1) KK ⟨_,_,f,h.to,H,g⟩ ?_
 rintro F a w ⟨Z,s8,f,h,H,g⟩
 obtain⟨F,rfl,n8,W,f⟩:=iJ a8 f
 refine rg λK k=>sB h f O (bn O O) λb0 b1 f a h=>cz k<|sq<|cI h f O (λY f=>?_) λY f=>?_
 refine ag<|sb ?_
 refine rg λK k=>?_
 obtain⟨a1,f⟩:=ck f
 obtain⟨ad,af,f⟩:=bv f
 refine bB h kU aq O O (g.at H.zin) (λ_=>rfl) ad a1.1 (by rw[af];exact ak a1) rfl λa b2 G h=>?_
 refine s1 h O (ay O3 O G aQ aq O O) λa h=>zA h H eX O3 (λx=>[_,_,x]) λa b3 w X H h=>?_
 have G:=At.ext G X
 refine zS h H 2 aq O3 O3 O3 λw H=>?_
 refine cz k<|rg λK k=>s1 h O (lA H 2 aQ aq O3) λa h=>s1 h O (lA H 0 aQ aq O3) λa h=>sC h H f O (λao f17=>dC call195 (gv f17 :)) λao f w X H a h=>?_
 refine cN k h [2,4,5,8,9,10,16] O7 λh=>?_
 refine cI h f O (λa6 f=>?_) λa6 f=>?_
 refine ah<|ae 1 h O λa h=>sI h f O (aw O O) λb4 b5 f a h=>ae 1 h O λa h=>am<|ah<|sI h f O (aw O O) λb6 b7 f a h=>ae 1 h O λa h=>am ?_
 exact fK (bp ⟨fq W f,h.to,(H.cT 2 O),g⟩)
 refine ag<|ah<|sI h f O (aw O O) λbb bk f a h=>ae 1 h O λa h=>am ?_
 exact fK (bp ⟨fq W f,h.to,(H.cT 2 O),g⟩)
 exact aR (bp ⟨f,h.to,H⟩)
theorem pU{x0:V}{x1:List (V)}{u:V}{w0:World}(f:iq x0 x1=some u){F:Value}(g:bx (hz w0) F 3 vL x1):Calls prog 173 [(vA x0),F].toArray w0 (bj λv w=>v=.agg #[I u.k,I u.n,S u.s]/\Ext w0 w):=by
 refine en func173 [0,1] O2 λQ a Zi Z a6 H h hr=>?_
 have g:=g.sub a6
 clear a6
 unfold iq at f
 refine rg λK k=>aZ h H O O3 O O λa p1 w X H h=>?_
 have H:HZ w0 _ _ [_] _:=H
 refine zA h H eX O3 (λx=>[_,x]) λa p2 w X H h=>?_
 refine cz k<|rg λK k=>ae 1 h O λa h=>cz k ?_
 have H:=H.fc 27 3 rfl
 have H:HZ w0 _ _ O3 _:=H
 obtain⟨J4,b2,f⟩:=bv f
 refine dA (λa w=>∃(Z:FZ) (s4:(List (V))) (J:Value),J4 s4=some u/\Fr 24 [(4,(pt p2)),(5,J)] a/\HZ w0 Zi Z [.blk p1 (aB (vL x0) 27),.blk p2 (aB [I 0,I 0,S []] 27),.row 27 3 J (s4:List (V)).length ((s4:List (V)).flatMap vL)] w) ?_ ?_
 rintro a w ⟨Z,s4,J,f,h,H⟩
 subst b2
 refine rg λK k=>ae 1 h O λa h=>sC h H f O (λy6 f6=>dC call168 (iU f6 (H.o1 (i:=2) (enc:=vL) O) :)) λy6 f w X H a h=>?_
 refine zS h H 1 aq O3 O3 O3 λw H=>?_
 refine cz k ?_
 cases f
 refine r1 hr h O (aO H 1 aQ aq O3) ⟨O,H.out⟩
 refine rg λK k=>ae 1 h O λa h=>s1 h O (bY kU O (g.at H.zin)) λa h=>ae 1 h O λa h=>cz k<|lb ?_
 obtain⟨B8,b3,f⟩:=bv f
 refine ib (λW a w=>∃(Z:FZ) (s8:Int × (List (V))) (E:Value),loopF B8 W s8=some u/\Fr 24 [(2,(pt p1)),(4,(pt p2)),(5,E),(8,F),(9,I (x1.length:Int)),(10,I s8.1)] a/\HZ w0 Zi Z [.blk p1 (aB (vL x0) 27),.blk p2 (aB [I 0,I 0,S []] 27),.row 27 3 E (s8.2:List (V)).length ((s8.2:List (V)).flatMap vL)] w/\bx Z F 3 vL x1) KK ⟨_,_,_,f,h.to,H,g⟩ ?_
 rintro W a w ⟨Z,s8,E,f,h,H,g⟩
 obtain⟨W,rfl,n8,a7,f⟩:=iJ b3 f
 refine rg λK k=>sB h f O (bn O O) λbb bk f a h=>cz k<|sq<|cI h f O (λa8 f=>?_) λa8 f=>?_
 refine ag<|sb ?_
 refine rg λK k=>?_
 obtain⟨ad,f⟩:=ck f
 obtain⟨Y,b4,f⟩:=bv f
 refine bB h kU aq O O (g.at H.zin) (λ_=>rfl) Y ad.1 (by rw[b4];exact ak ad) rfl λa bq a1 h=>?_
 refine s1 h O (ay O3 O a1 aQ aq O O) λa h=>zA h H eX O3 (λx=>[_,_,_,x]) λa bs w X H h=>?_
 have a1:=At.ext a1 X
 refine zS h H 3 aq O3 O3 O4 λw H=>?_
 refine cz k<|rg λK k=>s1 h O (lA H 3 aQ aq O3) λa h=>s1 h O (lA H 0 aQ aq O3) λa h=>sC h H f O (λb5 f18=>dC call195 (gv f18 :)) λb5 f w X H a h=>?_
 refine cN k h [2,4,5,7,8,9,10,16] O8 λh=>?_
 refine cI h f O (λaf f=>?_) λaf f=>?_
 refine ah<|ae 1 h O λa h=>s1 h O (lA H 3 aQ aq O3) λa h=>cZ (enc:=vL) ([Y]:List (V)) h H kU aq eX O (zl:=[I 0,I 0,S []]) kR (cb 1 3) [_] O3 O O O O O λa b0 Z w ao X H G h=>?_
 have g:=g.sub ao
 obtain⟨b6,f⟩:=ck f
 obtain⟨c6,b7,f⟩:=bv f
 refine cg (enc:=vL) (out:=s8.2) (data:=[Y]) h H 2 O kU x5 O O O G (λ_=>rfl) (λ_ _=>rfl) b6 O λa b1 w H h=>?_
 rw[<-b7]at H
 have H:HZ w0 _ _ O4 _:=H
 refine ae 1 h O λa h=>am<|cO h [2,4,5,8,9,10] O6 λh=>?_
 refine ah<|sI h f O (aw O O) λc7 c8 f a h=>ae 1 h O λa h=>am ?_
 exact fK (iP ⟨fq a7 f,h.to,(H.cT 3 O),g⟩)
 refine ag<|ah<|sI h f O (aw O O) λcc ch f a h=>ae 1 h O λa h=>am ?_
 exact fK (iP ⟨fq a7 f,h.to,(H.cT 3 O),g⟩)
 exact aR (iP ⟨f,h.to,H⟩)
theorem px{x0:V}{x1:List (V)}{u:V}{w0:World}(f:iu x0 x1=some u){E:Value}(g:bx (hz w0) E 3 vL x1):Calls prog 175 [(vA x0),E].toArray w0 (bj λv w=>v=.agg #[I u.k,I u.n,S u.s]/\Ext w0 w):=by
 refine en func175 [0,1] O2 λQ a Zi Z W H h hr=>?_
 have g:=g.sub W
 clear W
 unfold iu at f
 refine rg λK k=>aZ h H O O3 O O λa p1 w X H h=>?_
 have H:HZ w0 _ _ [_] _:=H
 refine zA h H eX O3 (λx=>[_,x]) λa p2 w X H h=>?_
 refine cz k ?_
 obtain⟨J4,a8,f⟩:=bv f
 refine dA (λa w=>∃(Z:FZ) (Y:Int × Int × (List UInt8)),J4 Y=some u/\Fr 25 [(4,(pt p2))] a/\HZ w0 Zi Z [.blk p1 (aB (vL x0) 27),.blk p2 (aB [I Y.1,I Y.2.1,S Y.2.2] 27)] w) ?_ ?_
 rintro a w ⟨Z,Y,f,h,H⟩
 subst a8
 refine rg λK k=>sC h H f O (λy5 f5=>dC call18 (az f5 :)) λy5 f w X H a h=>?_
 refine zS h H 1 aq O3 O3 O2 λw H=>?_
 refine cz k ?_
 cases f
 refine r1 hr h O (aO H 1 aQ aq O3) ⟨O,H.out⟩
 refine rg λK k=>ae 1 h O λa h=>s1 h O (bY kU O (g.at H.zin)) λa h=>ae 1 h O λa h=>cz k<|lb ?_
 obtain⟨B7,ad,f⟩:=bv f
 refine ib (λF a w=>∃(Z:FZ) (J:Int × Int × Int × (List UInt8)),loopF B7 F J=some u/\Fr 25 [(2,(pt p1)),(4,(pt p2)),(7,E),(8,I (x1.length:Int)),(9,I J.1)] a/\HZ w0 Zi Z [.blk p1 (aB (vL x0) 27),.blk p2 (aB [I J.2.1,I J.2.2.1,S J.2.2.2] 27)] w/\bx Z E 3 vL x1) KK ⟨_,_,f,h.to,H,g⟩ ?_
 rintro F a w ⟨Z,J,f,h,H,g⟩
 obtain⟨F,rfl,n7,af,f⟩:=iJ ad f
 refine rg λK k=>sB h f O (bn O O) λz9 e9 f a h=>cz k<|sq<|cI h f O (λa1 f=>?_) λa1 f=>?_
 refine ag<|sb ?_
 refine rg λK k=>ae 1 h O λa h=>?_
 obtain⟨a6,f⟩:=ck f
 obtain⟨ao,b0,f⟩:=bv f
 refine bB h kU aq O O (g.at H.zin) (λ_=>rfl) ao a6.1 (by rw[b0];exact ak a6) rfl λa b4 G h=>?_
 refine s1 h O (ay O3 O G aQ aq O O) λa h=>zA h H eX O3 (λx=>[_,_,x]) λa b5 w X H h=>?_
 have G:=At.ext G X
 refine ae 1 h O λa h=>zS h H 2 aq O3 O3 O3 λw H=>?_
 refine cz k<|rg λK k=>s1 h O (lA H 2 aQ aq O3) λa h=>s1 h O (lA H 0 aQ aq O3) λa h=>sC h H f O (λb1 f16=>dC call195 (gv f16 :)) λb1 f w X H a h=>?_
 refine cN k h [2,4,5,7,8,9,16] O7 λh=>?_
 refine cI h f O (λa7 f=>?_) λa7 f=>?_
 refine rg λK k=>ae 1 h O λa h=>sI h f O (aw O O) λb6 b7 f a h=>sC h H f O (λb2 f19=>dC call159 (fu f19 :)) λb2 f w X H a h=>?_
 refine ae 2 h O λa h=>sC h H f O (λb3 f20=>dC call70 (bc f20 :)) λb3 f w X H a h=>?_
 refine zS h H 1 aq O3 O3 O3 λw H=>?_
 refine cN k h [4] [_] λh=>?_
 cases f
 refine r1 hr h O (aO H 1 aQ aq O3) ⟨O,H.out⟩
 refine ag<|ah<|sI h f O (aw O O) λbb bk f a h=>ae 1 h O λa h=>am ?_
 exact fK (bp ⟨fq af f,h.to,(H.cT 2 O),g⟩)
 exact aR (bp ⟨f,h.to,H⟩)
theorem pS{x0 x1 x2:Int}{x3:List (V)}{u:V}{w0:World}(f:iG x0 x1 x2 x3=some u){F:Value}(E:bx (hz w0) F 3 vL x3):Calls prog 176 [I x0,I x1,I x2,F].toArray w0 (bj λv w=>v=.agg #[I u.k,I u.n,S u.s]/\Ext w0 w):=by
 refine en func176 [0,1,2,3] O4 λQ a Zi Z G H h hr=>?_
 have E:=E.sub G
 clear G
 unfold iG at f
 refine rg λK k=>zA h H eX O3 (λx=>[x]) λa p1 w X H h=>?_
 refine cz k<|sq<|rg λK k=>ae 1 h O λa h=>sB h f O (bn O O) λz3 e3 f a h=>ae 1 h O λa h=>ai h O O (gF O) O O (λg=>an O) λa h=>?_
 obtain⟨z4,e4,f⟩:=bv f
 refine ai h O O (gF O) O O (λg=>vB e4 (bn (eg g O) O)) λa h=>?_
 refine sB h f O (ca O O) λz5 e5 f a h=>ae 1 h O λa h=>ai h O O (gF O) O O (λg=>an O) λa h=>?_
 obtain⟨z6,e6,f⟩:=bv f
 refine ai h O O (gF O) O O (λg=>vB e6 (bn (eg g O) O)) λa h=>?_
 refine sB h f O (ca O O) λz7 e7 f a h=>ae 1 h O λa h=>ai h O O (gF O) O O (λg=>an O) λa h=>?_
 refine ai h O O (gF O) O O (λg=>an O) λa h=>?_
 obtain⟨z8,e8,f⟩:=bv f
 refine ai h O O (gF O) O O (λg=>vB e8 (dS (eg g O) (eg g O))) λa h=>?_
 refine sB h f O (ca O O) λz9 e9 f a h=>ae 1 h O λa h=>ai h O O (gF O) O O (λg=>an O) λa h=>?_
 refine ai h O O (gF O) O O (λg=>an O) λa h=>?_
 refine ai h O O (gF O) O O (λg=>bY kU (eg g O) (E.at H.zin)) λa h=>?_
 refine ai h O O (gF O) O O (λg=>an O) λa h=>?_
 obtain⟨Y,f⟩:=ck f
 obtain⟨ao,a1,f⟩:=bv f
 refine ai h O O (gF O) O O (λg=>vI a1 (cm (eg g O) (eg g O) (Y g))) λa h=>?_
 obtain⟨b0,a6,f⟩:=bv f
 refine ai h O O (gF O) O O (λg=>vB a6 (dS (eg g O) (eg g O))) λa h=>?_
 refine sB h f O (ca O O) λb1 b2 f a h=>cN k h [0,1,2,3,8,31] O6 λh=>?_
 refine cI h f O (λJ f=>?_) λJ f=>?_
 refine rg λK k=>sC h H f O (λa7 f15=>dC call18 (az f15 :)) λa7 f w X H a h=>?_
 refine zS h H 0 aq O3 O3 [_] λw H=>?_
 refine cN k h [8] [_] λh=>?_
 cases f
 refine r1 hr h O (aO H 0 aQ aq O3) ⟨O,H.out⟩
 refine ag<|rg λK k=>ae 2 h O λa h=>sI h f O (bf O O) λb3 b4 f a h=>ae 1 h O λa h=>sI h f O (dB O O) λb5 b6 f a h=>ae 1 h O λa h=>sI h f O (bf O O) λb7 bb f a h=>sI h f O (aw O O) λbk bq f a h=>?_
 obtain⟨W,f⟩:=ck f
 obtain⟨a8,ad,f⟩:=bv f
 refine bB h kU aq O O (E.at H.zin) (λ_=>rfl) a8 W.1 (by rw[ad];exact ak W) rfl λa bs af h=>?_
 refine s1 h O (ay O3 O af aQ aq O O) λa h=>zS h H 0 aq O3 O3 [_] λw H=>?_
 refine cN k h [8] [_] λh=>?_
 cases f
 refine r1 hr h O (aO H 0 aQ aq O3) ⟨O,H.out⟩
theorem n_{x0:V}{x1 x2:Int}{x3:List (V)}{u:V}{w0:World}(f:fO x0 x1 x2 x3=some u){G:Value}(g:bx (hz w0) G 3 vL x3):Calls prog 177 [(vA x0),I x1,I x2,G].toArray w0 (bj λv w=>v=.agg #[I u.k,I u.n,S u.s]/\Ext w0 w):=by
 refine en func177 [0,1,2,3] O4 λQ a Zi Z a1 H h hr=>?_
 have g:=g.sub a1
 clear a1
 unfold fO at f
 refine rg λK k=>aZ h H O O3 O O λa p1 w X H h=>?_
 have H:HZ w0 _ _ [_] _:=H
 refine zA h H eX O3 (λx=>[_,x]) λa p2 w X H h=>?_
 refine cz k<|sq<|rg λK k=>ae 1 h O λa h=>sB h f O (bn O O) λz4 e4 f a h=>ae 1 h O λa h=>ai h O O (gF O) O O (λJ=>an O) λa h=>?_
 obtain⟨z5,e5,f⟩:=bv f
 refine ai h O O (gF O) O O (λJ=>vB e5 (bn (eg J O) O)) λa h=>?_
 refine sB h f O (ca O O) λz6 e6 f a h=>ae 1 h O λa h=>ai h O O (gF O) O O (λJ=>an O) λa h=>?_
 refine ai h O O (gF O) O O (λJ=>an O) λa h=>?_
 obtain⟨z7,e7,f⟩:=bv f
 refine ai h O O (gF O) O O (λJ=>vB e7 (dS (eg J O) (eg J O))) λa h=>?_
 refine sB h f O (ca O O) λz8 e8 f a h=>cN k h [1,2,3,4,8,20] O6 λh=>?_
 refine cI h f O (λb1 f=>?_) λb1 f=>?_
 refine rg λK k=>sC h H f O (λb2 f10=>dC call18 (az f10 :)) λb2 f w X H a h=>?_
 refine zS h H 1 aq O3 O3 O2 λw H=>?_
 refine cN k h [8] [_] λh=>?_
 cases f
 refine r1 hr h O (aO H 1 aQ aq O3) ⟨O,H.out⟩
 refine ag ?_
 obtain⟨b3,a6,f⟩:=bv f
 refine dA (λa w=>∃(Z:FZ) (F:Int × Int × (List UInt8)),b3 F=some u/\Fr 45 [(8,(pt p2))] a/\HZ w0 Zi Z [.blk p1 (aB (vL x0) 27),.blk p2 (aB [I F.1,I F.2.1,S F.2.2] 27)] w) ?_ ?_
 rintro a w ⟨Z,F,f,h,H⟩
 subst a6
 refine rg λK k=>sC h H f O (λb4 f13=>dC call18 (az f13 :)) λb4 f w X H a h=>?_
 refine zS h H 1 aq O3 O3 O2 λw H=>?_
 refine cz k ?_
 cases f
 refine r1 hr h O (aO H 1 aQ aq O3) ⟨O,H.out⟩
 refine rg λK k=>ae 1 h O λa h=>cz k<|lb ?_
 obtain⟨b5,a7,f⟩:=bv f
 refine ib (λW a w=>∃(Z:FZ) (E:Int × Int × Int × (List UInt8)),loopF b5 W E=some u/\Fr 45 [(1,I x1),(2,I x2),(3,G),(4,(pt p1)),(8,(pt p2)),(9,I E.1)] a/\HZ w0 Zi Z [.blk p1 (aB (vL x0) 27),.blk p2 (aB [I E.2.1,I E.2.2.1,S E.2.2.2] 27)] w/\bx Z G 3 vL x3) KK ⟨_,_,f,h.to,H,g⟩ ?_
 rintro W a w ⟨Z,E,f,h,H,g⟩
 obtain⟨W,rfl,c6,a8,f⟩:=iJ a7 f
 refine sq<|rg λK k=>ae 2 h O λa h=>sI h f O (aw O O) λc7 c8 f a h=>ae 1 h O λa h=>s1 h O (bY kU O (g.at H.zin)) λa h=>sB h f O (jX O O) λcc ch f a h=>cN k h [1,2,3,4,8,9,27] O7 λh=>?_
 refine cI h f O (λad f=>?_) λad f=>?_
 refine ag<|sb ?_
 refine fl h ?_
 refine bN 2 O ?_
 obtain⟨af,f⟩:=ck f
 obtain⟨Y,b6,f⟩:=bv f
 refine aT [31,32] O O O O false (.rel (λw' v'=>At w' v' vL Y 0)) aI (λw X=>?_) ?_
 skip
 exact have H:=H.ext X;fh kU aq O O (g.at H.zin) (λ_=>rfl) Y af.1 (by rw[b6];exact ak af)
 refine aT [33] O O O O false (.eq (vA Y)) trivial (λw X=>?_) ?_
 intro cp b7
 exact(ay O3 O b7 aQ aq O O).bC
 refine F1 O (λw X=>have H:=H.ext X;lA H 0 aQ aq O3) ?_
 refine fC f O (λbb f24 w X=>dC call195 (gv f24 :)) λbb f=>?_
 refine fE [1,2,3,4,8,9,36] O7 H λa w X H h=>?_
 refine cI h f O (λao f=>?_) λao f=>?_
 refine rg λK k=>ae 3 h O λa h=>sI h f O (aw O O) λct cx f a h=>sI h f O (bf O O) λcy da f a h=>?_
 obtain⟨b0,f⟩:=ck f
 obtain⟨bk,bq,f⟩:=bv f
 refine bB h kU aq O O (g.at H.zin) (λ_=>rfl) bk b0.1 (by rw[bq];exact ak b0) rfl λa dd bs h=>?_
 refine s1 h O (ay O3 O bs aQ aq O O) λa h=>zS h H 1 aq O3 O3 O2 λw H=>?_
 refine cN k h [8] [_] λh=>?_
 cases f
 refine r1 hr h O (aO H 1 aQ aq O3) ⟨O,H.out⟩
 refine ag<|ah<|ae 2 h O λa h=>sI h f O (aw O O) λdj dn f a h=>ae 1 h O λa h=>am ?_
 exact fK (bp ⟨fq a8 f,h.to,H,g⟩)
 exact aR (bp ⟨f,h.to,H⟩)
theorem nY{x0:List UInt8}{g:(List UInt8)}{w0:World}(f:fR x0=some g):Calls prog 162 [S x0].toArray w0 (bj λv w=>v=S g/\Ext w0 w):=by
 refine en func162 [0] [_] λQ a Zi Z Y H h hr=>?_
 clear Y
 unfold fR at f
 refine rg λK k=>ae 1 h O λa h=>cz k<|rg λK k=>ae 1 h O λa h=>cz k<|rg λK k=>ae 1 h O λa h=>cz k ?_
 obtain⟨J2,a1,f⟩:=bv f
 refine dA (λa w=>∃(Z:FZ) (s2:(List UInt8)),J2 s2=some g/\Fr 29 [(3,S s2)] a/\HZ w0 Zi Z [] w) ?_ ?_
 rintro a w ⟨Z,s2,f,h,H⟩
 subst a1
 refine rg λK k=>ae 2 h O λa h=>cz k ?_
 cases f
 refine r1 hr h O O ⟨O,H.out⟩
 refine rg λK k=>ae 1 h O λa h=>s1 h O (dE U9 O) λa h=>ae 1 h O λa h=>cz k<|lb ?_
 obtain⟨B4,a6,f⟩:=bv f
 refine ib (λu a w=>∃(Z:FZ) (E:(List UInt8) × Bool × Int),loopF B4 u E=some g/\Fr 29 [(0,S x0),(3,S E.1),(4,.bool E.2.1),(7,I (x0.length:Int)),(8,I E.2.2)] a/\HZ w0 Zi Z [] w) KK ⟨_,_,f,h.to,H⟩ ?_
 rintro u a w ⟨Z,E,f,h,H⟩
 obtain⟨u,rfl,n4,G,f⟩:=iJ a6 f
 refine rg λK k=>sB h f O (bn O O) λz6 e6 f a h=>cz k<|sq<|cI h f O (λa7 f=>?_) λa7 f=>?_
 refine ag<|sb ?_
 refine rg λK k=>ae 2 h O λa h=>cz k<|sq<|rg λK k=>ae 2 h O λa h=>?_
 obtain⟨a8,f⟩:=ck f
 refine sI h f O (gi U9 O O a8) λb1 b2 f a h=>sB h f O (aD O O) λb3 b4 f a h=>cN k h [0,3,4,5,7,8,14] O7 λh=>?_
 refine cI h f O (λJ f=>?_) λJ f=>?_
 refine rg λK k=>ae 1 h O λa h=>sB h f O (oF O O) λb5 b6 f a h=>ae 1 h O λa h=>cN k h [0,3,4,7,8] O5 λh=>?_
 refine aR ?_
 refine ah<|sI h f O (aw O O) λb7 bb f a h=>ae 1 h O λa h=>am ?_
 exact fK (bp ⟨fq G f,h.to,H⟩)
 refine ag ?_
 obtain⟨ad,W,f⟩:=bv f
 refine dA (λa w=>∃(Z:FZ) (F:(List UInt8)),ad F=some g/\Fr 29 [(0,S x0),(3,S F),(5,I E.2.2),(7,I (x0.length:Int)),(8,I E.2.2)] a/\HZ w0 Zi Z [] w) ?_ ?_
 rintro a w ⟨Z,F,f,h,H⟩
 subst W
 refine rg λK k=>ae 1 h O λa h=>cz k<|ah<|ae 4 h O λa h=>sI h f O (aw O O) λbk bq f a h=>?_
 obtain⟨af,f⟩:=ck f
 refine sS h f O (u_ U9 O O O af) λbs c6 f a h=>?_
 obtain⟨ao,f⟩:=ck f
 refine sS h f O (cE O O ao) λc7 c8 f a h=>ae 1 h O λa h=>am<|cO h [0,3,4,7,8] O5 λh=>?_
 refine ah<|sI h f O (aw O O) λcc ch f a h=>ae 1 h O λa h=>am ?_
 exact fK (bp ⟨fq G f,h.to,H⟩)
 refine rg λK k=>ae 1 h O λa h=>cz k<|cI h f O (λX f=>?_) λX f=>?_
 refine ah<|ae 1 h O λa h=>?_
 obtain⟨b0,f⟩:=ck f
 refine sS h f O (cE O O b0) λcp ct f a h=>ae 1 h O λa h=>am ?_
 exact bp ⟨f,h.to,H⟩
 exact ag (bp ⟨f,h.to,H⟩)
 exact aR (bp ⟨f,h.to,H⟩)
theorem pK{x0:List UInt8}{g:Int}{w0:World}(f:iz x0=some g):Calls prog 160 [S x0].toArray w0 (bj λv w=>v=I g/\Ext w0 w):=by
 refine en func160 [0] [_] λQ a Zi Z F H h hr=>?_
 clear F
 unfold iz at f
 refine rg λK k=>ae 1 h O λa h=>cz k<|rg λK k=>ae 1 h O λa h=>cz k ?_
 obtain⟨J2,G,f⟩:=bv f
 refine dA (λa w=>∃(Z:FZ) (J:Int),J2 J=some g/\Fr 11 [(3,I J)] a/\HZ w0 Zi Z [] w) ?_ ?_
 rintro a w ⟨Z,J,f,h,H⟩
 subst G
 refine rg λK k=>ae 2 h O λa h=>cz k ?_
 cases f
 refine r1 hr h O O ⟨O,H.out⟩
 refine rg λK k=>ae 1 h O λa h=>wA h H U9 O O λa p3 w X H h=>?_
 have H:HZ w0 _ _ [_] _:=H
 refine cz k<|lb ?_
 obtain⟨B5,W,f⟩:=bv f
 refine ib (λu a w=>∃(Z:FZ) (E:Int × Nat),loopF B5 u E=some g/\Fr 11 [(3,I E.1),(5,(pt p3))] a/\HZ w0 Zi Z [.blk p3 (.stringIter ⟨(x0:List UInt8).toArray⟩ (E.2))] w) KK ⟨_,_,f,h.to,H⟩ ?_
 rintro u a w ⟨Z,E,f,h,H⟩
 obtain⟨u,rfl,n5,Y,f⟩:=iJ W f
 refine rg λK k=>zD h H 0 O O O (hl':=[_]) O λa w H h=>?_
 refine sB h f O (wa O) λz7 e7 f a h=>cz k<|sq<|cI h f O (λa1 f=>?_) λa1 f=>?_
 refine ag<|lb<|ah<|ae 1 h O λa h=>sI h f O (aw O O) λa6 a7 f a h=>ae 1 h O λa h=>am ?_
 exact fK (bp ⟨fq Y f,h.to,H⟩)
 exact aR (bp ⟨f,h.to,(H.cT 0 O)⟩)
theorem pW{x0:Int}{E:List UInt8}{g:Int × Bool}{w0:World}(f:ip x0 E=some g):Calls prog 164 [I x0,S E].toArray w0 (bj λv w=>v=.tuple #[I g.1,.bool g.2]/\Ext w0 w):=by
 refine en func164 [0,1] O2 λQ a Zi Z u H h F=>?_
 clear u
 unfold ip at f
 refine rg λK k=>ae 2 h O λa h=>cz k<|rg λK k=>ae 1 h O λa h=>sI h f O (cm O O (by decide)) λG J f a h=>ae 1 h rfl λa h=>cN k h [0,1] O2 λh=>?_
 refine rg λK k=>ae 1 h O λa h=>sI h f O (pO U2 O O) λW X f a h=>ae 1 h O λa h=>s1 h O (dE U9 O) λa h=>sI h f O (pT U2 O O) λY e3 f a h=>ae 1 h O λa h=>sB h f O (gI O O) λz4 e4 f a h=>ae 2 h O λa h=>cN k h [4,5] O2 λh=>?_
 cases f
 refine r2 F h O O O ⟨O,H.out⟩
end Go.Proofs.YtnllbjchcfpmpaaGreatDoor
