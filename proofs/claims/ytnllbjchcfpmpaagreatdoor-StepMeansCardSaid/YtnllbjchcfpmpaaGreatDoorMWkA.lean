/- Joined texts. -/
import Derived.Test.YtnllbjchcfpmpaaGreatDoorMLibC
import Derived.Test.YtnllbjchcfpmpaaGreatDoorMS0
set_option linter.all false
namespace Go.Proofs.YtnllbjchcfpmpaaGreatDoor
open Go.Stp Go.RowKit Go.ValP Go.Sp _root_.Go.Proofs.Tryz
set_option maxRecDepth 100000
theorem bH{x0:Int}{f:V}{w0:World}(u:bW x0=some f):Calls prog 14 [I x0].toArray w0 (bj λv w=>v=.agg #[I f.k,I f.n,S f.s]/\Ext w0 w):=by
 refine en func14 [0] [_] λQ a Zi Z g H h E=>?_
 clear g
 unfold bW at u
 refine rg λK k=>zA h H eX O3 (λx=>[x]) λa F w X H h=>?_
 refine cz k<|rg λK k=>ae 1 h O λa h=>s1 h O (aS my O2 O3 O O) λa h=>zS h H 0 aq O3 O3 [_] λw H=>?_
 refine cz k ?_
 cases u
 refine r1 E h O (aO H 0 aQ aq O3) ⟨O,H.out⟩
theorem az{x0:Int}{f:V}{w0:World}(u:aG x0=some f):Calls prog 18 [I x0].toArray w0 (bj λv w=>v=.agg #[I f.k,I f.n,S f.s]/\Ext w0 w):=by
 refine en func18 [0] [_] λQ a Zi Z g H h E=>?_
 clear g
 unfold aG at u
 refine rg λK k=>zA h H eX O3 (λx=>[x]) λa F w X H h=>?_
 refine cz k<|rg λK k=>ae 1 h O λa h=>s1 h O (aS my O2 O3 O O) λa h=>zS h H 0 aq O3 O3 [_] λw H=>?_
 refine cz k ?_
 cases u
 refine r1 E h O (aO H 0 aQ aq O3) ⟨O,H.out⟩
theorem bh{x0:Bool}{f:V}{w0:World}(g:bu x0=some f):Calls prog 17 [.bool x0].toArray w0 (bj λv w=>v=.agg #[I f.k,I f.n,S f.s]/\Ext w0 w):=by
 refine en func17 [0] [_] λQ a Zi Z u H h Y=>?_
 clear u
 unfold bu at g
 refine rg λK k=>zA h H eX O3 (λx=>[x]) λa J w X H h=>?_
 refine cz k<|rg λK k=>s1 h O (aS my [_] O3 O O) λa h=>zA h H eX O3 (λx=>[_,x]) λa W w X H h=>?_
 refine zS h H 1 aq O3 O3 O2 λw H=>?_
 refine cz k ?_
 obtain⟨J4,E,g⟩:=bv g
 refine dA (λa w=>∃(Z:FZ) (F:Int),J4 F=some f/\Fr 8 [(2,(pt J)),(3,(pt W))] a/\HZ w0 Zi Z [.blk J (aB [I 0,I 0,S []] 27),.blk W (aB [I 3,I F,S []] 27)] w) ?_ ?_
 rintro a w ⟨Z,F,g,h,H⟩
 subst E
 refine rg λK k=>s1 h O (lA H 1 aQ aq O3) λa h=>zS h H 0 aq O3 O3 O2 λw H=>?_
 refine cz k ?_
 cases g
 refine r1 Y h O (aO H 0 aQ aq O3) ⟨O,H.out⟩
 refine rg λK k=>ae 1 h O λa h=>cz k<|cI h g O (λG g=>?_) λG g=>?_
 refine ah<|s1 h O (ab O cB O Z2 O O) λa h=>zS h H 1 Z2 [_] O3 O2 λw H=>?_
 refine am ?_
 exact bp ⟨g,h.to,H⟩
 exact ag (bp ⟨g,h.to,H⟩)
theorem bI{x0:List UInt8}{g:V}{w0:World}(f:bw x0=some g):Calls prog 16 [S x0].toArray w0 (bj λv w=>v=.agg #[I g.k,I g.n,S g.s]/\Ext w0 w):=by
 refine en func16 [0] [_] λQ a Zi Z u H h F=>?_
 clear u
 unfold bw at f
 refine rg λK k=>zA h H eX O3 (λx=>[x]) λa J w X H h=>?_
 refine cz k<|sq<|rg λK k=>ae 1 h O λa h=>s1 h O (dE U9 O) λa h=>sB h f O (dS O O) λW Y f a h=>cz k<|cI h f O (λE f=>?_) λE f=>?_
 refine rg λK k=>sC h H f O (λG f5=>dC call18 (az f5 :)) λG f w X H a h=>?_
 refine zS h H 0 aq O3 O3 [_] λw H=>?_
 refine cN k h [2] [_] λh=>?_
 cases f
 refine r1 F h O (aO H 0 aQ aq O3) ⟨O,H.out⟩
 refine ag<|rg λK k=>ae 1 h O λa h=>s1 h O (aS my O2 O3 O O) λa h=>zS h H 0 aq O3 O3 [_] λw H=>?_
 refine cN k h [2] [_] λh=>?_
 cases f
 refine r1 F h O (aO H 0 aQ aq O3) ⟨O,H.out⟩
theorem bc{x0:Int}{F:Bool}{g:V}{w0:World}(f:bz x0 F=some g):Calls prog 70 [I x0,.bool F].toArray w0 (bj λv w=>v=.agg #[I g.k,I g.n,S g.s]/\Ext w0 w):=by
 refine en func70 [0,1] O2 λQ a Zi Z u H h G=>?_
 clear u
 unfold bz at f
 refine rg λK k=>zA h H eX O3 (λx=>[x]) λa Y w X H h=>?_
 refine cz k<|sq<|rg λK k=>ae 1 h O λa h=>sB h f O (dI O) λz3 e3 f a h=>cz k<|cI h f O (λE f=>?_) λE f=>?_
 refine rg λK k=>sC h H f O (λJ f5=>dC call18 (az f5 :)) λJ f w X H a h=>?_
 refine zS h H 0 aq O3 O3 [_] λw H=>?_
 refine cN k h [4] [_] λh=>?_
 cases f
 refine r1 G h O (aO H 0 aQ aq O3) ⟨O,H.out⟩
 refine ag<|rg λK k=>ae 1 h O λa h=>sC h H f O (λW f6=>dC call14 (bH f6 :)) λW f w X H a h=>?_
 refine zS h H 0 aq O3 O3 [_] λw H=>?_
 refine cN k h [4] [_] λh=>?_
 cases f
 refine r1 G h O (aO H 0 aQ aq O3) ⟨O,H.out⟩
theorem lP{x0:V}{E:Bool}{w0:World}(f:co x0=some E):Calls prog 26 [(vA x0)].toArray w0 (bj λv w=>v=.bool E/\Ext w0 w):=by
 refine en func26 [0] [_] λQ a Zi Z Y H h u=>?_
 clear Y
 unfold co at f
 refine rg λK k=>aZ h H O O3 O O λa p1 w X H h=>?_
 have H:HZ w0 _ _ [_] _:=H
 refine ae 1 h O λa h=>cz k<|sq<|rg λK k=>s1 h O (ab O cB O Z3 O O) λa h=>s1 h O (l1 H 0 A3) λa h=>cz k<|lb<|rg λK k=>sB h f O (aD O O) λz4 e4 f a h=>ae 1 h O λa h=>cN k h [1,4,5] O3 λh=>?_
 refine cI h f O (λa1 f=>?_) λa1 f=>?_
 refine rg λK k=>s1 h O (ab O cB O Z2 O O) λa h=>s1 h O (l1 H 0 A2) λa h=>sB h f O (aD O O) λz6 e6 f a h=>ae 1 h O λa h=>ai h O O (gT O) O O (λg=>ab O cB O Z9 O O) λa h=>?_
 refine ai h O O (gT O) O O (λg=>aE (eg g O) A9 (H.hp.get 0 O) O) λa h=>?_
 obtain⟨z7,e7,f⟩:=bv f
 refine ai h O O (gT O) O O (λg=>vB e7 (aH (eg g O) O)) λa h=>?_
 refine sB h f O (bK O O) λz8 e8 f a h=>ae 1 h O λa h=>cN k h [2] [_] λh=>?_
 cases f
 refine r1 u h O O ⟨O,H.out⟩
 refine rg λK k=>sB h f O (aD O O) λz9 e9 f a h=>ae 1 h O λa h=>cz k<|cI h f O (λF f=>?_) λF f=>?_
 refine rg λK k=>s1 h O (ab O cB O Z2 O O) λa h=>s1 h O (l1 H 0 A2) λa h=>sB h f O (fN O O) λao b0 f a h=>ae 1 h O λa h=>ai h O O (gT O) O O (λg=>ab O cB O Z9 O O) λa h=>?_
 refine ai h O O (gT O) O O (λg=>aE (eg g O) A9 (H.hp.get 0 O) O) λa h=>?_
 obtain⟨b1,a6,f⟩:=bv f
 refine ai h O O (gT O) O O (λg=>vB a6 (aH (eg g O) O)) λa h=>?_
 refine sB h f O (bK O O) λb2 b3 f a h=>ae 1 h O λa h=>cN k h [2] [_] λh=>?_
 cases f
 refine r1 u h O O ⟨O,H.out⟩
 refine rg λK k=>sB h f O (aD O O) λb4 b5 f a h=>ae 1 h O λa h=>cN k h [1,4,25] O3 λh=>?_
 refine cI h f O (λG f=>?_) λG f=>?_
 refine rg λK k=>s1 h O (ab O cB O Z2 O O) λa h=>s1 h O (l1 H 0 A2) λa h=>sB h f O (aD O O) λb6 b7 f a h=>ae 1 h O λa h=>ai h O O (gT O) O O (λg=>ab O cB O Z9 O O) λa h=>?_
 refine ai h O O (gT O) O O (λg=>aE (eg g O) A9 (H.hp.get 0 O) O) λa h=>?_
 refine ai h O O (gT O) O O (λg=>dE U9 (eg g O)) λa h=>?_
 obtain⟨bb,a7,f⟩:=bv f
 refine ai h O O (gT O) O O (λg=>vB a7 (jX (eg g O) O)) λa h=>?_
 refine sB h f O (bK O O) λbk bq f a h=>ae 1 h O λa h=>cN k h [2] [_] λh=>?_
 cases f
 refine r1 u h O O ⟨O,H.out⟩
 refine rg λK k=>sB h f O (aD O O) λbs c6 f a h=>ae 1 h O λa h=>cz k<|cI h f O (λJ f=>?_) λJ f=>?_
 refine rg λK k=>s1 h O (ab O cB O Z2 O O) λa h=>s1 h O (l1 H 0 A2) λa h=>sI h f O (dN O O) λc7 c8 f a h=>s1 h O (ab O cB O Z2 O O) λa h=>s1 h O (l1 H 0 A2) λa h=>sB h f O (aD O O) λcc ch f a h=>ae 1 h O λa h=>ai h O O (gT O) O O (λg=>ab O cB O Z9 O O) λa h=>?_
 refine ai h O O (gT O) O O (λg=>aE (eg g O) A9 (H.hp.get 0 O) O) λa h=>?_
 obtain⟨cp,a8,f⟩:=bv f
 refine ai h O O (gT O) O O (λg=>vB a8 (aH (eg g O) O)) λa h=>?_
 refine sB h f O (bK O O) λct cx f a h=>ae 1 h O λa h=>cN k h [2] [_] λh=>?_
 cases f
 refine r1 u h O O ⟨O,H.out⟩
 refine rg λK k=>sB h f O (aD O O) λcy da f a h=>ae 1 h O λa h=>cN k h [1,49] O2 λh=>?_
 refine cI h f O (λW f=>?_) λW f=>?_
 refine rg λK k=>s1 h O (ab O cB O Z2 O O) λa h=>s1 h O (l1 H 0 A2) λa h=>sB h f O (gI O O) λdd dj f a h=>ae 1 h O λa h=>ai h O O (gT O) O O (λg=>ab O cB O Z2 O O) λa h=>?_
 refine ai h O O (gT O) O O (λg=>aE (eg g O) A2 (H.hp.get 0 O) O) λa h=>?_
 obtain⟨dn,ad,f⟩:=bv f
 refine ai h O O (gT O) O O (λg=>vB ad (jX (eg g O) O)) λa h=>?_
 refine sB h f O (bK O O) λdv dz f a h=>ae 1 h O λa h=>ai h O O (gT O) O O (λg=>ab O cB O Z9 O O) λa h=>?_
 refine ai h O O (gT O) O O (λg=>aE (eg g O) A9 (H.hp.get 0 O) O) λa h=>?_
 obtain⟨e1,af,f⟩:=bv f
 refine ai h O O (gT O) O O (λg=>vB af (aH (eg g O) O)) λa h=>?_
 refine sB h f O (bK O O) λe2 e3 f a h=>ae 1 h O λa h=>cN k h [2] [_] λh=>?_
 cases f
 refine r1 u h O O ⟨O,H.out⟩
 refine ag<|rg λK k=>ae 1 h O λa h=>cz k ?_
 cases f
 refine r1 u h O O ⟨O,H.out⟩
theorem mE{x0 x1 g:V}{w0:World}(f:gO x0 x1=some g):Calls prog 114 [(vA x0),(vA x1)].toArray w0 (bj λv w=>v=.agg #[I g.k,I g.n,S g.s]/\Ext w0 w):=by
 refine en func114 [0,1] O2 λQ a Zi Z G H h F=>?_
 clear G
 unfold gO at f
 refine rg λK k=>aZ h H O O3 O O λa p1 w X H h=>?_
 have H:HZ w0 _ _ [_] _:=H
 refine aZ h H O O3 O O λa p2 w X H h=>?_
 have H:HZ w0 _ _ O2 _:=H
 refine zA h H eX O3 (λx=>[_,_,x]) λa p3 w X H h=>?_
 refine cz k<|sq<|rg λK k=>s1 h O (ab O cB O Z3 O O) λa h=>s1 h O (l1 H 0 A3) λa h=>sB h f O (fN O O) λz5 e5 f a h=>cN k h [2,3,4,7] O4 λh=>?_
 refine cI h f O (λJ f=>?_) λJ f=>?_
 refine rg λK k=>s1 h O (lA H 0 aQ aq O3) λa h=>zS h H 2 aq O3 O3 O3 λw H=>?_
 refine cN k h [4] [_] λh=>?_
 cases f
 refine r1 F h O (aO H 2 aQ aq O3) ⟨O,H.out⟩
 refine ag<|sq<|rg λK k=>s1 h O (ab O cB O Z3 O O) λa h=>s1 h O (l1 H 1 A3) λa h=>cN k h [4,10] O2 λh=>?_
 refine lb<|rg λK k=>sB h f O (aD O O) λz9 e9 f a h=>ae 1 h O λa h=>cz k<|cI h f O (λu f=>?_) λu f=>?_
 refine rg λK k=>sC h H f O (λW f11=>dC call16 (bI f11 :)) λW f w X H a h=>?_
 refine zS h H 2 aq O3 O3 O3 λw H=>?_
 refine cN k h [4] [_] λh=>?_
 cases f
 refine r1 F h O (aO H 2 aQ aq O3) ⟨O,H.out⟩
 refine rg λK k=>sB h f O (aD O O) λa6 a7 f a h=>ae 1 h O λa h=>cN k h [4,14] O2 λh=>?_
 refine cI h f O (λE f=>?_) λE f=>?_
 refine rg λK k=>sC h H f O (λY f14=>dC call17 (bh f14 :)) λY f w X H a h=>?_
 refine zS h H 2 aq O3 O3 O3 λw H=>?_
 refine cz k ?_
 cases f
 refine r1 F h O (aO H 2 aQ aq O3) ⟨O,H.out⟩
 refine ag<|rg λK k=>sC h H f O (λa1 f15=>dC call14 (bH f15 :)) λa1 f w X H a h=>?_
 refine zS h H 2 aq O3 O3 O3 λw H=>?_
 refine cz k ?_
 cases f
 refine r1 F h O (aO H 2 aQ aq O3) ⟨O,H.out⟩
theorem mD{x0:V}{f:Int}{w0:World}(u:kw x0=some f):Calls prog 115 [(vA x0)].toArray w0 (bj λv w=>v=I f/\Ext w0 w):=by
 refine en func115 [0] [_] λQ a Zi Z g H h E=>?_
 clear g
 unfold kw at u
 refine rg λK k=>aZ h H O O3 O O λa F w X H h=>?_
 have H:HZ w0 _ _ [_] _:=H
 refine ae 1 h O λa h=>cz k<|rg λK k=>s1 h O (ab O cB O Z3 O O) λa h=>s1 h O (l1 H 0 A3) λa h=>ae 1 h O λa h=>cN k h [2] [_] λh=>?_
 cases u
 refine r1 E h O O ⟨O,H.out⟩
theorem uD{x0:Int}{f:Bool}{w0:World}(g:m7 x0=some f):Calls prog 117 [I x0].toArray w0 (bj λv w=>v=.bool f/\Ext w0 w):=by
 refine en func117 [0] [_] λQ a Zi Z u H h E=>?_
 clear u
 unfold m7 at g
 refine rg λK k=>ae 1 h O λa h=>cz k<|rg λK k=>ae 1 h O λa h=>sB h g O (gI O O) λF G g a h=>ae 1 h O λa h=>cz k ?_
 cases g
 refine r1 E h O O ⟨O,H.out⟩
theorem mO{x0 F:Int}{u:Int × Bool}{w0:World}(f:kL x0 F=some u):Calls prog 74 [I x0,I F].toArray w0 (bj λv w=>v=.tuple #[I u.1,.bool u.2]/\Ext w0 w):=by
 refine en func74 [0,1] O2 λQ a Zi Z E H h G=>?_
 clear E
 unfold kL at f
 refine rg λK k=>ae 2 h O λa h=>cz k<|rg λK k=>ae 2 h O λa h=>sI h f O (aw O O) λz1 e1 f a h=>ae 1 h O λa h=>cN k h [0,1,6] O3 λh=>?_
 refine rg λK k=>ae 2 h O λa h=>sC h H f O (λJ f2=>dC call117 (uD f2 :)) λJ f w X H a h=>?_
 refine ae 1 h O λa h=>ai h O O (gT O) O O (λg=>an O) λa h=>?_
 refine ai h O O (gT O) O O (λg=>an O) λa h=>?_
 obtain⟨z3,W,f⟩:=bv f
 refine ai h O O (gT O) O O (λg=>vB W (dS (eg g O) (eg g O))) λa h=>?_
 refine ai h O O (gT O) O O (λg=>an O) λa h=>?_
 obtain⟨z4,Y,f⟩:=bv f
 refine ai h O O (gT O) O O (λg=>vB Y (dS (eg g O) O)) λa h=>?_
 obtain⟨z5,e5,f⟩:=bv f
 refine ai h O O (gT O) O O (λg=>vB e5 (tL U4 (eg g O) (eg g O))) λa h=>?_
 refine sB h f O (bK O O) λz6 e6 f a h=>ae 2 h O λa h=>cN k h [4,5] O2 λh=>?_
 cases f
 refine r2 G h O O O ⟨O,H.out⟩
theorem pN{x0 E:Int}{f:Int × Bool}{w0:World}(g:l_ x0 E=some f):Calls prog 75 [I x0,I E].toArray w0 (bj λv w=>v=.tuple #[I f.1,.bool f.2]/\Ext w0 w):=by
 refine en func75 [0,1] O2 λQ a Zi Z u H h F=>?_
 clear u
 unfold l_ at g
 refine rg λK k=>ae 2 h O λa h=>cz k<|rg λK k=>ae 2 h O λa h=>sI h g O (lw O) λJ W g a h=>sC h H g O (λG f2=>dC call74 (mO f2 :)) λG g w X H a h=>?_
 refine ae 4 h O λa h=>cN k h [4,5] O2 λh=>?_
 cases g
 refine r2 F h O O O ⟨O,H.out⟩
theorem jl{x0 g:Int}{w0:World}(f:f_ x0=some g):Calls prog 112 [I x0].toArray w0 (bj λv w=>v=.int .u64 g/\Ext w0 w):=by
 refine en func112 [0] [_] λQ a Zi Z u H h F=>?_
 clear u
 unfold f_ at f
 refine rg λK k=>ae 1 h O λa h=>cz k<|sq<|rg λK k=>ae 1 h O λa h=>sB h f O (bn O O) λG J f a h=>cz k<|cI h f O (λE f=>?_) λE f=>?_
 refine rg λK k=>ae 1 h O λa h=>sI h f O (db (by rw[U2];rfl) underlying151 rfl rfl) λW X f a h=>sI h f rfl (lw rfl) λY e5 f a h=>ae 1 h rfl λa h=>cN k h [2] [_] λh=>?_
 cases f
 refine r1 F h O O ⟨O,H.out⟩
 refine ag<|rg λK k=>ae 1 h O λa h=>sI h f O (db (by rw[U2];rfl) underlying151 rfl rfl) λz6 e6 f a h=>ae 1 h rfl λa h=>cN k h [2] [_] λh=>?_
 cases f
 refine r1 F h O O ⟨O,H.out⟩
theorem jV{x0:Int}{J:Bool}{g:Int × Bool}{w0:World}(f:dQ x0 J=some g):Calls prog 113 [.int .u64 x0,.bool J].toArray w0 (bj λv w=>v=.tuple #[I g.1,.bool g.2]/\Ext w0 w):=by
 refine en func113 [0,1] O2 λQ a Zi Z u H h E=>?_
 clear u
 unfold dQ at f
 refine rg λK k=>ae 2 h O λa h=>cz k<|sq<|rg λK k=>ae 1 h O λa h=>sB h f O (dS O O) λW X f a h=>cz k<|cI h f O (λF f=>?_) λF f=>?_
 refine rg λK k=>ae 2 h O λa h=>cN k h [4,5] O2 λh=>?_
 cases f
 refine r2 E h O O O ⟨O,H.out⟩
 refine ag<|cO h [0,1] O2 λh=>?_
 refine sq<|rg λK k=>ae 1 h O λa h=>cz k<|cI h f O (λG f=>?_) λG f=>?_
 refine rg λK k=>ae 1 h O λa h=>sI h f O (db (by rw[underlying151];rfl) U2 rfl rfl) λY e6 f a h=>sI h f rfl (lw rfl) λz7 e7 f a h=>ae 2 h rfl λa h=>cN k h [4,5] O2 λh=>?_
 cases f
 refine r2 E h O O O ⟨O,H.out⟩
 refine ag<|rg λK k=>ae 1 h O λa h=>sI h f O (db (by rw[underlying151];rfl) U2 rfl rfl) λz8 e8 f a h=>ae 2 h rfl λa h=>cN k h [4,5] O2 λh=>?_
 cases f
 refine r2 E h O O O ⟨O,H.out⟩
end Go.Proofs.YtnllbjchcfpmpaaGreatDoor
