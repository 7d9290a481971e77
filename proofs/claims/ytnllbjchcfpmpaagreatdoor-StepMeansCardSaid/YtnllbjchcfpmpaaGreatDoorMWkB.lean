/- Joined texts. -/
import Derived.Test.YtnllbjchcfpmpaaGreatDoorMWkA
set_option linter.all false
namespace Go.Proofs.YtnllbjchcfpmpaaGreatDoor
open Go.Stp Go.RowKit Go.ValP Go.Sp _root_.Go.Proofs.Tryz
set_option maxRecDepth 100000
theorem jg{x0:Int}{E:(List UInt8)}{w0:World}(f:dK x0=some E) (hG:GW w0):Calls prog 96 [I x0].toArray w0 (bj λv w=>v=S E/\Ext w0 w):=by
 refine en func96 [0] [_] λQ a Zi Z G H h hr=>?_
 clear G
 unfold dK at f
 refine rg λK k=>ae 1 h O λa h=>cz k<|rg λK k=>?_
 obtain⟨c2,f⟩:=ck f
 obtain⟨z3,e3,f⟩:=bv f
 refine cW (data:=z3) h H O O O ((by rw[e3];exact dC call42 (eG c2 (hG.ext H.out)))) λa6 Z w a7 X H g a h=>?_
 refine ae 1 h O λa h=>cz k<|sq<|rg λK k=>ae 1 h O λa h=>sB h f O (bn O O) λz6 e6 f a h=>ae 1 h O λa h=>ai h O O (gF O) O O (λu=>an O) λa h=>?_
 refine ai h O O (gF O) O O (λu=>an O) λa h=>?_
 refine ai h O O (gF O) O O (λu=>bY lg (eg u O) (g.at H.zin)) λa h=>?_
 obtain⟨z7,e7,f⟩:=bv f
 refine ai h O O (gF O) O O (λu=>vB e7 (dS (eg u O) (eg u O))) λa h=>?_
 refine sB h f O (ca O O) λz8 e8 f a h=>cN k h [0,3,12] O3 λh=>?_
 refine cI h f O (λJ f=>?_) λJ f=>?_
 refine rg λK k=>ae 1 h O λa h=>cz k ?_
 cases f
 refine r1 hr h O O ⟨O,H.out⟩
 refine ag<|rg λK k=>ae 2 h O λa h=>sI h f O (bf O O) λa8 ad f a h=>?_
 obtain⟨F,f⟩:=ck f
 obtain⟨W,Y,f⟩:=bv f
 refine bB h lg Z9 O O (g.at H.zin) (λ_=>rfl) W F.1 (by rw[Y];exact ak F) rfl λa af a1 h=>?_
 refine s1 h O (al O a1 A9 O) λa h=>ae 1 h O λa h=>cN k h [2] [_] λh=>?_
 cases f
 refine r1 hr h O O ⟨O,H.out⟩
theorem nC{x0:List UInt8}{u:Int × Bool}{w0:World}(f:cv x0=some u):Calls prog 110 [S x0].toArray w0 (bj λv w=>v=.tuple #[I u.1,.bool u.2]/\Ext w0 w):=by
 refine en func110 [0] [_] λQ a Zi Z bb H h hr=>?_
 clear bb
 unfold cv at f
 refine rg λK k=>ae 2 h O λa h=>cz k<|rg λK k=>ae 3 h O λa h=>cz k ?_
 obtain⟨J2,bk,f⟩:=bv f
 refine dA (λa w=>∃(Z:FZ) (G:Int × Int × Int),J2 G=some u/\Fr 87 [(4,.int .u64 G.1),(5,I G.2.1),(6,I G.2.2)] a/\HZ w0 Zi Z [] w) ?_ ?_
 rintro a w ⟨Z,G,f,h,H⟩
 subst bk
 obtain⟨J4,bq,f⟩:=bv f
 refine dA (λa w=>∃(Z:FZ) (s4:Int),J4 s4=some u/\Fr 87 [(4,.int .u64 s4),(5,I G.2.1),(6,I G.2.2)] a/\HZ w0 Zi Z [] w) ?_ ?_
 rintro a w ⟨Z,s4,f,h,H⟩
 subst bq
 refine sq<|rg λK k=>ae 1 h O λa h=>sB h f O (aD O O) λz6 e6 f a h=>ae 1 h O λa h=>ai h O O (gF O) O O (λF=>an O) λa h=>?_
 obtain⟨z7,e7,f⟩:=bv f
 refine ai h O O (gF O) O O (λF=>vB e7 (aD (eg F O) O)) λa h=>?_
 refine sB h f O (ca O O) λz8 e8 f a h=>cN k h [4,82] O2 λh=>?_
 refine cI h f O (λbs f=>?_) λbs f=>?_
 refine rg λK k=>ae 2 h O λa h=>cz k ?_
 cases f
 refine r2 hr h O O O ⟨O,H.out⟩
 refine ag<|rg λK k=>ae 1 h O λa h=>sC h H f O (λc6 f10=>dC call113 (jV f10 :)) λc6 f w X H a h=>?_
 refine ae 4 h O λa h=>cN k h [2,3] O2 λh=>?_
 cases f
 refine r2 hr h O O O ⟨O,H.out⟩
 refine rg λK k=>ae 1 h O λa h=>sI h f O (pO U3 O O) λdz e1 f a h=>ae 1 h O λa h=>cz k<|lb ?_
 obtain⟨c7,a7,f⟩:=bv f
 refine ib (λE a w=>∃(Z:FZ) (J:Int × Int),loopF c7 E J=some u/\Fr 87 [(4,.int .u64 J.1),(5,I G.2.1),(6,I G.2.2),(12,I J.2)] a/\HZ w0 Zi Z [] w) KK ⟨_,_,f,h.to,H⟩ ?_
 rintro E a w ⟨Z,J,f,h,H⟩
 obtain⟨E,rfl,e2,a8,f⟩:=iJ a7 f
 refine sq<|rg λK k=>ae 1 h O λa h=>sB h f O (bn O O) λe3 e4 f a h=>cz k<|cI h f O (λad f=>?_) λad f=>?_
 refine ag<|sb ?_
 refine rg λK k=>ae 1 h O λa h=>?_
 obtain⟨c8,f⟩:=ck f
 obtain⟨af,cc,f⟩:=bv f
 refine d_ (T:=Ext) (V:=.tuple #[.int .u64 af.1,.int .u64 af.2]) h O O O ((by rw[cc];exact dC call146 (nS c8))) λw X a h=>?_
 have H:=H.ext X
 refine ae 5 h O λa h=>cN k h [5,6,12,13,14] O5 λh=>?_
 refine sq<|rg λK k=>ae 1 h O λa h=>sB h f O (dS O O) λe5 e9 f a h=>cz k<|cI h f O (λao f=>?_) λao f=>?_
 refine rg λK k=>ae 2 h O λa h=>cN k h [2,3] O2 λh=>?_
 cases f
 refine r2 hr h O O O ⟨O,H.out⟩
 refine ag<|ah<|ae 2 h O λa h=>am<|cO h [4,5,6,12] O4 λh=>?_
 refine ah<|ae 1 h O λa h=>sI h f O (aw O O) λea eb f a h=>ae 1 h O λa h=>am ?_
 exact fK (bp ⟨fq a8 f,h.to,H⟩)
 exact aR (bp ⟨f,h.to,H⟩)
 refine rg λK k=>ae 1 h O λa h=>wA h H U9 O O λa W w X H h=>?_
 have H:HZ w0 _ _ [_] _:=H
 refine cN k h [4,5,6,16] O4 λh=>?_
 refine lb ?_
 obtain⟨ch,b0,f⟩:=bv f
 refine ib (λE a w=>∃(Z:FZ) (g:Int × Int × Int × Nat),loopF ch E g=some u/\Fr 87 [(4,.int .u64 g.1),(5,I g.2.1),(6,I g.2.2.1),(16,(pt W))] a/\HZ w0 Zi Z [.blk W (.stringIter ⟨(x0:List UInt8).toArray⟩ (g.2.2.2))] w) KK ⟨_,_,f,h.to,H⟩ ?_
 rintro E a w ⟨Z,g,f,h,H⟩
 obtain⟨E,rfl,ec,Y,f⟩:=iJ b0 f
 refine rg λK k=>zD h H 0 O O O (hl':=[_]) O λa w H h=>?_
 refine sB h f O (wa O) λed cp f a h=>cz k<|sq<|cI h f O (λa1 f=>?_) λa1 f=>?_
 refine ag<|lb<|rg λK k=>s1 h O (zU (Fa cp a1) O) λa h=>ae 1 h O λa h=>cz k ?_
 obtain⟨ct,b1,f⟩:=bv f
 refine Bg (λa w=>∃(Z:FZ) (a6:Int),ct a6=some u/\Fr 87 [(4,.int .u64 g.1),(5,I a6),(6,I g.2.2.1),(8,.int .i32 (rn x0 g.2.2.2)),(16,(pt W))] a/\HZ w0 Zi Z [.blk W (.stringIter ⟨(x0:List UInt8).toArray⟩ (iN x0 g.2.2.2))] w) ?_ ?_
 rintro a w ⟨Z,a6,f,h,H⟩
 subst b1
 refine rg λK k=>ae 1 h O λa h=>?_
 obtain⟨cx,f⟩:=ck f
 obtain⟨b2,cy,f⟩:=bv f
 refine d_ (T:=Ext) (V:=.tuple #[.int .u64 b2.1,.int .u64 b2.2]) h O O O ((by rw[cy];exact dC call146 (nS cx))) λw X a h=>?_
 have H:=H.ext X
 refine ae 5 h O λa h=>cN k h [5,6,8,9,10,16] O6 λh=>?_
 refine rg λK k=>ae 2 h O λa h=>sI h f O (bf O O) λef ei f a h=>sI h f O (db (by rw[underlying21];rfl) underlying151 rfl rfl) λej el f a h=>?_
 obtain⟨da,f⟩:=ck f
 obtain⟨b3,dd,f⟩:=bv f
 refine s1 (V:=.tuple #[.int .u64 b3.1,.int .u64 b3.2]) h O (by rw[dd];exact Ad rfl rfl rfl da) λa h=>ae 5 h rfl λa h=>cN k h [5,6,9,10,11,16] O6 λh=>?_
 refine sq<|rg λK k=>ae 2 h O λa h=>sI h f O (aw O O) λeo ep f a h=>sB h f O (dS O O) λer et f a h=>cN k h [5,6,10,16,59] O5 λh=>?_
 refine cI h f O (λb4 f=>?_) λb4 f=>?_
 refine rg λK k=>ae 2 h O λa h=>cN k h [2,3] O2 λh=>?_
 cases f
 refine r2 hr h O O O ⟨O,H.out⟩
 refine ag<|rg λK k=>ae 2 h O λa h=>cz k<|ah<|ae 1 h O λa h=>sI h f O (aw O O) λeu ew f a h=>ae 1 h O λa h=>am ?_
 exact fK (bp ⟨fq Y f,h.to,H⟩)
 refine rg λK k=>ae 1 h O λa h=>sB h f O (aD O O) λey ez f a h=>ae 1 h O λa h=>ai h O O (gT O) O O (λF=>an O) λa h=>?_
 obtain⟨eF,dj,f⟩:=bv f
 refine ai h O O (gT O) O O (λF=>vB dj (bn (eg F O) O)) λa h=>?_
 refine sB h f O (bK O O) λeJ eZ f a h=>ae 1 h O λa h=>cN k h [4,5,6,8,16,20] O6 λh=>?_
 refine cI h f O (λb5 f=>?_) λb5 f=>?_
 refine rg λK k=>ae 1 h O λa h=>cz k ?_
 exact aR (fK (bp ⟨fq Y f,h.to,H⟩))
 refine rg λK k=>ae 1 h O λa h=>sB h f O (bn O O) λff fs f a h=>ae 1 h O λa h=>ai h O O (gF O) O O (λF=>an O) λa h=>?_
 obtain⟨gb,dn,f⟩:=bv f
 refine ai h O O (gF O) O O (λF=>vB dn (dS (eg F O) O)) λa h=>?_
 refine sB h f O (ca O O) λgf gg f a h=>ae 1 h O λa h=>ai h O O (gF O) O O (λF=>an O) λa h=>?_
 obtain⟨gl,dv,f⟩:=bv f
 refine ai h O O (gF O) O O (λF=>vB dv (aD (eg F O) O)) λa h=>?_
 refine sB h f O (ca O O) λgm h0 f a h=>ae 1 h O λa h=>cN k h [4,5,6,8,16,27] O6 λh=>?_
 refine cI h f O (λb6 f=>?_) λb6 f=>?_
 refine rg λK k=>ae 2 h O λa h=>cN k h [2,3] O2 λh=>?_
 cases f
 refine r2 hr h O O O ⟨O,H.out⟩
 refine rg λK k=>ae 1 h O λa h=>sB h f O (gI O O) λh2 h3 f a h=>ae 1 h O λa h=>cz k<|cI h f O (λb7 f=>?_) λb7 f=>?_
 refine ah<|ae 1 h O λa h=>sI h f O (aw O O) λh4 h5 f a h=>ae 1 h O λa h=>am ?_
 exact bp ⟨f,h.to,H⟩
 exact ag (bp ⟨f,h.to,H⟩)
 exact aR (bp ⟨f,h.to,(H.cT 0 O)⟩)
theorem dD{x0 g:V}{w0:World}(f:b9 x0=some g):Calls prog 69 [(vA x0)].toArray w0 (bj λv w=>v=.agg #[I g.k,I g.n,S g.s]/\Ext w0 w):=by
 refine en func69 [0] [_] λQ a Zi Z a6 H h E=>?_
 clear a6
 unfold b9 at f
 refine rg λK k=>aZ h H O O3 O O λa p1 w X H h=>?_
 have H:HZ w0 _ _ [_] _:=H
 refine zA h H eX O3 (λx=>[_,x]) λa p2 w X H h=>?_
 refine cz k<|sq<|rg λK k=>s1 h O (ab O cB O Z3 O O) λa h=>s1 h O (l1 H 0 A3) λa h=>cz k<|lb ?_
 obtain⟨J6,a7,f⟩:=bv f
 refine dA (λa w=>∃(Z:FZ) (s6:Bool),J6 s6=some g/\Fr 41 [(1,(pt p1)),(2,(pt p2)),(8,I x0.k),(9,.bool s6)] a/\HZ w0 Zi Z [.blk p1 (aB (vL x0) 27),.blk p2 (aB [I 0,I 0,S []] 27)] w) ?_ ?_
 rintro a w ⟨Z,s6,f,h,H⟩
 subst a7
 refine cI h f O (λa8 f=>?_) λa8 f=>?_
 refine rg λK k=>s1 h O (lA H 0 aQ aq O3) λa h=>zS h H 1 aq O3 O3 O2 λw H=>?_
 refine cN k h [2] [_] λh=>?_
 cases f
 refine r1 E h O (aO H 1 aQ aq O3) ⟨O,H.out⟩
 refine rg λK k=>sB h f O (aD O O) λz8 e8 f a h=>ae 1 h O λa h=>cz k<|cI h f O (λad f=>?_) λad f=>?_
 refine rg λK k=>sC h H f O (λaf f10=>dC call14 (bH f10 :)) λaf f w X H a h=>?_
 refine zS h H 1 aq O3 O3 O2 λw H=>?_
 refine cN k h [2] [_] λh=>?_
 cases f
 refine r1 E h O (aO H 1 aQ aq O3) ⟨O,H.out⟩
 refine rg λK k=>sB h f O (aD O O) λb5 b6 f a h=>ae 1 h O λa h=>cN k h [1,2,16] O3 λh=>?_
 refine cI h f O (λF f=>?_) λF f=>?_
 refine rg λK k=>s1 h O (ab O cB O Z2 O O) λa h=>s1 h O (l1 H 0 A2) λa h=>sI h f O (dB O O) λb7 bb f a h=>sC h H f O (λao f14=>dC call14 (bH f14 :)) λao f w X H a h=>?_
 refine zS h H 1 aq O3 O3 O2 λw H=>?_
 refine cN k h [2] [_] λh=>?_
 cases f
 refine r1 E h O (aO H 1 aQ aq O3) ⟨O,H.out⟩
 refine ag<|rg λK k=>s1 h O (ab O cB O Z9 O O) λa h=>s1 h O (l1 H 0 A9) λa h=>?_
 obtain⟨G,b0,f⟩:=bv f
 refine d_ (T:=Ext) (V:=.tuple #[S G.1,.bool G.2]) h O O O ((by rw[b0];exact dC call109 (jU))) λw X a h=>?_
 have H:=H.ext X
 refine ae 5 h O λa h=>cN k h [2,3,4] O3 λh=>?_
 refine rg λK k=>ae 1 h O λa h=>sC h H f O (λb1 f17=>dC call110 (nC f17 :)) λb1 f w X H a h=>?_
 refine ae 5 h O λa h=>cN k h [2,4,5,6] O4 λh=>?_
 refine sq<|rg λK k=>ae 1 h O λa h=>sB h f O (dI O) λbk bq f a h=>cz k<|cI h f O (λJ f=>?_) λJ f=>?_
 refine rg λK k=>sC h H f O (λb2 f21=>dC call18 (az f21 :)) λb2 f w X H a h=>?_
 refine zS h H 1 aq O3 O3 O2 λw H=>?_
 refine cN k h [2] [_] λh=>?_
 cases f
 refine r1 E h O (aO H 1 aQ aq O3) ⟨O,H.out⟩
 refine ag ?_
 obtain⟨b3,W,f⟩:=bv f
 refine dA (λa w=>∃(Z:FZ) (u:Int),b3 u=some g/\Fr 41 [(2,(pt p2)),(5,I u)] a/\HZ w0 Zi Z [.blk p1 (aB (vL x0) 27),.blk p2 (aB [I 0,I 0,S []] 27)] w) ?_ ?_
 rintro a w ⟨Z,u,f,h,H⟩
 subst W
 refine rg λK k=>ae 1 h O λa h=>sC h H f O (λb4 f24=>dC call14 (bH f24 :)) λb4 f w X H a h=>?_
 refine zS h H 1 aq O3 O3 O2 λw H=>?_
 refine cz k ?_
 cases f
 refine r1 E h O (aO H 1 aQ aq O3) ⟨O,H.out⟩
 refine rg λK k=>ae 1 h O λa h=>cN k h [2,5,36] O3 λh=>?_
 refine cI h f O (λY f=>?_) λY f=>?_
 refine ah<|ae 1 h O λa h=>sI h f O (lw O) λbs c6 f a h=>ae 1 h O λa h=>am ?_
 exact bp ⟨f,h.to,H⟩
 exact ag (bp ⟨f,h.to,H⟩)
 refine rg λK k=>sB h f O (aD O O) λc7 c8 f a h=>ae 1 h O λa h=>cz k<|cI h f O (λa1 f=>?_) λa1 f=>?_
 exact ag (bp ⟨f,h.to,H⟩)
 refine ah<|sB h f O (aD O O) λcc ch f a h=>ae 1 h O λa h=>am ?_
 exact bp ⟨f,h.to,H⟩
theorem gc{x0 g:V}{w0:World}(f:bZ x0=some g):Calls prog 56 [(vA x0)].toArray w0 (bj λv w=>v=.agg #[I g.k,I g.n,S g.s]/\Ext w0 w):=by
 refine en func56 [0] [_] λQ a Zi Z W H h u=>?_
 clear W
 unfold bZ at f
 refine rg λK k=>aZ h H O O3 O O λa p1 w X H h=>?_
 have H:HZ w0 _ _ [_] _:=H
 refine zA h H eX O3 (λx=>[_,x]) λa p2 w X H h=>?_
 refine cz k<|sq<|rg λK k=>s1 h O (ab O cB O Z3 O O) λa h=>s1 h O (l1 H 0 A3) λa h=>cz k<|lb ?_
 obtain⟨J6,Y,f⟩:=bv f
 refine dA (λa w=>∃(Z:FZ) (s6:Bool),J6 s6=some g/\Fr 31 [(1,(pt p1)),(2,(pt p2)),(4,I x0.k),(5,.bool s6)] a/\HZ w0 Zi Z [.blk p1 (aB (vL x0) 27),.blk p2 (aB [I 0,I 0,S []] 27)] w) ?_ ?_
 rintro a w ⟨Z,s6,f,h,H⟩
 subst Y
 refine cI h f O (λa1 f=>?_) λa1 f=>?_
 refine rg λK k=>s1 h O (lA H 0 aQ aq O3) λa h=>zS h H 1 aq O3 O3 O2 λw H=>?_
 refine cN k h [2] [_] λh=>?_
 cases f
 refine r1 u h O (aO H 1 aQ aq O3) ⟨O,H.out⟩
 refine rg λK k=>sB h f O (aD O O) λz8 e8 f a h=>ae 1 h O λa h=>cz k<|cI h f O (λa6 f=>?_) λa6 f=>?_
 refine rg λK k=>sC h H f O (λa7 f10=>dC call17 (bh f10 :)) λa7 f w X H a h=>?_
 refine zS h H 1 aq O3 O3 O2 λw H=>?_
 refine cN k h [2] [_] λh=>?_
 cases f
 refine r1 u h O (aO H 1 aQ aq O3) ⟨O,H.out⟩
 refine rg λK k=>sB h f O (aD O O) λb0 b1 f a h=>ae 1 h O λa h=>cN k h [1,2,12] O3 λh=>?_
 refine cI h f O (λE f=>?_) λE f=>?_
 refine rg λK k=>s1 h O (ab O cB O Z2 O O) λa h=>s1 h O (l1 H 0 A2) λa h=>sB h f O (fN O O) λb2 b3 f a h=>sC h H f O (λa8 f14=>dC call17 (bh f14 :)) λa8 f w X H a h=>?_
 refine zS h H 1 aq O3 O3 O2 λw H=>?_
 refine cN k h [2] [_] λh=>?_
 cases f
 refine r1 u h O (aO H 1 aQ aq O3) ⟨O,H.out⟩
 refine ag<|sq<|rg λK k=>s1 h O (ab O cB O Z9 O O) λa h=>s1 h O (l1 H 0 A9) λa h=>sB h f O (aH O O) λb4 b5 f a h=>ae 1 h O λa h=>ai h O O (gF O) O O (λJ=>ab O cB O Z9 O O) λa h=>?_
 refine ai h O O (gF O) O O (λJ=>aE (eg J O) A9 (H.hp.get 0 O) O) λa h=>?_
 obtain⟨b6,ad,f⟩:=bv f
 refine ai h O O (gF O) O O (λJ=>vB ad (aH (eg J O) O)) λa h=>?_
 refine sB h f O (ca O O) λb7 bb f a h=>cN k h [1,2,25] O3 λh=>?_
 refine cI h f O (λF f=>?_) λF f=>?_
 refine rg λK k=>s1 h O (ab O cB O Z9 O O) λa h=>s1 h O (l1 H 0 A9) λa h=>sB h f O (aH O O) λbk bq f a h=>sC h H f O (λaf f21=>dC call17 (bh f21 :)) λaf f w X H a h=>?_
 refine zS h H 1 aq O3 O3 O2 λw H=>?_
 refine cN k h [2] [_] λh=>?_
 cases f
 refine r1 u h O (aO H 1 aQ aq O3) ⟨O,H.out⟩
 refine ag<|rg λK k=>sC h H f O (λao f22=>dC call18 (az f22 :)) λao f w X H a h=>?_
 refine zS h H 1 aq O3 O3 O2 λw H=>?_
 refine cz k ?_
 cases f
 refine r1 u h O (aO H 1 aQ aq O3) ⟨O,H.out⟩
 refine rg λK k=>sB h f O (aD O O) λbs c6 f a h=>ae 1 h O λa h=>cz k<|cI h f O (λG f=>?_) λG f=>?_
 exact ag (bp ⟨f,h.to,H⟩)
 refine ah<|sB h f O (aD O O) λc7 c8 f a h=>ae 1 h O λa h=>am ?_
 exact bp ⟨f,h.to,H⟩
end Go.Proofs.YtnllbjchcfpmpaaGreatDoor
