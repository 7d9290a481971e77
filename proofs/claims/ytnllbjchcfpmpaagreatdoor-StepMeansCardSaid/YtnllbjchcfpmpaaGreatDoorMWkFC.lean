/- Joined texts. -/
import Derived.Test.YtnllbjchcfpmpaaGreatDoorMWkFB
set_option linter.all false
namespace Go.Proofs.YtnllbjchcfpmpaaGreatDoor
open Go.Stp Go.RowKit Go.ValP Go.Sp _root_.Go.Proofs.Tryz
set_option maxRecDepth 100000
theorem qO{x0 x1 x2:Int}{u:Int × Int}{w0:World}(f:jf x0 x1 x2=some u):Calls prog 148 [.int .u64 x0,.int .u64 x1,.int .u64 x2].toArray w0 (bj λv w=>v=.tuple #[.int .u64 u.1,.int .u64 u.2]/\Ext w0 w):=by
 refine en func148 [0,1,2] O3 λQ a Zi Z c6 H h hr=>?_
 clear c6
 unfold jf at f
 refine rg λK k=>ae 2 h O λa h=>cz k ?_
 obtain⟨J2,c7,f⟩:=bv f
 refine dA (λa w=>∃(Z:FZ) (s2:Unit),J2 s2=some u/\Fr 135 [(0,.int .u64 x0),(1,.int .u64 x1),(2,.int .u64 x2)] a/\HZ w0 Zi Z [] w) ?_ ?_
 rintro a w ⟨Z,s2,f,h,H⟩
 subst c7
 obtain⟨J4,cc,f⟩:=bv f
 refine dA (λa w=>∃(Z:FZ) (s4:Unit),J4 s4=some u/\Fr 135 [(0,.int .u64 x0),(1,.int .u64 x1),(2,.int .u64 x2)] a/\HZ w0 Zi Z [] w) ?_ ?_
 rintro a w ⟨Z,s4,f,h,H⟩
 subst cc
 refine sq<|rg λK k=>ae 1 h O λa h=>sB h f O (aD O O) λz6 e6 f a h=>cz k<|cI h f O (λch f=>?_) λch f=>?_
 refine fl h ?_
 refine bN 2 O ?_
 obtain⟨c8,f⟩:=ck f
 refine fI f O (λw X=>cm O O c8) λz9 e9 f=>?_
 refine bN 2 O ?_
 obtain⟨cp,f⟩:=ck f
 refine fI f O (λw X=>iy O O cp) λeo ep f=>?_
 refine bN 2 O ?_
 refine fE [6,7] O2 H λa w X H h=>?_
 cases f
 refine r2 hr h O O O ⟨O,H.out⟩
 refine ag<|rg λK k=>ae 1 h O λa h=>?_
 obtain⟨ct,f⟩:=ck f
 obtain⟨cx,cy,f⟩:=bv f
 refine d_ (T:=Ext) (V:=I cx) h O O O ((by rw[cy];exact dC call189 (x7 ct))) λw X a h=>?_
 have H:=H.ext X
 refine sI h f O (db (by rw[U3];rfl) underlying104 rfl rfl) λG er f a h=>ae 1 h rfl λa h=>cN k h [0,1,2,8] O4 λh=>?_
 refine rg λK k=>ae 2 h O λa h=>?_
 obtain⟨da,f⟩:=ck f
 refine sI h f O (yk O O da) λJ et f a h=>ae 1 h O λa h=>cz k<|rg λK k=>ae 1 h O λa h=>?_
 obtain⟨dd,f⟩:=ck f
 refine sI h f O (wr O O dd) λa6 eu f a h=>ae 1 h O λa h=>cN k h [0,1,2,8,9] O5 λh=>?_
 refine rg λK k=>ae 1 h O λa h=>sI h f O (dN O O) λa7 ew f a h=>ae 1 h O λa h=>cz k<|rg λK k=>ae 2 h O λa h=>?_
 obtain⟨dj,f⟩:=ck f
 refine sI h f O (yk O O dj) λey ez f a h=>ae 2 h O λa h=>sI h f O (bf O O) λeF eJ f a h=>?_
 obtain⟨dn,f⟩:=ck f
 refine sI h f O (wr O O dn) λeZ ff f a h=>sI h f O (xf O O) λad fs f a h=>ae 1 h O λa h=>cN k h [1,2,8,9,10,11] O6 λh=>?_
 refine rg λK k=>ae 2 h O λa h=>?_
 obtain⟨dv,f⟩:=ck f
 refine sI h f O (yk O O dv) λgb gf f a h=>ae 1 h O λa h=>cN k h [2,8,9,10,11,12] O6 λh=>?_
 refine rg λK k=>ae 1 h O λa h=>?_
 obtain⟨dz,f⟩:=ck f
 refine sI h f O (wr O O dz) λaf gg f a h=>ae 1 h O λa h=>cz k<|rg λK k=>ae 1 h O λa h=>sI h f O (dN O O) λW gl f a h=>ae 1 h O λa h=>cN k h [2,8,9,10,11,13,14] O7 λh=>?_
 refine rg λK k=>ae 2 h O λa h=>?_
 obtain⟨e1,f⟩:=ck f
 refine sI h f O (cm O O e1) λgm h0 f a h=>ae 1 h O λa h=>cz k<|rg λK k=>ae 3 h O λa h=>sI h f O (dB O O) λh2 h3 f a h=>sI h f O (bf O O) λh4 h5 f a h=>ae 1 h O λa h=>cN k h [2,8,9,10,11,13,14,15,16] O9 λh=>?_
 obtain⟨e2,ao,f⟩:=bv f
 refine Bg (λa w=>∃(Z:FZ) (F:Int),e2 F=some u/\Fr 135 [(2,.int .u64 J),(8,.int .u64 G),(9,.int .u64 a6),(10,.int .u64 a7),(11,.int .u64 ad),(13,.int .u64 af),(14,.int .u64 W),(15,.int .u64 F)] a/\HZ w0 Zi Z [] w) ?_ ?_
 rintro a w ⟨Z,F,f,h,H⟩
 subst ao
 refine rg λK k=>ae 1 h O λa h=>sI h f O (dB O O) λh6 h7 f a h=>ae 1 h O λa h=>sI h f O (aw O O) λh8 h9 f a h=>ae 2 h O λa h=>sI h f O (dB O O) λha hb f a h=>sI h f O (bf O O) λb0 hc f a h=>ae 1 h O λa h=>cN k h [2,8,9,10,14,15,17] O7 λh=>?_
 refine rg λK k=>ae 2 h O λa h=>?_
 obtain⟨e3,f⟩:=ck f
 refine sI h f O (cm O O e3) λhf hg f a h=>ae 1 h O λa h=>cz k<|rg λK k=>ae 3 h O λa h=>sI h f O (dB O O) λhj hn f a h=>sI h f O (bf O O) λho hq f a h=>ae 1 h O λa h=>cN k h [2,8,9,10,14,15,16,17,18] O9 λh=>?_
 obtain⟨e4,b1,f⟩:=bv f
 refine Bg (λa w=>∃(Z:FZ) (a8:Int),e4 a8=some u/\Fr 135 [(2,.int .u64 J),(8,.int .u64 G),(14,.int .u64 W),(15,.int .u64 F),(17,.int .u64 b0),(18,.int .u64 a8)] a/\HZ w0 Zi Z [] w) ?_ ?_
 rintro a w ⟨Z,a8,f,h,H⟩
 subst b1
 refine rg λK k=>ae 1 h O λa h=>sI h f O (dB O O) λht hv f a h=>ae 1 h O λa h=>sI h f O (aw O O) λhx hy f a h=>ae 1 h O λa h=>sI h f O (dB O O) λhA hB f a h=>ae 1 h O λa h=>sI h f O (aw O O) λhD hE f a h=>ae 2 h O λa h=>sI h f O (dB O O) λhF hG f a h=>sI h f O (bf O O) λhI hJ f a h=>ae 1 h O λa h=>?_
 obtain⟨e5,f⟩:=ck f
 refine sI h f O (wr O O e5) λhK hL f a h=>ae 2 h O λa h=>cN k h [6,7] O2 λh=>?_
 cases f
 refine r2 hr h O O O ⟨O,H.out⟩
 obtain⟨e7,b2,f⟩:=bv f
 refine ib (λE a w=>∃(Z:FZ) (Y:Int × Int),loopF e7 E Y=some u/\Fr 135 [(2,.int .u64 J),(8,.int .u64 G),(9,.int .u64 a6),(10,.int .u64 a7),(14,.int .u64 W),(15,.int .u64 F),(16,.int .u64 Y.1),(17,.int .u64 b0),(18,.int .u64 Y.2)] a/\HZ w0 Zi Z [] w) KK ⟨_,_,f,h.to,H⟩ ?_
 rintro E a w ⟨Z,Y,f,h,H⟩
 obtain⟨E,rfl,hN,b3,f⟩:=iJ b2 f
 refine sq<|rg λK k=>ae 1 h O λa h=>sB h f O (gI O O) λhP hQ f a h=>ae 1 h O λa h=>ai h O O (gF O) O O (λg=>an O) λa h=>?_
 refine ai h O O (gF O) O O (λg=>an O) λa h=>?_
 obtain⟨hR,e8,f⟩:=bv f
 refine ai h O O (gF O) O O (λg=>vI e8 (dB (eg g O) (eg g O))) λa h=>?_
 refine ai h O O (gF O) O O (λg=>an O) λa h=>?_
 obtain⟨hT,ea,f⟩:=bv f
 refine ai h O O (gF O) O O (λg=>vI ea (dB O (eg g O))) λa h=>?_
 refine ai h O O (gF O) O O (λg=>an O) λa h=>?_
 obtain⟨hU,eb,f⟩:=bv f
 refine ai h O O (gF O) O O (λg=>vI eb (aw (eg g O) (eg g O))) λa h=>?_
 obtain⟨hV,ec,f⟩:=bv f
 refine ai h O O (gF O) O O (λg=>vB ec (dS (eg g O) (eg g O))) λa h=>?_
 refine sB h f O (ca O O) λhW hX f a h=>cN k h [2,8,9,10,14,15,16,17,18,113] zz λh=>?_
 refine cI h f O (λb4 f=>?_) λb4 f=>?_
 refine ag<|lb<|rg λK k=>ae 1 h O λa h=>sI h f O (bf O O) λhY hZ f a h=>ae 1 h O λa h=>cz k<|rg λK k=>ae 2 h O λa h=>sI h f O (aw O O) λih jo f a h=>ae 1 h O λa h=>cN k h [2,8,9,10,14,15,16,17,18] O9 λh=>?_
 refine rg λK k=>ae 1 h O λa h=>sB h f O (gI O O) λk1 k2 f a h=>cz k<|cI h f O (λb5 f=>?_) λb5 f=>?_
 exact aR (bp ⟨f,h.to,H⟩)
 exact ag (fK (bp ⟨fq b3 f,h.to,H⟩))
 exact aR (bp ⟨f,h.to,H⟩)
 obtain⟨ed,b6,f⟩:=bv f
 refine ib (λE a w=>∃(Z:FZ) (a1:Int × Int),loopF ed E a1=some u/\Fr 135 [(2,.int .u64 J),(8,.int .u64 G),(9,.int .u64 a6),(10,.int .u64 a7),(11,.int .u64 ad),(13,.int .u64 af),(14,.int .u64 W),(15,.int .u64 a1.1),(16,.int .u64 a1.2)] a/\HZ w0 Zi Z [] w) KK ⟨_,_,f,h.to,H⟩ ?_
 rintro E a w ⟨Z,a1,f,h,H⟩
 obtain⟨E,rfl,k4,b7,f⟩:=iJ b6 f
 refine sq<|rg λK k=>ae 1 h O λa h=>sB h f O (gI O O) λk5 k6 f a h=>ae 1 h O λa h=>ai h O O (gF O) O O (λg=>an O) λa h=>?_
 refine ai h O O (gF O) O O (λg=>an O) λa h=>?_
 obtain⟨k7,ef,f⟩:=bv f
 refine ai h O O (gF O) O O (λg=>vI ef (dB (eg g O) (eg g O))) λa h=>?_
 refine ai h O O (gF O) O O (λg=>an O) λa h=>?_
 obtain⟨k8,ei,f⟩:=bv f
 refine ai h O O (gF O) O O (λg=>vI ei (dB O (eg g O))) λa h=>?_
 refine ai h O O (gF O) O O (λg=>an O) λa h=>?_
 obtain⟨k9,ej,f⟩:=bv f
 refine ai h O O (gF O) O O (λg=>vI ej (aw (eg g O) (eg g O))) λa h=>?_
 obtain⟨kc,el,f⟩:=bv f
 refine ai h O O (gF O) O O (λg=>vB el (dS (eg g O) (eg g O))) λa h=>?_
 refine sB h f O (ca O O) λki kk f a h=>cN k h [2,8,9,10,11,13,14,15,16,78] zz λh=>?_
 refine cI h f O (λbb f=>?_) λbb f=>?_
 refine ag<|lb<|rg λK k=>ae 1 h O λa h=>sI h f O (bf O O) λkx ky f a h=>ae 1 h O λa h=>cz k<|rg λK k=>ae 2 h O λa h=>sI h f O (aw O O) λkz l0 f a h=>ae 1 h O λa h=>cN k h [2,8,9,10,11,13,14,15,16] O9 λh=>?_
 refine rg λK k=>ae 1 h O λa h=>sB h f O (gI O O) λl2 l3 f a h=>cz k<|cI h f O (λbk f=>?_) λbk f=>?_
 exact aR (bp ⟨f,h.to,H⟩)
 exact ag (fK (bp ⟨fq b7 f,h.to,H⟩))
 exact aR (bp ⟨f,h.to,H⟩)
 refine rg λK k=>ae 2 h O λa h=>sB h f O (jX O O) λmb ml f a h=>cz k<|cI h f O (λbq f=>?_) λbq f=>?_
 exact nomatch f
 exact ag (tH ⟨f,h.to,H⟩)
 refine rg λK k=>ae 1 h O λa h=>sB h f O (aD O O) λmm mn f a h=>cz k<|cI h f O (λbs f=>?_) λbs f=>?_
 exact nomatch f
 exact ag (tH ⟨f,h.to,H⟩)
theorem mz{x0 x1 F:Int}{g:Int × Bool}{w0:World}(f:gZ x0 x1 F=some g):Calls prog 111 [.int .u64 x0,.int .u64 x1,.int .u64 F].toArray w0 (bj λv w=>v=.tuple #[.int .u64 g.1,.bool g.2]/\Ext w0 w):=by
 refine en func111 [0,1,2] O3 λQ a Zi Z G H h hr=>?_
 clear G
 unfold gZ at f
 refine rg λK k=>ae 2 h O λa h=>cz k<|rg λK k=>ae 2 h O λa h=>?_
 obtain⟨c2,f⟩:=ck f
 obtain⟨z3,e3,f⟩:=bv f
 refine d_ (T:=Ext) (V:=.tuple #[.int .u64 z3.1,.int .u64 z3.2]) h O O O ((by rw[e3];exact dC call146 (nS c2))) λw X a h=>?_
 have H:=H.ext X
 refine ae 5 h O λa h=>cN k h [2,8,9] O3 λh=>?_
 refine sq<|rg λK k=>ae 2 h O λa h=>sB h f O (gI O O) λz5 e5 f a h=>cz k<|cI h f O (λJ f=>?_) λJ f=>?_
 refine rg λK k=>ae 2 h O λa h=>cN k h [6,7] O2 λh=>?_
 cases f
 refine r2 hr h O O O ⟨O,H.out⟩
 refine ag<|rg λK k=>ae 3 h O λa h=>sC h H f O (λy7 f7=>dC call148 (qO f7 :)) λy7 f w X H a h=>?_
 refine ae 5 h O λa h=>cN k h [2,10,11] O3 λh=>?_
 obtain⟨J9,W,f⟩:=bv f
 refine dA (λa w=>∃(Z:FZ) (Y:Int),J9 Y=some g/\Fr 45 [(2,.int .u64 F),(10,.int .u64 Y),(11,.int .u64 y7.2)] a/\HZ w0 Zi Z [] w) ?_ ?_
 rintro a w ⟨Z,Y,f,h,H⟩
 subst W
 refine rg λK k=>ae 2 h O λa h=>sB h f O (fN O O) λa7 a8 f a h=>ae 1 h O λa h=>ai h O O (gF O) O O (λu=>an O) λa h=>?_
 refine ai h O O (gF O) O O (λu=>an O) λa h=>?_
 refine ai h O O (gF O) O O (λu=>an O) λa h=>?_
 obtain⟨ad,a1,f⟩:=bv f
 refine ai h O O (gF O) O O (λu=>vI a1 (bf (eg u O) (eg u O))) λa h=>?_
 obtain⟨af,a6,f⟩:=bv f
 refine ai h O O (gF O) O O (λu=>vB a6 (bn (eg u O) (eg u O))) λa h=>?_
 refine sB h f O (ca O O) λao b0 f a h=>ae 2 h O λa h=>cN k h [6,7] O2 λh=>?_
 cases f
 refine r2 hr h O O O ⟨O,H.out⟩
 refine rg λK k=>ae 3 h O λa h=>sI h f O (bf O O) λb1 b2 f a h=>sB h f O (gI O O) λb3 b4 f a h=>cN k h [2,10,11,32] O4 λh=>?_
 refine cI h f O (λE f=>?_) λE f=>?_
 refine ah<|ae 1 h O λa h=>sI h f O (aw O O) λb5 b6 f a h=>ae 1 h O λa h=>am ?_
 exact bp ⟨f,h.to,H⟩
 exact ag (bp ⟨f,h.to,H⟩)
theorem mY{x0 G:Int}{g:Int × Bool}{w0:World}(f:kB x0 G=some g):Calls prog 76 [I x0,I G].toArray w0 (bj λv w=>v=.tuple #[I g.1,.bool g.2]/\Ext w0 w):=by
 refine en func76 [0,1] O2 λQ a Zi Z u H h J=>?_
 clear u
 unfold kB at f
 refine rg λK k=>ae 2 h O λa h=>cz k<|rg λK k=>ae 1 h O λa h=>sC h H f O (λy1 f1=>dC call112 (jl f1 :)) λy1 f w X H a h=>?_
 refine ae 1 h O λa h=>sC h H f O (λW f2=>dC call112 (jl f2 :)) λW f w X H a h=>?_
 refine sC h H f O (λY f3=>dC call111 (mz f3 :)) λY f w X H a h=>?_
 refine ae 5 h O λa h=>cN k h [0,1,6,7] O4 λh=>?_
 refine sq<|rg λK k=>ae 1 h O λa h=>sB h f O (dI O) λz5 e5 f a h=>cz k<|cI h f O (λE f=>?_) λE f=>?_
 refine rg λK k=>ae 2 h O λa h=>cN k h [4,5] O2 λh=>?_
 cases f
 refine r2 J h O O O ⟨O,H.out⟩
 refine ag<|rg λK k=>ae 2 h O λa h=>sB h f O (bn O O) λz7 e7 f a h=>ae 1 h O λa h=>sB h f O (bn O O) λz8 e8 f a h=>sB h f O (wx U4 O O) λz9 e9 f a h=>sC h H f O (λF f10=>dC call113 (jV f10 :)) λF f w X H a h=>?_
 refine ae 4 h O λa h=>cN k h [4,5] O2 λh=>?_
 cases f
 refine r2 J h O O O ⟨O,H.out⟩
theorem mG{x0 W:Int}{g:Int × Bool}{w0:World}(f:kF x0 W=some g):Calls prog 71 [I x0,I W].toArray w0 (bj λv w=>v=.tuple #[I g.1,.bool g.2]/\Ext w0 w):=by
 refine en func71 [0,1] O2 λQ a Zi Z u H h E=>?_
 clear u
 unfold kF at f
 refine rg λK k=>ae 2 h O λa h=>cz k<|sq<|rg λK k=>ae 1 h O λa h=>sB h f O (aD O O) λz2 e2 f a h=>cz k<|cI h f O (λF f=>?_) λF f=>?_
 refine rg λK k=>ae 2 h O λa h=>cN k h [4,5] O2 λh=>?_
 cases f
 refine r2 E h O O O ⟨O,H.out⟩
 refine ag<|cO h [0,1] O2 λh=>?_
 refine rg λK k=>ae 1 h O λa h=>sC h H f O (λY f4=>dC call112 (jl f4 :)) λY f w X H a h=>?_
 refine ae 1 h O λa h=>sC h H f O (λy5 f5=>dC call112 (jl f5 :)) λy5 f w X H a h=>?_
 refine sC h H f O (λy6 f6=>dC call111 (mz f6 :)) λy6 f w X H a h=>?_
 refine ae 5 h O λa h=>cN k h [0,1,6,7] O4 λh=>?_
 refine sq<|rg λK k=>ae 1 h O λa h=>sB h f O (dI O) λz8 e8 f a h=>cz k<|cI h f O (λG f=>?_) λG f=>?_
 refine rg λK k=>ae 2 h O λa h=>cN k h [4,5] O2 λh=>?_
 cases f
 refine r2 E h O O O ⟨O,H.out⟩
 refine ag<|rg λK k=>ae 2 h O λa h=>sB h f O (bn O O) λa1 a6 f a h=>ae 1 h O λa h=>sB h f O (bn O O) λa7 a8 f a h=>sB h f O (wx U4 O O) λad af f a h=>sC h H f O (λJ f13=>dC call113 (jV f13 :)) λJ f w X H a h=>?_
 refine ae 4 h O λa h=>cN k h [4,5] O2 λh=>?_
 cases f
 refine r2 E h O O O ⟨O,H.out⟩
theorem nr{x0:Int}{G:(List UInt8)}{w0:World}(f:cM x0=some G):Calls prog 103 [I x0].toArray w0 (bj λv w=>v=S G/\Ext w0 w):=by
 refine en func103 [0] [_] λQ a Zi Z eo H h hr=>?_
 clear eo
 unfold cM at f
 refine rg λK k=>ae 1 h O λa h=>cz k<|rg λK k=>ae 1 h O λa h=>sC h H f O (λy1 f1=>dC call112 (jl f1 :)) λy1 f w X H a h=>?_
 refine ae 1 h O λa h=>cz k<|rg λK k=>yD h H rM Z5 O λa ep w X H h=>?_
 have H:HZ w0 _ _ [_] _:=H
 refine ae 1 h O λa h=>cN k h [0,3,4] O3 λh=>?_
 refine rg λK k=>ae 1 h O λa h=>cz k ?_
 obtain⟨J4,er,f⟩:=bv f
 refine dA (λa w=>∃(Z:FZ) (s4:(List (Int))) (cc:Value),J4 s4=some G/\Fr 74 [(0,I x0),(4,cc)] a/\HZ w0 Zi Z [.row 5 1 cc (s4:List (Int)).length ((s4:List (Int)).flatMap (eI .u8))] w) ?_ ?_
 rintro a w ⟨Z,s4,cc,f,h,H⟩
 subst er
 obtain⟨J7,et,f⟩:=bv f
 refine dA (λa w=>∃(Z:FZ) (s7:(List (Int))) (ch:Value),J7 s7=some G/\Fr 74 [(4,ch)] a/\HZ w0 Zi Z [.row 5 1 ch (s7:List (Int)).length ((s7:List (Int)).flatMap (eI .u8))] w) ?_ ?_
 rintro a w ⟨Z,s7,ch,f,h,H⟩
 subst et
 obtain⟨eu,da,f⟩:=bv f
 refine dA (λa w=>∃(Z:FZ) (b0:(List (Int))) (a7:Value),eu b0=some G/\Fr 74 [(4,a7)] a/\HZ w0 Zi Z [.row 5 1 a7 (b0:List (Int)).length ((b0:List (Int)).flatMap (eI .u8))] w) ?_ ?_
 rintro a w ⟨Z,b0,a7,f,h,H⟩
 subst da
 refine rg λK k=>ae 1 h O λa h=>?_
 obtain⟨ew,f⟩:=ck f
 refine sS h f O (tY rM U5 U9 O (H.eT (i:=0) (enc:=(eI .u8)) O) ew) λh2 h3 f a h=>ae 1 h O λa h=>cz k ?_
 cases f
 refine r1 hr h O O ⟨O,H.out⟩
 refine rg λK k=>ae 1 h O λa h=>s1 h O (bY rM O (H.eT (i:=0) (enc:=(eI .u8)) O)) λa h=>sI h f O (bf O O) λh4 h5 f a h=>ae 2 h O λa h=>cz k<|lb ?_
 obtain⟨ey,dd,f⟩:=bv f
 refine ib (λW a w=>∃(Z:FZ) (g:Int × Int × (List (Int))) (a8:Value),loopF ey W g=some G/\Fr 74 [(4,a8),(8,I g.1),(9,I g.2.1)] a/\HZ w0 Zi Z [.row 5 1 a8 (g.2.2:List (Int)).length ((g.2.2:List (Int)).flatMap (eI .u8))] w) KK ⟨_,_,_,f,h.to,H⟩ ?_
 rintro W a w ⟨Z,g,a8,f,h,H⟩
 obtain⟨W,rfl,h6,c7,f⟩:=iJ dd f
 refine sq<|rg λK k=>ae 2 h O λa h=>sB h f O (bn O O) λh7 h8 f a h=>cz k<|cI h f O (λdj f=>?_) λdj f=>?_
 refine ag<|sb ?_
 obtain⟨b6,f⟩:=ck f
 obtain⟨b7,f⟩:=ck f
 obtain⟨J,E,f⟩:=bv f
 obtain⟨bb,cap_,cs,ez,hb,h9,bk⟩:=H.Ap (i:=0) rfl (by omega)
 rw[ez]at h H
 have dn:=yx bk b6
 have dv:=yx bk b7
 have dz:(Int.toNat g.1)<cs.length:=by omega
 have e1:(Int.toNat g.2.1)<cs.length:=by omega
 refine Db kR ?_
 have H:=H.ext (Ext.drew w)
 have hb:(w.drew).heap[bb]?=some (.cells cs.toArray 5 (0,0)):=hb
 have hX:({ w with drawn:=w.drawn+1 }:World)=w.drew:=rfl
 rw[hX]
 generalize w.drew=wd at *
 refine il (i:=0) h O O O O (λw=>an O) kR O λa h=>?_
 refine il (i:=1) h O O O O (λw=>an O) kR O λa h=>?_
 refine il (i:=2) h O O O O (λw=>an O) kR O λa h=>?_
 refine il (i:=3) h O O O O (λw=>an O) kR O λa h=>?_
 refine il (i:=4) h O O O O (λw=>an O) kR O λa h=>?_
 refine il (i:=5) h O O O O (λw=>an O) kR O λa h=>?_
 refine il (i:=6) h O O O O (λw=>lO (data:=g.2.2) (sz:=1) rM Z5 O O O b7) kR O λa h=>?_
 refine il (i:=8) h O O O O (λw=>an O) kR O λa h=>?_
 refine il (i:=9) h O O O O (λw=>an O) kR O λa h=>?_
 refine il (i:=10) h O O O O (λw=>lO (data:=g.2.2) (sz:=1) rM Z5 O O O b6) kR O λa h=>?_
 refine DE (i:=7) (j:=11) kR O O (R1.val h O (aE O isAgg5 hb dv)) (R1.val h O (aE O isAgg5 hb dn)) ?_ ?_
 have h:=h.put (d:=65) rfl (.int .u8 (gel g.2.2 g.2.1))
 refine lS (i:=11) kR O (R1.val h O (aE O isAgg5 hb dn)) O ?_
 have h:=h.put (d:=69) rfl (.int .u8 (gel g.2.2 g.1))
 refine lS (i:=12) kR O (R1.val h O (lO (data:=g.2.2) (sz:=1) rM Z5 O O O b6)) O ?_
 have h:=h.put (d:=70) rfl (.pointer (some ⟨bb,(Int.toNat g.1),none⟩))
 obtain⟨w1,cp,ct,a1,a2,a3,a4,a5⟩:=lv (ops:=_) (P:=prog) (x:=.tmp 70) (y:=.tmp 65) (off:=(Int.toNat g.1)) (u:=.int .u8 (gel g.2.2 g.2.1)) h rfl rfl rfl rfl rfl Z5 hb dz
 refine lS (i:=13) kR O cp O ?_
 refine lS (i:=14) kR O (R1.val h O (lO (data:=g.2.2) (sz:=1) rM Z5 O O O b7)) O ?_
 have h:=h.put (d:=71) rfl (.pointer (some ⟨bb,(Int.toNat g.2.1),none⟩))
 obtain⟨w2,cx,cy,b1,b2,b3,b4,b5⟩:=lv (ops:=_) (P:=prog) (x:=.tmp 71) (y:=.tmp 69) (off:=(Int.toNat g.2.1)) (u:=.int .u8 (gel g.2.2 g.1)) h rfl rfl rfl rfl rfl Z5 ct (by rw[List.length_set];exact e1)
 refine lS (i:=15) kR O cx O ?_
 refine Ce kR ?_
 have H:=H.setRow (i:=0) (k:=.u8) (out:=g.2.2) (out':=J) rfl hb cy (by rw[E];simp) (by simp) (by rw[E,List.take_set,List.take_set,bk,List.map_set,List.map_set]) (b1.trans a1) (b2.trans a2) (b3.trans a3) (b4.trans a4) (λc hc=>(b5 c hc).trans (a5 c hc))
 have h:=h.only [4,8,9] (l':=O3) rfl
 have H:HZ w0 _ _ [_] _:=H
 generalize w2=w at h H
 refine ah<|ae 1 h O λa h=>sI h f O (aw O O) λha hf f a h=>ae 1 h O λa h=>sI h f O (bf O O) λhg hj f a h=>ae 2 h O λa h=>am ?_
 exact fK (iP ⟨fq c7 f,h.to,H⟩)
 have h:=h.put (d:=69) rfl (.int .u8 (gel g.2.2 g.1))
 refine lS (i:=7) kR O (R1.val h O (aE O isAgg5 hb dv)) O ?_
 have h:=h.put (d:=65) rfl (.int .u8 (gel g.2.2 g.2.1))
 refine lS (i:=12) kR O (R1.val h O (lO (data:=g.2.2) (sz:=1) rM Z5 O O O b6)) O ?_
 have h:=h.put (d:=70) rfl (.pointer (some ⟨bb,(Int.toNat g.1),none⟩))
 obtain⟨w1,cp,ct,a1,a2,a3,a4,a5⟩:=lv (ops:=_) (P:=prog) (x:=.tmp 70) (y:=.tmp 65) (off:=(Int.toNat g.1)) (u:=.int .u8 (gel g.2.2 g.2.1)) h rfl rfl rfl rfl rfl Z5 hb dz
 refine lS (i:=13) kR O cp O ?_
 refine lS (i:=14) kR O (R1.val h O (lO (data:=g.2.2) (sz:=1) rM Z5 O O O b7)) O ?_
 have h:=h.put (d:=71) rfl (.pointer (some ⟨bb,(Int.toNat g.2.1),none⟩))
 obtain⟨w2,cx,cy,b1,b2,b3,b4,b5⟩:=lv (ops:=_) (P:=prog) (x:=.tmp 71) (y:=.tmp 69) (off:=(Int.toNat g.2.1)) (u:=.int .u8 (gel g.2.2 g.1)) h rfl rfl rfl rfl rfl Z5 ct (by rw[List.length_set];exact e1)
 refine lS (i:=15) kR O cx O ?_
 refine Ce kR ?_
 have H:=H.setRow (i:=0) (k:=.u8) (out:=g.2.2) (out':=J) rfl hb cy (by rw[E];simp) (by simp) (by rw[E,List.take_set,List.take_set,bk,List.map_set,List.map_set]) (b1.trans a1) (b2.trans a2) (b3.trans a3) (b4.trans a4) (λc hc=>(b5 c hc).trans (a5 c hc))
 have h:=h.only [4,8,9] (l':=O3) rfl
 have H:HZ w0 _ _ [_] _:=H
 generalize w2=w at h H
 refine ah<|ae 1 h O λa h=>sI h f O (aw O O) λhn ho f a h=>ae 1 h O λa h=>sI h f O (bf O O) λhq ht f a h=>ae 2 h O λa h=>am ?_
 exact fK (iP ⟨fq c7 f,h.to,H⟩)
 exact aR (iP ⟨f,h.to,H⟩)
 refine rg λK k=>ae 1 h O λa h=>sB h f O (bn O O) λhv hx f a h=>cz k<|cI h f O (λe2 f=>?_) λe2 f=>?_
 refine ah<|ae 1 h O λa h=>cZ (enc:=(eI .u8)) ([45]:List (Int)) h H rM Z5 zeroValue5 O (zl:=[.int .u8 0]) kR (cb 1 1) [_] [_] O O O O O λa ec Z w c8 X H bq h=>?_
 obtain⟨eF,f⟩:=ck f
 obtain⟨hy,eJ,f⟩:=bv f
 refine cg (enc:=(eI .u8)) (out:=s4) (data:=[45]) h H 0 O rM CZ O O O bq (λ_=>rfl) (λ_ _=>rfl) eF O λa ed w H h=>?_
 rw[<-eJ]at H
 have H:HZ w0 _ _ [_] _:=H
 refine ae 1 h O λa h=>am ?_
 exact iP ⟨f,h.to,H⟩
 exact ag (iP ⟨f,h.to,H⟩)
 refine rg λK k=>ae 1 h O λa h=>cz k<|lb ?_
 obtain⟨eZ,e3,f⟩:=bv f
 refine ib (λW a w=>∃(Z:FZ) (F:Int × Bool × Int × (List (Int))) (ad:Value),loopF eZ W F=some G/\Fr 74 [(0,I x0),(3,.int .u64 F.1),(4,ad),(5,.bool F.2.1),(6,I F.2.2.1)] a/\HZ w0 Zi Z [.row 5 1 ad (F.2.2.2:List (Int)).length ((F.2.2.2:List (Int)).flatMap (eI .u8))] w) KK ⟨_,_,_,f,h.to,H⟩ ?_
 rintro W a w ⟨Z,F,ad,f,h,H⟩
 obtain⟨W,rfl,hA,e4,f⟩:=iJ e3 f
 refine sq<|rg λK k=>ae 1 h O λa h=>sB h f O (bn O O) λhB hD f a h=>ae 1 h O λa h=>ai h O O (gF O) O O (λe0=>an O) λa h=>?_
 obtain⟨hE,ff,f⟩:=bv f
 refine ai h O O (gF O) O O (λe0=>vB ff (dS (eg e0 O) O)) λa h=>?_
 refine sB h f O (ca O O) λhF hG f a h=>cN k h [0,3,4,5,6,18] O6 λh=>?_
 refine cI h f O (λe5 f=>?_) λe5 f=>?_
 refine ag ?_
 obtain⟨fs,e6,f⟩:=bv f
 refine Bg (λa w=>∃(Z:FZ) (Y:Int × Bool × (List (Int))) (af:Value),fs Y=some G/\Fr 74 [(0,I x0),(3,.int .u64 Y.1),(4,af),(5,.bool Y.2.1),(6,I F.2.2.1)] a/\HZ w0 Zi Z [.row 5 1 af (Y.2.2:List (Int)).length ((Y.2.2:List (Int)).flatMap (eI .u8))] w) ?_ ?_
 rintro a w ⟨Z,Y,af,f,h,H⟩
 subst e6
 refine ah<|ae 1 h O λa h=>sI h f O (aw O O) λhI hJ f a h=>ae 1 h O λa h=>am ?_
 exact fK (iP ⟨fq e4 f,h.to,H⟩)
 obtain⟨gb,e7,f⟩:=bv f
 refine dA (λa w=>∃(Z:FZ) (a6:Bool × (List (Int))) (ao:Value),gb a6=some G/\Fr 74 [(0,I x0),(3,.int .u64 F.1),(4,ao),(5,.bool a6.1),(6,I F.2.2.1)] a/\HZ w0 Zi Z [.row 5 1 ao (a6.2:List (Int)).length ((a6.2:List (Int)).flatMap (eI .u8))] w) ?_ ?_
 rintro a w ⟨Z,a6,ao,f,h,H⟩
 subst e7
 refine rg λK k=>ae 1 h O λa h=>sI h f O (iy O O (by decide)) λhK hL f a h=>sI h f rfl (db (by rw[underlying151];rfl) U5 rfl rfl) λhN hP f a h=>ae 1 h rfl λa h=>cz k<|rg λK k=>ae 1 h rfl λa h=>sI h f rfl (cm rfl rfl (by decide)) λhQ hR f a h=>ae 1 h rfl λa h=>cN k h [0,3,4,5,6,7] O6 λh=>?_
 refine sq<|rg λK k=>ae 2 h O λa h=>ai h O O (gT O) O O (λe0=>an O) λa h=>?_
 obtain⟨hT,gf,f⟩:=bv f
 refine ai h O O (gT O) O O (λe0=>vB gf (aD (eg e0 O) O)) λa h=>?_
 refine sB h f O (bK O O) λhU hV f a h=>cN k h [0,3,4,5,6,7,37] O7 λh=>?_
 refine cI h f O (λe8 f=>?_) λe8 f=>?_
 exact aR (iP ⟨f,h.to,H⟩)
 refine ag<|rg λK k=>ae 1 h O λa h=>cz k<|ah<|ae 2 h O λa h=>sI h f O (aw O O) λe9 hW f a h=>cZ (enc:=(eI .u8)) ([e9]:List (Int)) h H rM Z5 zeroValue5 O (zl:=[.int .u8 0]) kR (cb 1 1) [_] [_] O O O O O λa ef Z w c8 X H bs h=>?_
 obtain⟨gg,f⟩:=ck f
 obtain⟨hY,gl,f⟩:=bv f
 refine cg (enc:=(eI .u8)) (out:=a6.2) (data:=[e9]) h H 0 O rM CZ O O O bs (λ_=>rfl) (λ_ _=>rfl) gg O λa ei w H h=>?_
 rw[<-gl]at H
 have H:HZ w0 _ _ [_] _:=H
 refine ae 1 h O λa h=>am ?_
 exact iP ⟨f,h.to,H⟩
 refine rg λK k=>ae 1 h O λa h=>sB h f O (aD O O) λhZ ih f a h=>cz k<|cI h f O (λea f=>?_) λea f=>?_
 refine sq<|rg λK k=>ae 1 h O λa h=>sB h f O (dI O) λjo k1 f a h=>cN k h [0,3,4,6,24] O5 λh=>?_
 refine cI h f O (λeb f=>?_) λeb f=>?_
 refine ah<|ae 1 h O λa h=>cZ (enc:=(eI .u8)) ([46]:List (Int)) h H rM Z5 zeroValue5 O (zl:=[.int .u8 0]) kR (cb 1 1) [_] [_] O O O O O λa ej Z w c8 X H c6 h=>?_
 obtain⟨gm,f⟩:=ck f
 obtain⟨k2,h0,f⟩:=bv f
 refine cg (enc:=(eI .u8)) (out:=F.2.2.2) (data:=[46]) h H 0 O rM CZ O O O c6 (λ_=>rfl) (λ_ _=>rfl) gm O λa el w H h=>?_
 rw[<-h0]at H
 have H:HZ w0 _ _ [_] _:=H
 refine ae 1 h O λa h=>am<|cO h [0,3,4,6] O4 λh=>?_
 refine ah<|ae 1 h O λa h=>am ?_
 exact iP ⟨f,h.to,H⟩
 refine ag<|ah<|ae 1 h O λa h=>am ?_
 exact iP ⟨f,h.to,H⟩
 exact ag (iP ⟨f,h.to,H⟩)
 exact aR (iP ⟨f,h.to,H⟩)
theorem ic{x0:V}{u:(List UInt8)}{w0:World}(f:dy x0=some u) (hG:GW w0):Calls prog 73 [(vA x0)].toArray w0 (bj λv w=>v=S u/\Ext w0 w):=by
 refine en func73 [0] [_] λQ a Zi Z J H h g=>?_
 clear J
 unfold dy at f
 refine rg λK k=>aZ h H O O3 O O λa p1 w X H h=>?_
 have H:HZ w0 _ _ [_] _:=H
 refine ae 1 h O λa h=>cz k<|sq<|rg λK k=>s1 h O (ab O cB O Z3 O O) λa h=>s1 h O (l1 H 0 A3) λa h=>cz k<|lb<|rg λK k=>sB h f O (aD O O) λz4 e4 f a h=>ae 1 h O λa h=>cN k h [1,4,5] O3 λh=>?_
 refine cI h f O (λW f=>?_) λW f=>?_
 refine rg λK k=>s1 h O (ab O cB O Z2 O O) λa h=>s1 h O (l1 H 0 A2) λa h=>sC h H f O (λy6 f6=>dC call103 (nr f6 :)) λy6 f w X H a h=>?_
 refine ae 1 h O λa h=>cN k h [2] [_] λh=>?_
 cases f
 refine r1 g h O O ⟨O,H.out⟩
 refine rg λK k=>sB h f O (aD O O) λz7 e7 f a h=>ae 1 h O λa h=>cz k<|cI h f O (λY f=>?_) λY f=>?_
 refine rg λK k=>s1 h O (ab O cB O Z9 O O) λa h=>s1 h O (l1 H 0 A9) λa h=>ae 1 h O λa h=>cN k h [2] [_] λh=>?_
 cases f
 refine r1 g h O O ⟨O,H.out⟩
 refine rg λK k=>sB h f O (aD O O) λz9 e9 f a h=>ae 1 h O λa h=>cN k h [1,4,14] O3 λh=>?_
 refine cI h f O (λE f=>?_) λE f=>?_
 refine sq<|rg λK k=>s1 h O (ab O cB O Z2 O O) λa h=>s1 h O (l1 H 0 A2) λa h=>sB h f O (aD O O) λa6 a7 f a h=>cN k h [18] [_] λh=>?_
 refine cI h f O (λF f=>?_) λF f=>?_
 refine rg λK k=>ae 1 h O λa h=>cz k ?_
 cases f
 refine r1 g h O O ⟨O,H.out⟩
 refine ag<|rg λK k=>ae 1 h O λa h=>cz k ?_
 cases f
 refine r1 g h O O ⟨O,H.out⟩
 refine rg λK k=>sB h f O (aD O O) λa8 ad f a h=>ae 1 h O λa h=>cz k<|cI h f O (λG f=>?_) λG f=>?_
 refine rg λK k=>s1 h O (ab O cB O Z2 O O) λa h=>s1 h O (l1 H 0 A2) λa h=>sC h H f O (λa1 f16=>dC call96 (jg f16 (hG.ext H.out) :)) λa1 f w X H a h=>?_
 refine ae 1 h O λa h=>cN k h [2] [_] λh=>?_
 cases f
 refine r1 g h O O ⟨O,H.out⟩
 refine ag<|cO h [] [] λh=>?_
 refine rg λK k=>ae 1 h O λa h=>cz k ?_
 cases f
 refine r1 g h O O ⟨O,H.out⟩
theorem oZ{x0 g:V}{w0:World}(f:gE x0=some g) (G:GW w0):Calls prog 158 [(vA x0)].toArray w0 (bj λv w=>v=.agg #[I g.k,I g.n,S g.s]/\Ext w0 w):=by
 refine en func158 [0] [_] λQ a Zi Z u H h F=>?_
 clear u
 unfold gE at f
 refine rg λK k=>aZ h H O O3 O O λa Y w X H h=>?_
 have H:HZ w0 _ _ [_] _:=H
 refine zA h H eX O3 (λx=>[_,x]) λa p2 w X H h=>?_
 refine cz k<|sq<|rg λK k=>s1 h O (ab O cB O Z3 O O) λa h=>s1 h O (l1 H 0 A3) λa h=>sB h f O (aD O O) λz4 e4 f a h=>cz k<|cI h f O (λE f=>?_) λE f=>?_
 refine rg λK k=>s1 h O (lA H 0 aQ aq O3) λa h=>zS h H 1 aq O3 O3 O2 λw H=>?_
 refine cN k h [2] [_] λh=>?_
 cases f
 refine r1 F h O (aO H 1 aQ aq O3) ⟨O,H.out⟩
 refine ag<|cO h [1,2] O2 λh=>?_
 refine rg λK k=>s1 h O (lA H 0 aQ aq O3) λa h=>sC h H f O (λJ f6=>dC call73 (ic f6 (G.ext H.out) :)) λJ f w X H a h=>?_
 refine sC h H f O (λW f7=>dC call16 (bI f7 :)) λW f w X H a h=>?_
 refine zS h H 1 aq O3 O3 O2 λw H=>?_
 refine cN k h [2] [_] λh=>?_
 cases f
 refine r1 F h O (aO H 1 aQ aq O3) ⟨O,H.out⟩
theorem pV{x0 x1:Int}{g:V}{w0:World}(f:iA x0 x1=some g):Calls prog 156 [I x0,I x1].toArray w0 (bj λv w=>v=.agg #[I g.k,I g.n,S g.s]/\Ext w0 w):=by
 refine en func156 [0,1] O2 λQ a Zi Z a1 H h hr=>?_
 clear a1
 unfold iA at f
 refine rg λK k=>zA h H eX O3 (λx=>[x]) λa W w X H h=>?_
 refine cz k<|rg λK k=>sC h H f O (λy2 f2=>dC call159 (fu f2 :)) λy2 f w X H a h=>?_
 refine ae 5 h O λa h=>cN k h [0,1,4,5,6] O5 λh=>?_
 obtain⟨J4,a6,f⟩:=bv f
 refine dA (λa w=>∃(Z:FZ) (Y:Int × Bool),J4 Y=some g/\Fr 25 [(4,(pt W)),(5,I Y.1),(6,.bool Y.2)] a/\HZ w0 Zi Z [.blk W (aB [I 0,I 0,S []] 27)] w) ?_ ?_
 rintro a w ⟨Z,Y,f,h,H⟩
 subst a6
 refine rg λK k=>ae 2 h O λa h=>sC h H f O (λy5 f5=>dC call70 (bc f5 :)) λy5 f w X H a h=>?_
 refine zS h H 0 aq O3 O3 [_] λw H=>?_
 refine cN k h [4] [_] λh=>?_
 cases f
 refine r1 hr h O (aO H 0 aQ aq O3) ⟨O,H.out⟩
 refine rg λK k=>ae 2 h O λa h=>cz k<|lb ?_
 obtain⟨B7,a7,f⟩:=bv f
 refine ib (λu a w=>∃(Z:FZ) (E:Int × Bool × Int),loopF B7 u E=some g/\Fr 25 [(0,I x0),(4,(pt W)),(5,I E.1),(6,.bool E.2.1),(11,I x1),(12,I E.2.2)] a/\HZ w0 Zi Z [.blk W (aB [I 0,I 0,S []] 27)] w) KK ⟨_,_,f,h.to,H⟩ ?_
 rintro u a w ⟨Z,E,f,h,H⟩
 obtain⟨u,rfl,n7,F,f⟩:=iJ a7 f
 refine rg λK k=>sB h f O (bn O O) λz9 e9 f a h=>cz k<|sq<|cI h f O (λG f=>?_) λG f=>?_
 refine ag<|sb ?_
 refine rg λK k=>ae 1 h O λa h=>cz k<|cI h f O (λJ f=>?_) λJ f=>?_
 refine ah<|ae 2 h O λa h=>sC h H f O (λa8 f14=>dC call76 (mY f14 :)) λa8 f w X H a h=>?_
 refine ae 5 h O λa h=>am<|cO h [0,4,5,6,11,12] O6 λh=>?_
 refine ah<|sI h f O (aw O O) λad af f a h=>ae 1 h O λa h=>am ?_
 exact fK (bp ⟨fq F f,h.to,H⟩)
 refine ag<|ah<|sI h f O (aw O O) λao b0 f a h=>ae 1 h O λa h=>am ?_
 exact fK (bp ⟨fq F f,h.to,H⟩)
 exact aR (bp ⟨f,h.to,H⟩)
theorem gW{x0:List (V)}{E:V}{w0:World}(f:dO x0=some E){a7:Value}(F:bx (hz w0) a7 3 vL x0):Calls prog 169 [a7].toArray w0 (bj λv w=>v=.agg #[I E.k,I E.n,S E.s]/\Ext w0 w):=by
 refine en func169 [0] [_] λQ a Zi Z a8 H h hr=>?_
 have F:=F.sub a8
 clear a8
 unfold dO at f
 refine rg λK k=>zA h H eX O3 (λx=>[x]) λa p1 w X H h=>?_
 refine cz k<|rg λK k=>ae 1 h O λa h=>?_
 obtain⟨y2,f2,f⟩:=bo f
 refine cW (data:=y2) h H O O O (dC call194 (fx (x0:=x0) f2 (F.hz H.zin))) λcc Z w ad X H G a h=>?_
 have F:=F.sub ad
 refine ae 1 h O λa h=>cz k<|sq<|rg λK k=>ae 1 h O λa h=>s1 h O (bY dp O (G.at H.zin)) λa h=>sB h f O (aD O O) λz5 e5 f a h=>cN k h [2,3,12] O3 λh=>?_
 refine cI h f O (λb4 f=>?_) λb4 f=>?_
 refine rg λK k=>sC h H f O (λy7 f7=>dC call14 (bH f7 :)) λy7 f w X H a h=>?_
 refine zS h H 0 aq O3 O3 [_] λw H=>?_
 refine cz k ?_
 cases f
 refine r1 hr h O (aO H 0 aQ aq O3) ⟨O,H.out⟩
 refine ag<|rg λK k=>ae 1 h O λa h=>?_
 obtain⟨c8,f⟩:=ck f
 obtain⟨z9,e9,f⟩:=bv f
 refine bB h dp Z2 O O (G.at H.zin) (λ_=>rfl) z9 c8.1 (by rw[e9];exact ak c8) rfl λa ch b5 h=>?_
 refine s1 h O (al O b5 A2 O) λa h=>ae 2 h O λa h=>cN k h [2,3,4,5] O4 λh=>?_
 obtain⟨b6,af,f⟩:=bv f
 refine dA (λa w=>∃(Z:FZ) (W:Int × Bool),b6 W=some E/\Fr 35 [(2,(pt p1)),(4,I W.1),(5,.bool W.2)] a/\HZ w0 Zi Z [.blk p1 (aB [I 0,I 0,S []] 27)] w) ?_ ?_
 rintro a w ⟨Z,W,f,h,H⟩
 subst af
 refine rg λK k=>ae 2 h O λa h=>sC h H f O (λb7 f12=>dC call70 (bc f12 :)) λb7 f w X H a h=>?_
 refine zS h H 0 aq O3 O3 [_] λw H=>?_
 refine cN k h [2] [_] λh=>?_
 cases f
 refine r1 hr h O (aO H 0 aQ aq O3) ⟨O,H.out⟩
 refine rg λK k=>ae 1 h O λa h=>?_
 obtain⟨bb,f⟩:=ck f
 obtain⟨ao,bk,f⟩:=bv f
 refine jq (enc:=(eI .i64)) (sz:=1) (λ_=>rfl) h dp Z2 O O G bb O λa u g h=>?_
 rw[<-bk]at g
 refine s1 h O (bY dp O (g.at H.zin)) λa h=>ae 1 h O λa h=>cz k<|lb ?_
 obtain⟨bq,b0,f⟩:=bv f
 refine ib (λa1 a w=>∃(Z:FZ) (J:Int × Bool × Int),loopF bq a1 J=some E/\Fr 35 [(2,(pt p1)),(4,I J.1),(5,.bool J.2.1),(18,u),(19,I (ao.length:Int)),(20,I J.2.2)] a/\HZ w0 Zi Z [.blk p1 (aB [I 0,I 0,S []] 27)] w/\bx Z u 1 (eI .i64) ao) KK ⟨_,_,f,h.to,H,g⟩ ?_
 rintro a1 a w ⟨Z,J,f,h,H,g⟩
 obtain⟨a1,rfl,cp,Y,f⟩:=iJ b0 f
 refine rg λK k=>sB h f O (bn O O) λct cx f a h=>cz k<|sq<|cI h f O (λb1 f=>?_) λb1 f=>?_
 refine ag<|sb ?_
 refine rg λK k=>?_
 obtain⟨b2,f⟩:=ck f
 obtain⟨bs,c6,f⟩:=bv f
 refine bB h dp Z2 O O (g.at H.zin) (λ_=>rfl) bs b2.1 (by rw[c6];exact ak b2) rfl λa cy a6 h=>?_
 refine s1 h O (al O a6 A2 O) λa h=>ae 1 h O λa h=>cz k<|rg λK k=>ae 1 h O λa h=>cz k<|cI h f O (λb3 f=>?_) λb3 f=>?_
 refine ah<|ae 2 h O λa h=>sC h H f O (λc7 f26=>dC call76 (mY f26 :)) λc7 f w X H a h=>?_
 have a6:=At.ext a6 X
 refine ae 5 h O λa h=>am<|cO h [2,4,5,18,19,20] O6 λh=>?_
 refine ah<|sI h f O (aw O O) λda dd f a h=>ae 1 h O λa h=>am ?_
 exact fK (bp ⟨fq Y f,h.to,H,g⟩)
 refine ag<|cO h [2,4,5,18,19,20] O6 λh=>?_
 refine ah<|sI h f O (aw O O) λdj dn f a h=>ae 1 h O λa h=>am ?_
 exact fK (bp ⟨fq Y f,h.to,H,g⟩)
 exact aR (bp ⟨f,h.to,H⟩)
theorem nU{x0:List (V)}{u:V}{w0:World}(f:fU x0=some u){E:Value}(g:bx (hz w0) E 3 vL x0):Calls prog 171 [E].toArray w0 (bj λv w=>v=.agg #[I u.k,I u.n,S u.s]/\Ext w0 w):=by
 refine en func171 [0] [_] λQ a Zi Z F H h Y=>?_
 have g:=g.sub F
 clear F
 unfold fU at f
 refine rg λK k=>zA h H eX O3 (λx=>[x]) λa p1 w X H h=>?_
 refine cz k<|rg λK k=>ae 1 h O λa h=>sC h H f O (λy2 f2=>dC call168 (iU f2 (g.hz H.zin) :)) λy2 f w X H a h=>?_
 refine zA h H eX O3 (λx=>[_,x]) λa p3 w X H h=>?_
 refine zS h H 1 aq O3 O3 O2 λw H=>?_
 refine cz k<|rg λK k=>ae 1 h O λa h=>?_
 obtain⟨y4,f4,f⟩:=bo f
 refine cW (data:=y4) h H O O O (dC call194 (fx (x0:=x0) f4 (g.hz H.zin))) λa8 Z w G X H J a h=>?_
 have g:=g.sub G
 refine s1 h O (bY dp O (J.at H.zin)) λa h=>ae 1 h O λa h=>cN k h [2,3,4] O3 λh=>?_
 refine sq<|rg λK k=>ae 1 h O λa h=>sB h f O (aD O O) λz7 e7 f a h=>cz k<|cI h f O (λa1 f=>?_) λa1 f=>?_
 refine rg λK k=>sC h H f O (λy9 f9=>dC call18 (az f9 :)) λy9 f w X H a h=>?_
 refine zS h H 0 aq O3 O3 O2 λw H=>?_
 refine cN k h [2] [_] λh=>?_
 cases f
 refine r1 Y h O (aO H 0 aQ aq O3) ⟨O,H.out⟩
 refine ag<|sq<|rg λK k=>s1 h O (ab O cB O Z3 O O) λa h=>s1 h O (l1 H 1 A3) λa h=>sB h f O (aD O O) λad af f a h=>cN k h [2,3,4,15] O4 λh=>?_
 refine cI h f O (λW f=>?_) λW f=>?_
 refine rg λK k=>s1 h O (lA H 1 aQ aq O3) λa h=>zS h H 0 aq O3 O3 O2 λw H=>?_
 refine cN k h [2] [_] λh=>?_
 cases f
 refine r1 Y h O (aO H 0 aQ aq O3) ⟨O,H.out⟩
 refine ag<|rg λK k=>s1 h O (ab O cB O Z2 O O) λa h=>s1 h O (l1 H 1 A2) λa h=>ae 1 h O λa h=>sI h f O (dB O O) λao b0 f a h=>sC h H f O (λa6 f14=>dC call71 (mG f14 :)) λa6 f w X H a h=>?_
 refine ae 2 h O λa h=>sC h H f O (λa7 f15=>dC call70 (bc f15 :)) λa7 f w X H a h=>?_
 refine zS h H 0 aq O3 O3 O2 λw H=>?_
 refine cN k h [2] [_] λh=>?_
 cases f
 refine r1 Y h O (aO H 0 aQ aq O3) ⟨O,H.out⟩
theorem rR{x0:List UInt8}{x1:Int}{u:V}{w0:World}(f:kb x0 x1=some u):Calls prog 120 [S x0,I x1].toArray w0 (bj λv w=>v=.agg #[I u.k,I u.n,S u.s]/\Ext w0 w):=by
 refine en func120 [0,1] O2 λQ a Zi Z bs H h G=>?_
 clear bs
 unfold kb at f
 refine rg λK k=>zA h H eX O3 (λx=>[x]) λa J w X H h=>?_
 refine cz k ?_
 obtain⟨J3,c6,f⟩:=bv f
 refine dA (λa w=>∃(Z:FZ) (s3:Int × Int × (List UInt8)),J3 s3=some u/\Fr 68 [(4,(pt J))] a/\HZ w0 Zi Z [.blk J (aB [I s3.1,I s3.2.1,S s3.2.2] 27)] w) ?_ ?_
 rintro a w ⟨Z,s3,f,h,H⟩
 subst c6
 refine rg λK k=>sC h H f O (λy4 f4=>dC call18 (az f4 :)) λy4 f w X H a h=>?_
 refine zS h H 0 aq O3 O3 [_] λw H=>?_
 refine cz k ?_
 cases f
 refine r1 G h O (aO H 0 aQ aq O3) ⟨O,H.out⟩
 refine rg λK k=>ae 1 h O λa h=>cz k<|lb<|rg λK k=>sB h f O (aH O O) λz6 e6 f a h=>ae 1 h O λa h=>cz k<|cI h f O (λc7 f=>?_) λc7 f=>?_
 refine rg λK k=>ae 2 h O λa h=>sI h f O (lw O) λz8 e8 f a h=>sI h f O (pO U2 O O) λz9 e9 f a h=>sC h H f O (λc8 f10=>dC call14 (bH f10 :)) λc8 f w X H a h=>?_
 refine zS h H 0 aq O3 O3 [_] λw H=>?_
 refine cN k h [4] [_] λh=>?_
 cases f
 refine r1 G h O (aO H 0 aQ aq O3) ⟨O,H.out⟩
 refine rg λK k=>sB h f O (aH O O) λe3 e4 f a h=>ae 1 h O λa h=>cz k<|cI h f O (λa7 f=>?_) λa7 f=>?_
 refine rg λK k=>ae 1 h O λa h=>sI h f O (pO U2 O O) λe5 e7 f a h=>sI h f O (pT U2 O O) λea eb f a h=>sC h H f O (λcc f15=>dC call151 (eP f15 :)) λcc f w X H a h=>?_
 refine zS h H 0 aq O3 O3 [_] λw H=>?_
 refine cN k h [4] [_] λh=>?_
 cases f
 refine r1 G h O (aO H 0 aQ aq O3) ⟨O,H.out⟩
 refine rg λK k=>sB h f O (aH O O) λec ed f a h=>ae 1 h O λa h=>cN k h [0,1,4,8,22] O5 λh=>?_
 refine cI h f O (λa8 f=>?_) λa8 f=>?_
 refine rg λK k=>ae 1 h O λa h=>sC h H f O (λch f18=>dC call152 (sd f18 :)) λch f w X H a h=>?_
 refine ae 2 h O λa h=>sC h H f O (λcp f19=>dC call70 (bc f19 :)) λcp f w X H a h=>?_
 refine zS h H 0 aq O3 O3 [_] λw H=>?_
 refine cN k h [4] [_] λh=>?_
 cases f
 refine r1 G h O (aO H 0 aQ aq O3) ⟨O,H.out⟩
 refine rg λK k=>sB h f O (aH O O) λef ei f a h=>ae 1 h O λa h=>cz k<|cI h f O (λad f=>?_) λad f=>?_
 refine rg λK k=>ae 2 h O λa h=>sI h f O (iy O O (by decide)) λej el f a h=>sI h f rfl (bf rfl rfl) λeo ep f a h=>sC h H f rfl (λct f24=>dC call14 (bH f24 :)) λct f w X H a h=>?_
 refine zS h H 0 aq O3 O3 [_] λw H=>?_
 refine cN k h [4] [_] λh=>?_
 cases f
 refine r1 G h O (aO H 0 aQ aq O3) ⟨O,H.out⟩
 obtain⟨cx,af,f⟩:=bv f
 refine dA (λa w=>∃(Z:FZ) (Y:Bool),cx Y=some u/\Fr 68 [(0,S x0),(1,I x1),(4,(pt J)),(8,S x0),(36,.bool Y)] a/\HZ w0 Zi Z [.blk J (aB [I 0,I 0,S []] 27)] w) ?_ ?_
 rintro a w ⟨Z,Y,f,h,H⟩
 subst af
 refine cI h f O (λao f=>?_) λao f=>?_
 refine rg λK k=>ae 2 h O λa h=>sB h f O (aH O O) λer et f a h=>sC h H f O (λcy f29=>dC call153 (qL f29 :)) λcy f w X H a h=>?_
 refine zS h H 0 aq O3 O3 [_] λw H=>?_
 refine cN k h [4] [_] λh=>?_
 cases f
 refine r1 G h O (aO H 0 aQ aq O3) ⟨O,H.out⟩
 refine rg λK k=>sB h f O (aH O O) λeu ew f a h=>ae 1 h O λa h=>cN k h [1,4,43] O3 λh=>?_
 refine cI h f O (λb0 f=>?_) λb0 f=>?_
 refine rg λK k=>ae 1 h O λa h=>cZ (enc:=(eI .i64)) ([x1]:List (Int)) h H dp Z2 zeroValue2 O (zl:=[I 0]) kR (cb 1 1) [_] [_] O O O O O λa bk Z w W X H g h=>?_
 obtain⟨da,f33,f⟩:=bo f
 refine cW (data:=da) h H O O O (dC call154 (lQ (x0:=[x1]) f33 (g.hz H.zin))) λbq Z w W X H E a h=>?_
 have g:=g.sub W
 obtain⟨b1,f⟩:=ck f
 obtain⟨b2,dd,f⟩:=bv f
 refine bB h dp Z2 O O (E.at H.zin) (λ_=>rfl) b2 b1.1 (by rw[dd];exact ak b1) rfl λa ey dj h=>?_
 refine s1 h O (al O dj A2 O) λa h=>ae 1 h O λa h=>cN k h [4,5] O2 λh=>?_
 refine sq<|rg λK k=>ae 1 h O λa h=>sB h f O (bn O O) λez eF f a h=>ae 1 h O λa h=>ai h O O (gF O) O O (λe0=>an O) λa h=>?_
 obtain⟨eJ,dn,f⟩:=bv f
 refine ai h O O (gF O) O O (λe0=>vB dn (dS (eg e0 O) O)) λa h=>?_
 refine sB h f O (ca O O) λeZ ff f a h=>cN k h [4,5,55] O3 λh=>?_
 refine cI h f O (λb3 f=>?_) λb3 f=>?_
 refine rg λK k=>sC h H f O (λdv f42=>dC call18 (az f42 :)) λdv f w X H a h=>?_
 refine zS h H 0 aq O3 O3 [_] λw H=>?_
 refine cz k ?_
 cases f
 refine r1 G h O (aO H 0 aQ aq O3) ⟨O,H.out⟩
 refine ag<|rg λK k=>ae 1 h O λa h=>cz k ?_
 obtain⟨dz,b4,f⟩:=bv f
 refine dA (λa w=>∃(Z:FZ) (a1:Int),dz a1=some u/\Fr 68 [(4,(pt J)),(6,I a1)] a/\HZ w0 Zi Z [.blk J (aB [I 0,I 0,S []] 27)] w) ?_ ?_
 rintro a w ⟨Z,a1,f,h,H⟩
 subst b4
 refine rg λK k=>ae 1 h O λa h=>sC h H f O (λe1 f45=>dC call151 (eP f45 :)) λe1 f w X H a h=>?_
 refine zS h H 0 aq O3 O3 [_] λw H=>?_
 refine cz k ?_
 cases f
 refine r1 G h O (aO H 0 aQ aq O3) ⟨O,H.out⟩
 refine rg λK k=>ae 1 h O λa h=>cz k<|lb ?_
 obtain⟨e2,b5,f⟩:=bv f
 refine ib (λa6 a w=>∃(Z:FZ) (F:Int × Int),loopF e2 a6 F=some u/\Fr 68 [(4,(pt J)),(5,I b2),(6,I F.1),(7,I F.2)] a/\HZ w0 Zi Z [.blk J (aB [I 0,I 0,S []] 27)] w) KK ⟨_,_,f,h.to,H⟩ ?_
 rintro a6 a w ⟨Z,F,f,h,H⟩
 obtain⟨a6,rfl,fs,b6,f⟩:=iJ b5 f
 refine sq<|rg λK k=>ae 2 h O λa h=>sB h f O (jX O O) λgb gf f a h=>cz k<|cI h f O (λb7 f=>?_) λb7 f=>?_
 refine ag<|sb ?_
 refine ah<|ae 2 h O λa h=>sI h f O (dB O O) λgg gl f a h=>ae 1 h O λa h=>am<|cO h [4,5,6,7] O4 λh=>?_
 refine ah<|ae 1 h O λa h=>sI h f O (aw O O) λgm h0 f a h=>ae 1 h O λa h=>am ?_
 exact fK (bp ⟨fq b6 f,h.to,H⟩)
 exact aR (bp ⟨f,h.to,H⟩)
 exact ag (bp ⟨f,h.to,H⟩)
 refine rg λK k=>sB h f O (aH O O) λh2 h3 f a h=>ae 1 h O λa h=>cN k h [0,1,4,8,36] O5 λh=>?_
 refine cI h f O (λbb f=>?_) λbb f=>?_
 exact ag (bp ⟨f,h.to,H⟩)
 refine ah<|sB h f O (aH O O) λh4 h5 f a h=>ae 1 h O λa h=>am ?_
 exact bp ⟨f,h.to,H⟩
theorem sZ{x0:List UInt8}{x1 x2:Int}{F:V}{w0:World}(f:kd x0 x1 x2=some F):Calls prog 121 [S x0,I x1,I x2].toArray w0 (bj λv w=>v=.agg #[I F.k,I F.n,S F.s]/\Ext w0 w):=by
 refine en func121 [0,1,2] O3 λQ a Zi Z ej H h G=>?_
 clear ej
 unfold kd at f
 refine rg λK k=>zA h H eX O3 (λx=>[x]) λa p1 w X H h=>?_
 refine cz k<|rg λK k=>ae 2 h O λa h=>cZ (enc:=(eI .i64)) ([x1,x2]:List (Int)) h H dp Z2 zeroValue2 O (zl:=[I 0,I 0]) kR (cb 2 1) O2 O2 O O O O O λa el Z w Y X H E h=>?_
 obtain⟨y3,f3,f⟩:=bo f
 refine cW (data:=y3) h H O O O (dC call154 (lQ (x0:=[x1,x2]) f3 (E.hz H.zin))) λJ Z w Y X H u a h=>?_
 have E:=E.sub Y
 refine ae 1 h O λa h=>cN k h [0,1,2,6,7] O5 λh=>?_
 refine sq<|rg λK k=>ae 1 h O λa h=>cz k<|lb<|rg λK k=>sB h f O (aH O O) λz7 e7 f a h=>ae 1 h O λa h=>cz k<|cI h f O (λeo f=>?_) λeo f=>?_
 refine sq<|rg λK k=>ae 1 h O λa h=>?_
 obtain⟨b0,f⟩:=ck f
 obtain⟨ep,er,f⟩:=bv f
 refine bB h dp Z2 O O (u.at H.zin) (λ_=>rfl) ep b0.1 (by rw[er];exact ak b0) rfl λa k8 et h=>?_
 refine s1 h O (al O et A2 O) λa h=>sB h f O (bn O O) λk9 kc f a h=>ae 1 h O λa h=>ai h O O (gF O) O O (λg=>an O) λa h=>?_
 obtain⟨b1,f⟩:=ck f
 obtain⟨eu,ew,f⟩:=bv f
 refine fv h O (gF O) dp Z2 (λg=>(eg g O)) (λg=>rfl) (u.at H.zin) (λ_=>rfl) eu (λg=>(b1 g).1) (λg=>(by rw[ew];exact ak (b1 g))) rfl λa ki ey h=>?_
 refine ai h O O (gF O) O O (λg=>al (eg g O) (ey g) A2 O) λa h=>?_
 obtain⟨kk,ez,f⟩:=bv f
 refine ai h O O (gF O) O O (λg=>vB ez (dS (eg g O) O)) λa h=>?_
 refine sB h f O (ca O O) λkx ky f a h=>cN k h [1,6,7,27] O4 λh=>?_
 refine cI h f O (λb2 f=>?_) λb2 f=>?_
 refine rg λK k=>sC h H f O (λeF f18=>dC call18 (az f18 :)) λeF f w X H a h=>?_
 refine zS h H 0 aq O3 O3 [_] λw H=>?_
 refine cN k h [6] [_] λh=>?_
 cases f
 refine r1 G h O (aO H 0 aQ aq O3) ⟨O,H.out⟩
 refine ag<|rg λK k=>ae 2 h O λa h=>?_
 obtain⟨b3,f⟩:=ck f
 obtain⟨eJ,eZ,f⟩:=bv f
 refine bB h dp Z2 O O (u.at H.zin) (λ_=>rfl) eJ b3.1 (by rw[eZ];exact ak b3) rfl λa kz mP h=>?_
 refine s1 h O (al O mP A2 O) λa h=>sC h H f O (λff f21=>dC call155 (pk f21 :)) λff f w X H a h=>?_
 have mP:=At.ext mP X
 refine zS h H 0 aq O3 O3 [_] λw H=>?_
 refine cN k h [6] [_] λh=>?_
 cases f
 refine r1 G h O (aO H 0 aQ aq O3) ⟨O,H.out⟩
 refine rg λK k=>sB h f O (aH O O) λl0 l2 f a h=>ae 1 h O λa h=>cz k<|cI h f O (λb4 f=>?_) λb4 f=>?_
 refine sq<|rg λK k=>ae 1 h O λa h=>sB h f O (aD O O) λl3 mb f a h=>cN k h [1,2,6,37] O4 λh=>?_
 refine cI h f O (λb5 f=>?_) λb5 f=>?_
 refine rg λK k=>sC h H f O (λfs f27=>dC call18 (az f27 :)) λfs f w X H a h=>?_
 refine zS h H 0 aq O3 O3 [_] λw H=>?_
 refine cN k h [6] [_] λh=>?_
 cases f
 refine r1 G h O (aO H 0 aQ aq O3) ⟨O,H.out⟩
 refine ag<|rg λK k=>ae 2 h O λa h=>?_
 obtain⟨gb,f⟩:=ck f
 refine sI h f O (iy O O gb) λml mm f a h=>ae 1 h O λa h=>cN k h [2,6,8] O3 λh=>?_
 obtain⟨gf,b6,f⟩:=bv f
 refine dA (λa w=>∃(Z:FZ) (a6:Int),gf a6=some F/\Fr 142 [(6,(pt p1)),(8,I a6)] a/\HZ w0 Zi Z [.blk p1 (aB [I 0,I 0,S []] 27)] w) ?_ ?_
 rintro a w ⟨Z,a6,f,h,H⟩
 subst b6
 refine rg λK k=>ae 1 h O λa h=>sC h H f O (λgg f32=>dC call14 (bH f32 :)) λgg f w X H a h=>?_
 refine zS h H 0 aq O3 O3 [_] λw H=>?_
 refine cz k ?_
 cases f
 refine r1 G h O (aO H 0 aQ aq O3) ⟨O,H.out⟩
 refine rg λK k=>ae 1 h O λa h=>sB h f O (fN O O) λmn mo f a h=>ae 1 h O λa h=>ai h O O (gT O) O O (λg=>an O) λa h=>?_
 obtain⟨mu,gl,f⟩:=bv f
 refine ai h O O (gT O) O O (λg=>vB gl (bn (eg g O) O)) λa h=>?_
 refine ai h O O (gT O) O O (λg=>an O) λa h=>?_
 obtain⟨mv,gm,f⟩:=bv f
 refine ai h O O (gT O) O O (λg=>vB gm (bn (eg g O) O)) λa h=>?_
 obtain⟨n0,h0,f⟩:=bv f
 refine ai h O O (gT O) O O (λg=>vB h0 (wx U4 (eg g O) (eg g O))) λa h=>?_
 refine sB h f O (bK O O) λn2 n5 f a h=>cN k h [2,6,8,50] O4 λh=>?_
 refine cI h f O (λb7 f=>?_) λb7 f=>?_
 refine ah<|ae 2 h O λa h=>sI h f O (aw O O) λna nb f a h=>ae 1 h O λa h=>am ?_
 exact bp ⟨f,h.to,H⟩
 exact ag (bp ⟨f,h.to,H⟩)
 refine rg λK k=>sB h f O (aH O O) λnk nl f a h=>ae 1 h O λa h=>cN k h [0,1,2,6,7,15,56] O7 λh=>?_
 refine cI h f O (λbb f=>?_) λbb f=>?_
 refine sq<|rg λK k=>ae 1 h O λa h=>sI h f O (iy O O (by decide)) λnn nx f a h=>sB h f rfl (fN rfl rfl) λo0 o2 f a h=>ae 1 h rfl λa h=>ai h rfl rfl (gF rfl) rfl rfl (λg=>an rfl) λa h=>?_
 obtain⟨bk,f⟩:=ck f
 obtain⟨h2,h3,f⟩:=bv f
 refine fv h O (gF O) dp Z2 (λg=>(eg g O)) (λg=>rfl) (u.at H.zin) (λ_=>rfl) h2 (λg=>(bk g).1) (λg=>(by rw[h3];exact ak (bk g))) rfl λa o5 h4 h=>?_
 refine ai h O O (gF O) O O (λg=>al (eg g O) (h4 g) A2 O) λa h=>?_
 obtain⟨o9,h5,f⟩:=bv f
 refine ai h O O (gF O) O O (λg=>vB h5 (bn (eg g O) O)) λa h=>?_
 refine sB h f O (ca O O) λod oh f a h=>ae 1 h O λa h=>ai h O O (gF O) O O (λg=>an O) λa h=>?_
 obtain⟨bq,f⟩:=ck f
 obtain⟨h6,h7,f⟩:=bv f
 refine fv h O (gF O) dp Z2 (λg=>(eg g O)) (λg=>rfl) (u.at H.zin) (λ_=>rfl) h6 (λg=>(bq g).1) (λg=>(by rw[h7];exact ak (bq g))) rfl λa p0 h8 h=>?_
 refine ai h O O (gF O) O O (λg=>al (eg g O) (h8 g) A2 O) λa h=>?_
 obtain⟨p2,h9,f⟩:=bv f
 refine ai h O O (gF O) O O (λg=>vB h9 (dS (eg g O) O)) λa h=>?_
 refine sB h f O (ca O O) λp6 p7 f a h=>cN k h [1,6,7,72] O4 λh=>?_
 refine cI h f O (λbs f=>?_) λbs f=>?_
 refine rg λK k=>sC h H f O (λha f54=>dC call18 (az f54 :)) λha f w X H a h=>?_
 refine zS h H 0 aq O3 O3 [_] λw H=>?_
 refine cN k h [6] [_] λh=>?_
 cases f
 refine r1 G h O (aO H 0 aQ aq O3) ⟨O,H.out⟩
 refine ag<|rg λK k=>ae 2 h O λa h=>?_
 obtain⟨c6,f⟩:=ck f
 obtain⟨hb,hc,f⟩:=bv f
 refine bB h dp Z2 O O (u.at H.zin) (λ_=>rfl) hb c6.1 (by rw[hc];exact ak c6) rfl λa p8 j2 h=>?_
 refine s1 h O (al O j2 A2 O) λa h=>sC h H f O (λhf f57=>dC call156 (pV f57 :)) λhf f w X H a h=>?_
 have j2:=At.ext j2 X
 refine zS h H 0 aq O3 O3 [_] λw H=>?_
 refine cN k h [6] [_] λh=>?_
 cases f
 refine r1 G h O (aO H 0 aQ aq O3) ⟨O,H.out⟩
 refine rg λK k=>sB h f O (aH O O) λp9 pa f a h=>ae 1 h O λa h=>cz k<|cI h f O (λc7 f=>?_) λc7 f=>?_
 refine sq<|rg λK k=>ae 1 h O λa h=>sB h f O (aD O O) λpb pe f a h=>cN k h [1,2,6,82] O4 λh=>?_
 refine cI h f O (λc8 f=>?_) λc8 f=>?_
 refine rg λK k=>sC h H f O (λhg f63=>dC call18 (az f63 :)) λhg f w X H a h=>?_
 refine zS h H 0 aq O3 O3 [_] λw H=>?_
 refine cN k h [6] [_] λh=>?_
 cases f
 refine r1 G h O (aO H 0 aQ aq O3) ⟨O,H.out⟩
 refine ag<|rg λK k=>ae 2 h O λa h=>?_
 obtain⟨hj,f⟩:=ck f
 refine sI h f O (cm O O hj) λps q0 f a h=>sC h H f O (λhn f66=>dC call151 (eP f66 :)) λhn f w X H a h=>?_
 refine zS h H 0 aq O3 O3 [_] λw H=>?_
 refine cN k h [6] [_] λh=>?_
 cases f
 refine r1 G h O (aO H 0 aQ aq O3) ⟨O,H.out⟩
 obtain⟨ho,cc,f⟩:=bv f
 refine dA (λa w=>∃(Z:FZ) (a7:Bool),ho a7=some F/\Fr 142 [(0,S x0),(6,(pt p1)),(7,J),(88,.bool a7)] a/\HZ w0 Zi Z [.blk p1 (aB [I 0,I 0,S []] 27)] w/\bx Z J 1 (eI .i64) y3) ?_ ?_
 rintro a w ⟨Z,a7,f,h,H,u⟩
 subst cc
 refine cI h f O (λch f=>?_) λch f=>?_
 refine sq<|rg λK k=>ae 1 h O λa h=>?_
 obtain⟨cp,f⟩:=ck f
 obtain⟨hq,ht,f⟩:=bv f
 refine bB h dp Z2 O O (u.at H.zin) (λ_=>rfl) hq cp.1 (by rw[ht];exact ak cp) rfl λa q3 hv h=>?_
 refine s1 h O (al O hv A2 O) λa h=>sB h f O (bn O O) λq4 q5 f a h=>ae 1 h O λa h=>ai h O O (gF O) O O (λg=>an O) λa h=>?_
 obtain⟨ct,f⟩:=ck f
 obtain⟨hx,hy,f⟩:=bv f
 refine fv h O (gF O) dp Z2 (λg=>(eg g O)) (λg=>rfl) (u.at H.zin) (λ_=>rfl) hx (λg=>(ct g).1) (λg=>(by rw[hy];exact ak (ct g))) rfl λa q6 hA h=>?_
 refine ai h O O (gF O) O O (λg=>al (eg g O) (hA g) A2 O) λa h=>?_
 obtain⟨q7,hB,f⟩:=bv f
 refine ai h O O (gF O) O O (λg=>vB hB (bn (eg g O) O)) λa h=>?_
 refine sB h f O (ca O O) λqa qb f a h=>cN k h [0,6,7,100] O4 λh=>?_
 refine cI h f O (λcx f=>?_) λcx f=>?_
 refine rg λK k=>sC h H f O (λhD f79=>dC call18 (az f79 :)) λhD f w X H a h=>?_
 refine zS h H 0 aq O3 O3 [_] λw H=>?_
 refine cN k h [6] [_] λh=>?_
 cases f
 refine r1 G h O (aO H 0 aQ aq O3) ⟨O,H.out⟩
 refine ag<|fl h ?_
 refine bN 1 O ?_
 obtain⟨cy,f⟩:=ck f
 obtain⟨a8,hE,f⟩:=bv f
 refine aT [102] O O O O false (.rel (λw' v'=>At w' v' (eI .i64) a8 0)) aI (λw X=>?_) ?_
 skip
 exact have H:=H.ext X;fh dp Z2 O O (u.at H.zin) (λ_=>rfl) a8 cy.1 (by rw[hE];exact ak cy)
 refine aT [103] O O O O false (.eq (I a8)) trivial (λw X=>?_) ?_
 intro hR da
 exact(al O da A2 O).bC
 refine bN 1 O ?_
 obtain⟨dd,f⟩:=ck f
 obtain⟨ad,hF,f⟩:=bv f
 refine aT [105] O O O O false (.rel (λw' v'=>At w' v' (eI .i64) ad 0)) aI (λw X=>?_) ?_
 skip
 exact have H:=H.ext X;fh dp Z2 O O (u.at H.zin) (λ_=>rfl) ad dd.1 (by rw[hF];exact ak dd)
 refine aT [106] O O O O false (.eq (I ad)) trivial (λw X=>?_) ?_
 intro hT dj
 exact(al O dj A2 O).bC
 refine fC f O (λhG f84 w X=>dC call157 (rU f84 :)) λhG f=>?_
 refine bN 1 O ?_
 refine fE [0,6,7,9] O4 H λa w X H h=>?_
 refine sq<|rg λK k=>ae 1 h O λa h=>sB h f O (aH O O) λqc ql f a h=>ae 1 h O λa h=>ai h O O (gF O) O O (λg=>an O) λa h=>?_
 obtain⟨qm,hI,f⟩:=bv f
 refine ai h O O (gF O) O O (λg=>vB hI (aD (eg g O) O)) λa h=>?_
 refine sB h f O (ca O O) λqs r4 f a h=>cN k h [6,7,9,114] O4 λh=>?_
 refine cI h f O (λdn f=>?_) λdn f=>?_
 refine rg λK k=>ae 1 h O λa h=>sC h H f O (λhJ f90=>dC call151 (eP f90 :)) λhJ f w X H a h=>?_
 refine zS h H 0 aq O3 O3 [_] λw H=>?_
 refine cN k h [6] [_] λh=>?_
 cases f
 refine r1 G h O (aO H 0 aQ aq O3) ⟨O,H.out⟩
 refine ag<|rg λK k=>ae 1 h O λa h=>?_
 obtain⟨dv,f⟩:=ck f
 obtain⟨hK,hL,f⟩:=bv f
 refine bB h dp Z2 O O (u.at H.zin) (λ_=>rfl) hK dv.1 (by rw[hL];exact ak dv) rfl λa hU dz h=>?_
 refine s1 h O (al O dz A2 O) λa h=>ae 1 h O λa h=>?_
 obtain⟨hN,f⟩:=ck f
 refine sI h f O (cm O O hN) λr5 r6 f a h=>ae 1 h O λa h=>cN k h [6,7,10] O3 λh=>?_
 refine sq<|rg λK k=>ae 1 h O λa h=>?_
 obtain⟨e1,f⟩:=ck f
 obtain⟨hP,hQ,f⟩:=bv f
 refine bB h dp Z2 O O (u.at H.zin) (λ_=>rfl) hP e1.1 (by rw[hQ];exact ak e1) rfl λa hV e2 h=>?_
 refine s1 h O (al O e2 A2 O) λa h=>sB h f O (fN O O) λra rb f a h=>ae 1 h O λa h=>ai h O O (gT O) O O (λg=>an O) λa h=>?_
 refine ai h O O (gT O) O O (λg=>an O) λa h=>?_
 obtain⟨e3,f⟩:=ck f
 obtain⟨e4,e5,f⟩:=bv f
 refine fv h O (gT O) dp Z2 (λg=>(eg g O)) (λg=>rfl) (u.at H.zin) (λ_=>rfl) e4 (λg=>(e3 g).1) (λg=>(by rw[e5];exact ak (e3 g))) rfl λa hW e6 h=>?_
 refine ai h O O (gT O) O O (λg=>al (eg g O) (e6 g) A2 O) λa h=>?_
 obtain⟨e8,f⟩:=ck f
 obtain⟨hX,e9,f⟩:=bv f
 refine ai h O O (gT O) O O (λg=>vI e9 (cm O (eg g O) (e8 g))) λa h=>?_
 obtain⟨hY,ea,f⟩:=bv f
 refine ai h O O (gT O) O O (λg=>vB ea (dS (eg g O) (eg g O))) λa h=>?_
 refine sB h f O (bK O O) λhZ ih f a h=>cN k h [6,7,10,133] O4 λh=>?_
 refine cI h f O (λaf f=>?_) λaf f=>?_
 refine rg λK k=>sC h H f O (λeb f106=>dC call18 (az f106 :)) λeb f w X H a h=>?_
 refine zS h H 0 aq O3 O3 [_] λw H=>?_
 refine cN k h [6] [_] λh=>?_
 cases f
 refine r1 G h O (aO H 0 aQ aq O3) ⟨O,H.out⟩
 refine ag<|rg λK k=>ae 2 h O λa h=>?_
 obtain⟨a1,f⟩:=ck f
 obtain⟨ec,ed,f⟩:=bv f
 refine bB h dp Z2 O O (u.at H.zin) (λ_=>rfl) ec a1.1 (by rw[ed];exact ak a1) rfl λa jo W h=>?_
 refine s1 h O (al O W A2 O) λa h=>sI h f O (dB O O) λk1 k2 f a h=>sC h H f O (λef f110=>dC call151 (eP f110 :)) λef f w X H a h=>?_
 have W:=At.ext W X
 refine zS h H 0 aq O3 O3 [_] λw H=>?_
 refine cN k h [6] [_] λh=>?_
 cases f
 refine r1 G h O (aO H 0 aQ aq O3) ⟨O,H.out⟩
 refine ag<|rg λK k=>sC h H f O (λei f111=>dC call18 (az f111 :)) λei f w X H a h=>?_
 refine zS h H 0 aq O3 O3 [_] λw H=>?_
 refine cN k h [6] [_] λh=>?_
 cases f
 refine r1 G h O (aO H 0 aQ aq O3) ⟨O,H.out⟩
 refine rg λK k=>sB h f O (aH O O) λk4 k5 f a h=>ae 1 h O λa h=>cN k h [0,6,7,15,88] O5 λh=>?_
 refine cI h f O (λao f=>?_) λao f=>?_
 exact ag (bp ⟨f,h.to,H,u⟩)
 refine ah<|sB h f O (aH O O) λk6 k7 f a h=>ae 1 h O λa h=>am ?_
 exact bp ⟨f,h.to,H,u⟩
theorem kZ{x0:List UInt8}{x1 x2:Int}{F:(List UInt8)}{w0:World}(f:fJ x0 x1 x2=some F):Calls prog 161 [S x0,.int .u8 x1,.int .u8 x2].toArray w0 (bj λv w=>v=S F/\Ext w0 w):=by
 refine en func161 [0,1,2] O3 λQ a Zi Z ao H h hr=>?_
 clear ao
 unfold fJ at f
 refine rg λK k=>ae 1 h O λa h=>cz k<|rg λK k=>ae 1 h O λa h=>xe h H U9 rM U5 O O λa Y E a1 w X b0 H h=>?_
 obtain⟨z2,e2,f⟩:=bv f
 rw[<-e2]at H
 have H:HZ w0 _ _ [_] _:=H
 have g:z2.length=x0.length:=by rw[e2];simp[zc]
 refine ae 1 h O λa h=>cN k h [1,2,7] O3 λh=>?_
 obtain⟨J4,b1,f⟩:=bv f
 refine dA (λa w=>∃(Z:FZ) (s4:(List Int)),J4 s4=some F/\Fr 39 [(7,.slice (some ⟨Y,0,none⟩) x0.length E)] a/\HZ w0 Zi Z [.blk Y (qB s4 a1 5 x0.length)] w/\s4.length=x0.length) ?_ ?_
 rintro a w ⟨Z,s4,f,h,H,g⟩
 subst b1
 refine rg λK k=>ae 1 h O λa h=>?_
 obtain⟨c5,f⟩:=ck f
 refine sS h f O (tY rM U5 U9 O (Reads.of_B (H.hp.get 0 O) g) c5) λz6 e6 f a h=>ae 1 h O λa h=>cz k ?_
 cases f
 refine r1 hr h O O ⟨O,H.out⟩
 refine rg λK k=>ae 1 h O λa h=>s1 h O (bY rM O (Reads.of_B (H.hp.get 0 O) g)) λa h=>ae 1 h O λa h=>cz k<|lb ?_
 obtain⟨B8,b2,f⟩:=bv f
 refine ib (λJ a w=>∃(Z:FZ) (s8:Int × (List Int)),loopF B8 J s8=some F/\Fr 39 [(1,.int .u8 x1),(2,.int .u8 x2),(7,.slice (some ⟨Y,0,none⟩) x0.length E),(12,.slice (some ⟨Y,0,none⟩) x0.length E),(13,I (z2.length:Int)),(14,I s8.1)] a/\HZ w0 Zi Z [.blk Y (qB s8.2 a1 5 x0.length)] w/\s8.2.length=x0.length) KK ⟨_,_,f,h.to,H,g⟩ ?_
 rintro J a w ⟨Z,s8,f,h,H,g⟩
 obtain⟨J,rfl,n8,a6,f⟩:=iJ b2 f
 refine rg λK k=>sB h f O (bn O O) λb5 b6 f a h=>cz k<|sq<|cI h f O (λa7 f=>?_) λa7 f=>?_
 refine ag<|sb ?_
 refine rg λK k=>ae 1 h O λa h=>?_
 obtain⟨a8,f⟩:=ck f
 refine s1 h O (lO (sz:=1) rM Z5 O O g a8) λa h=>sI h f O (AE O isAgg5 (H.hp.get 0 O) a8) λb7 bb f a h=>ae 2 h O λa h=>cN k h [1,2,7,8,9,12,13,14] O8 λh=>?_
 refine rg λK k=>ae 2 h O λa h=>sB h f O (gI O O) λbk bq f a h=>ae 1 h O λa h=>ai h O O (gT O) O O (λW=>an O) λa h=>?_
 refine ai h O O (gT O) O O (λW=>an O) λa h=>?_
 obtain⟨bs,b3,f⟩:=bv f
 refine ai h O O (gT O) O O (λW=>vI b3 (aw (eg W O) O)) λa h=>?_
 obtain⟨c6,b4,f⟩:=bv f
 refine ai h O O (gT O) O O (λW=>vB b4 (jX (eg W O) (eg W O))) λa h=>?_
 refine sB h f O (bK O O) λc7 c8 f a h=>cN k h [1,2,7,8,9,12,13,14,27] O9 λh=>?_
 refine cI h f O (λad f=>?_) λad f=>?_
 refine ah<|ae 4 h O λa h=>sI h f O (bf O O) λcc ch f a h=>ae 1 h O λa h=>sI h f O (aw O O) λcp ct f a h=>?_
 obtain⟨af,f⟩:=ck f
 refine s1 h O (lO (sz:=1) rM Z5 O O g af) λa h=>?_
 obtain⟨G,u,f⟩:=bv f
 refine yn (i:=0) h H 0 O O O Z5 g af (hl':=[_]) O λw H=>?_
 rw[<-u]at H
 have g:G.length=x0.length:=by rw[u,List.length_set];exact g
 refine am<|cO h [1,2,7,12,13,14] O6 λh=>?_
 refine ah<|sI h f O (aw O O) λcx cy f a h=>ae 1 h O λa h=>am ?_
 exact fK (bp ⟨fq a6 f,h.to,H,g⟩)
 refine ag<|ah<|sI h f O (aw O O) λda dd f a h=>ae 1 h O λa h=>am ?_
 exact fK (bp ⟨fq a6 f,h.to,H,g⟩)
 exact aR (bp ⟨f,h.to,H,g⟩)
theorem sr{x0 x1:List UInt8}{g:V}{w0:World}(f:kp x0 x1=some g):Calls prog 123 [S x0,S x1].toArray w0 (bj λv w=>v=.agg #[I g.k,I g.n,S g.s]/\Ext w0 w):=by
 refine en func123 [0,1] O2 λQ a Zi Z W H h u=>?_
 clear W
 unfold kp at f
 refine rg λK k=>zA h H eX O3 (λx=>[x]) λa p1 w X H h=>?_
 refine cz k<|sq<|rg λK k=>ae 1 h O λa h=>cz k<|lb<|rg λK k=>sB h f O (aH O O) λz4 e4 f a h=>ae 1 h O λa h=>cz k<|cI h f O (λY f=>?_) λY f=>?_
 refine rg λK k=>ae 1 h O λa h=>sC h H f O (λy6 f6=>dC call160 (pK f6 :)) λy6 f w X H a h=>?_
 refine sC h H f O (λy7 f7=>dC call159 (fu f7 :)) λy7 f w X H a h=>?_
 refine ae 2 h O λa h=>sC h H f O (λy8 f8=>dC call70 (bc f8 :)) λy8 f w X H a h=>?_
 refine zS h H 0 aq O3 O3 [_] λw H=>?_
 refine cN k h [4] [_] λh=>?_
 cases f
 refine r1 u h O (aO H 0 aQ aq O3) ⟨O,H.out⟩
 refine rg λK k=>sB h f O (aH O O) λz9 e9 f a h=>ae 1 h O λa h=>cN k h [1,4,5,14] O4 λh=>?_
 refine cI h f O (λE f=>?_) λE f=>?_
 refine rg λK k=>ae 1 h O λa h=>sC h H f O (λa1 f11=>dC call161 (kZ f11 :)) λa1 f w X H a h=>?_
 refine sC h H f O (λa6 f12=>dC call16 (bI f12 :)) λa6 f w X H a h=>?_
 refine zS h H 0 aq O3 O3 [_] λw H=>?_
 refine cN k h [4] [_] λh=>?_
 cases f
 refine r1 u h O (aO H 0 aQ aq O3) ⟨O,H.out⟩
 refine rg λK k=>sB h f O (aH O O) λb1 b2 f a h=>ae 1 h O λa h=>cz k<|cI h f O (λF f=>?_) λF f=>?_
 refine rg λK k=>ae 1 h O λa h=>sC h H f O (λa7 f15=>dC call161 (kZ f15 :)) λa7 f w X H a h=>?_
 refine sC h H f O (λa8 f16=>dC call16 (bI f16 :)) λa8 f w X H a h=>?_
 refine zS h H 0 aq O3 O3 [_] λw H=>?_
 refine cN k h [4] [_] λh=>?_
 cases f
 refine r1 u h O (aO H 0 aQ aq O3) ⟨O,H.out⟩
 refine rg λK k=>sB h f O (aH O O) λb3 b4 f a h=>ae 1 h O λa h=>cN k h [1,4,5,24] O4 λh=>?_
 refine cI h f O (λG f=>?_) λG f=>?_
 refine rg λK k=>ae 1 h O λa h=>sC h H f O (λad f19=>dC call162 (nY f19 :)) λad f w X H a h=>?_
 refine sC h H f O (λaf f20=>dC call16 (bI f20 :)) λaf f w X H a h=>?_
 refine zS h H 0 aq O3 O3 [_] λw H=>?_
 refine cN k h [4] [_] λh=>?_
 cases f
 refine r1 u h O (aO H 0 aQ aq O3) ⟨O,H.out⟩
 refine rg λK k=>sB h f O (aH O O) λb5 b6 f a h=>ae 1 h O λa h=>cz k<|cI h f O (λJ f=>?_) λJ f=>?_
 refine rg λK k=>ae 1 h O λa h=>s1 h O (aS my O2 O3 O O) λa h=>sC h H f O (λao f23=>dC call69 (dD f23 :)) λao f w X H a h=>?_
 refine zS h H 0 aq O3 O3 [_] λw H=>?_
 refine cN k h [4] [_] λh=>?_
 cases f
 refine r1 u h O (aO H 0 aQ aq O3) ⟨O,H.out⟩
 refine ag<|cO h [4] [_] λh=>?_
 refine rg λK k=>sC h H f O (λb0 f24=>dC call18 (az f24 :)) λb0 f w X H a h=>?_
 refine zS h H 0 aq O3 O3 [_] λw H=>?_
 refine cz k ?_
 cases f
 refine r1 u h O (aO H 0 aQ aq O3) ⟨O,H.out⟩
theorem qS{x0 x1:List UInt8}{x2:List (Int)}{u:V}{w0:World}(f:jn x0 x1 x2=some u){G:Value}(g:bx (hz w0) G 1 (eI .i64) x2):Calls prog 125 [S x0,S x1,G].toArray w0 (bj λv w=>v=.agg #[I u.k,I u.n,S u.s]/\Ext w0 w):=by
 refine en func125 [0,1,2] O3 λQ a Zi Z J H h E=>?_
 have g:=g.sub J
 clear J
 unfold jn at f
 refine rg λK k=>zA h H eX O3 (λx=>[x]) λa p1 w X H h=>?_
 refine cz k<|sq<|rg λK k=>ae 1 h O λa h=>s1 h O (bY dp O (g.at H.zin)) λa h=>sB h f O (aD O O) λz3 e3 f a h=>cz k<|cI h f O (λb0 f=>?_) λb0 f=>?_
 refine rg λK k=>sC h H f O (λy5 f5=>dC call18 (az f5 :)) λy5 f w X H a h=>?_
 refine zS h H 0 aq O3 O3 [_] λw H=>?_
 refine cN k h [6] [_] λh=>?_
 cases f
 refine r1 E h O (aO H 0 aQ aq O3) ⟨O,H.out⟩
 refine ag<|rg λK k=>ae 2 h O λa h=>s1 h O (bY dp O (g.at H.zin)) λa h=>sI h f O (bf O O) λz6 e6 f a h=>?_
 obtain⟨c7,f⟩:=ck f
 obtain⟨z8,e8,f⟩:=bv f
 refine bB h dp Z2 O O (g.at H.zin) (λ_=>rfl) z8 c7.1 (by rw[e8];exact ak c7) rfl λa dj F h=>?_
 refine s1 h O (al O F A2 O) λa h=>ae 1 h O λa h=>sC h H f O (λy9 f9=>dC call164 (pW f9 :)) λy9 f w X H a h=>?_
 have F:=At.ext F X
 refine ae 5 h O λa h=>cN k h [0,1,2,6,7,8] O6 λh=>?_
 refine sq<|rg λK k=>ae 1 h O λa h=>sB h f O (dI O) λdn dv f a h=>cz k<|cI h f O (λW f=>?_) λW f=>?_
 refine rg λK k=>sC h H f O (λb1 f13=>dC call18 (az f13 :)) λb1 f w X H a h=>?_
 refine zS h H 0 aq O3 O3 [_] λw H=>?_
 refine cN k h [6] [_] λh=>?_
 cases f
 refine r1 E h O (aO H 0 aQ aq O3) ⟨O,H.out⟩
 refine ag<|sq<|rg λK k=>ae 1 h O λa h=>cN k h [1,2,6,7,30] O5 λh=>?_
 refine lb<|rg λK k=>sB h f O (aH O O) λdz e1 f a h=>ae 1 h O λa h=>cz k<|cI h f O (λY f=>?_) λY f=>?_
 refine rg λK k=>ae 2 h O λa h=>?_
 obtain⟨b2,f⟩:=ck f
 refine sS h f O (lm U9 O O b2) λe2 e4 f a h=>sC h H f O (λb3 f20=>dC call16 (bI f20 :)) λb3 f w X H a h=>?_
 refine zS h H 0 aq O3 O3 [_] λw H=>?_
 refine cN k h [6] [_] λh=>?_
 cases f
 refine r1 E h O (aO H 0 aQ aq O3) ⟨O,H.out⟩
 refine rg λK k=>sB h f O (aH O O) λe5 e7 f a h=>ae 1 h O λa h=>cz k<|cI h f O (λa1 f=>?_) λa1 f=>?_
 refine rg λK k=>ae 2 h O λa h=>s1 h O (dE U9 O) λa h=>ae 1 h O λa h=>sI h f O (bf O O) λe9 ea f a h=>?_
 obtain⟨b4,f⟩:=ck f
 refine sS h f O (pG U9 O O b4) λeb ec f a h=>sC h H f O (λb5 f26=>dC call16 (bI f26 :)) λb5 f w X H a h=>?_
 refine zS h H 0 aq O3 O3 [_] λw H=>?_
 refine cN k h [6] [_] λh=>?_
 cases f
 refine r1 E h O (aO H 0 aQ aq O3) ⟨O,H.out⟩
 refine rg λK k=>sB h f O (aH O O) λed ef f a h=>ae 1 h O λa h=>cN k h [1,2,6,7,30,46] O6 λh=>?_
 refine cI h f O (λa6 f=>?_) λa6 f=>?_
 refine rg λK k=>ae 1 h O λa h=>?_
 obtain⟨a7,f⟩:=ck f
 obtain⟨b6,b7,f⟩:=bv f
 refine bB h dp Z2 O O (g.at H.zin) (λ_=>rfl) b6 a7.1 (by rw[b7];exact ak a7) rfl λa ei bb h=>?_
 refine s1 h O (al O bb A2 O) λa h=>sI h f O (cm O O (by decide)) λej el f a h=>ae 1 h rfl λa h=>cN k h [1,6,7,9] O4 λh=>?_
 refine sq<|rg λK k=>ae 1 h O λa h=>sB h f O (bn O O) λeo ep f a h=>cz k<|cI h f O (λa8 f=>?_) λa8 f=>?_
 refine rg λK k=>sC h H f O (λbk f35=>dC call18 (az f35 :)) λbk f w X H a h=>?_
 refine zS h H 0 aq O3 O3 [_] λw H=>?_
 refine cN k h [6] [_] λh=>?_
 cases f
 refine r1 E h O (aO H 0 aQ aq O3) ⟨O,H.out⟩
 refine ag<|rg λK k=>ae 1 h O λa h=>sI h f O (bf O O) λer et f a h=>ae 1 h O λa h=>s1 h O (dE U9 O) λa h=>sI h f O (pT U2 O O) λeu ew f a h=>ae 1 h O λa h=>cN k h [1,6,7,10] O4 λh=>?_
 refine rg λK k=>ae 4 h O λa h=>sI h f O (aw O O) λey ez f a h=>ae 1 h O λa h=>s1 h O (dE U9 O) λa h=>sI h f O (pT U3 O O) λeF eJ f a h=>?_
 obtain⟨bq,f⟩:=ck f
 refine sS h f O (u_ U9 O O O bq) λeZ ff f a h=>sC h H f O (λbs f42=>dC call16 (bI f42 :)) λbs f w X H a h=>?_
 refine zS h H 0 aq O3 O3 [_] λw H=>?_
 refine cN k h [6] [_] λh=>?_
 cases f
 refine r1 E h O (aO H 0 aQ aq O3) ⟨O,H.out⟩
 refine rg λK k=>sB h f O (aH O O) λfs gb f a h=>ae 1 h O λa h=>cN k h [1,2,6,70] O4 λh=>?_
 refine cI h f O (λad f=>?_) λad f=>?_
 refine rg λK k=>ae 1 h O λa h=>?_
 obtain⟨af,f⟩:=ck f
 obtain⟨c6,c8,f⟩:=bv f
 refine bB h dp Z2 O O (g.at H.zin) (λ_=>rfl) c6 af.1 (by rw[c8];exact ak af) rfl λa gf cc h=>?_
 refine s1 h O (al O cc A2 O) λa h=>sI h f O (cm O O (by decide)) λgg gl f a h=>ae 1 h rfl λa h=>cN k h [1,6,11] O3 λh=>?_
 refine sq<|rg λK k=>ae 1 h O λa h=>sB h f O (dS O O) λgm h0 f a h=>ae 1 h O λa h=>ai h O O (gT O) O O (λe0=>an O) λa h=>?_
 obtain⟨h2,ch,f⟩:=bv f
 refine ai h O O (gT O) O O (λe0=>vB ch (oF (eg e0 O) O)) λa h=>?_
 refine sB h f O (bK O O) λh3 h4 f a h=>cN k h [1,6,11,81] O4 λh=>?_
 refine cI h f O (λao f=>?_) λao f=>?_
 refine rg λK k=>sC h H f O (λcp f53=>dC call18 (az f53 :)) λcp f w X H a h=>?_
 refine zS h H 0 aq O3 O3 [_] λw H=>?_
 refine cN k h [6] [_] λh=>?_
 cases f
 refine r1 E h O (aO H 0 aQ aq O3) ⟨O,H.out⟩
 refine ag<|rg λK k=>ae 2 h O λa h=>sI h f O (pT U2 O O) λh5 h6 f a h=>?_
 obtain⟨ct,f⟩:=ck f
 obtain⟨cx,cy,f⟩:=bv f
 refine d_ (T:=Ext) (V:=S cx) h O O O ((by rw[cy];exact dC call165 (uR ct))) λw X a h=>?_
 have H:=H.ext X
 refine sC h H f O (λda f58=>dC call16 (bI f58 :)) λda f w X H a h=>?_
 refine zS h H 0 aq O3 O3 [_] λw H=>?_
 refine cN k h [6] [_] λh=>?_
 cases f
 refine r1 E h O (aO H 0 aQ aq O3) ⟨O,H.out⟩
 refine ag<|rg λK k=>sC h H f O (λdd f59=>dC call18 (az f59 :)) λdd f w X H a h=>?_
 refine zS h H 0 aq O3 O3 [_] λw H=>?_
 refine cN k h [6] [_] λh=>?_
 cases f
 refine r1 E h O (aO H 0 aQ aq O3) ⟨O,H.out⟩
theorem qP{x0:List UInt8}{x1:List (List UInt8)}{F:V}{w0:World}(f:jz x0 x1=some F){af:Value}(g:bx (hz w0) af 1 eS x1) (hG:GW w0):Calls prog 124 [S x0,af].toArray w0 (bj λv w=>v=.agg #[I F.k,I F.n,S F.s]/\Ext w0 w):=by
 refine en func124 [0,1] O2 λQ a Zi Z ao H h G=>?_
 have g:=g.sub ao
 clear ao
 unfold jz at f
 refine rg λK k=>zA h H eX O3 (λx=>[x]) λa p1 w X H h=>?_
 refine cz k<|sb ?_
 refine rg λK k=>ae 1 h O λa h=>sB h f O (aH O O) λz3 e3 f a h=>ae 1 h O λa h=>cz k<|cI h f O (λcc f=>?_) λcc f=>?_
 refine rg λK k=>ae 1 h O λa h=>?_
 obtain⟨c6,f⟩:=ck f
 obtain⟨z7,e7,f⟩:=bv f
 refine d_ (T:=Ext) (V:=S z7) h O O O ((by rw[e7];exact dC call64 (ui c6 (g.hz H.zin)))) λw X a h=>?_
 have H:=H.ext X
 refine sC h H f O (λy8 f8=>dC call16 (bI f8 :)) λy8 f w X H a h=>?_
 refine zS h H 0 aq O3 O3 [_] λw H=>?_
 refine cN k h [4] [_] λh=>?_
 cases f
 refine r1 G h O (aO H 0 aQ aq O3) ⟨O,H.out⟩
 refine rg λK k=>ae 1 h O λa h=>sB h f O (aH O O) λz9 e9 f a h=>ae 1 h O λa h=>ai h O O (gT O) O O (λu=>an O) λa h=>?_
 refine ai h O O (gT O) O O (λu=>bY lg (eg u O) (g.at H.zin)) λa h=>?_
 obtain⟨eZ,ch,f⟩:=bv f
 refine ai h O O (gT O) O O (λu=>vB ch (aD (eg u O) O)) λa h=>?_
 refine sB h f O (bK O O) λff fs f a h=>ae 1 h O λa h=>cN k h [0,1,4,12] O4 λh=>?_
 refine cI h f O (λb0 f=>?_) λb0 f=>?_
 refine nV 8 h λK k=>?_
 refine bN 1 O ?_
 obtain⟨b1,f⟩:=ck f
 obtain⟨J,cp,f⟩:=bv f
 refine aT [20] O O O O false (.rel (λw' E=>At w' E eS J 0)) aI (λw X=>?_) ?_
 skip
 exact have H:=H.ext X;fh lg Z9 O O (g.at H.zin) (λ_=>rfl) J b1.1 (by rw[cp];exact ak b1)
 refine aT [21] O O O O false (.eq (S J)) trivial (λw X=>?_) ?_
 intro gb ct
 exact(al O ct A9 O).bC
 refine bN 1 O ?_
 obtain⟨b2,f⟩:=ck f
 obtain⟨W,cx,f⟩:=bv f
 refine aT [23] O O O O false (.rel (λw' E=>At w' E eS W 0)) aI (λw X=>?_) ?_
 skip
 exact have H:=H.ext X;fh lg Z9 O O (g.at H.zin) (λ_=>rfl) W b2.1 (by rw[cx];exact ak b2)
 refine aT [24] O O O O false (.eq (S W)) trivial (λw X=>?_) ?_
 intro gf cy
 exact(al O cy A9 O).bC
 refine fB f O (λw X=>aH O O) λgg gl f=>?_
 refine fC f O (λda f18 w X=>dC call17 (bh f18 :)) λda f=>?_
 refine fE [4,27] O2 H λa w X H h=>?_
 refine zS h H 0 aq O3 O3 [_] λw H=>?_
 refine cz k ?_
 cases f
 refine r1 G h O (aO H 0 aQ aq O3) ⟨O,H.out⟩
 refine rg λK k=>ae 1 h O λa h=>sB h f O (aH O O) λgm h0 f a h=>ae 1 h O λa h=>ai h O O (gT O) O O (λu=>an O) λa h=>?_
 refine ai h O O (gT O) O O (λu=>bY lg (eg u O) (g.at H.zin)) λa h=>?_
 obtain⟨h2,dd,f⟩:=bv f
 refine ai h O O (gT O) O O (λu=>vB dd (aD (eg u O) O)) λa h=>?_
 refine sB h f O (bK O O) λh3 h4 f a h=>ae 1 h O λa h=>cN k h [0,1,4,28] O4 λh=>?_
 refine cI h f O (λb3 f=>?_) λb3 f=>?_
 refine fl h ?_
 refine bN 1 O ?_
 obtain⟨b4,f⟩:=ck f
 obtain⟨Y,dj,f⟩:=bv f
 refine aT [36] O O O O false (.rel (λw' E=>At w' E eS Y 0)) aI (λw X=>?_) ?_
 skip
 exact have H:=H.ext X;fh lg Z9 O O (g.at H.zin) (λ_=>rfl) Y b4.1 (by rw[dj];exact ak b4)
 refine aT [37] O O O O false (.eq (S Y)) trivial (λw X=>?_) ?_
 intro h5 dn
 exact(al O dn A9 O).bC
 refine bN 1 O ?_
 obtain⟨b5,f⟩:=ck f
 obtain⟨a1,dv,f⟩:=bv f
 refine aT [39] O O O O false (.rel (λw' E=>At w' E eS a1 0)) aI (λw X=>?_) ?_
 skip
 exact have H:=H.ext X;fh lg Z9 O O (g.at H.zin) (λ_=>rfl) a1 b5.1 (by rw[dv];exact ak b5)
 refine aT [40] O O O O false (.eq (S a1)) trivial (λw X=>?_) ?_
 intro h6 dz
 exact(al O dz A9 O).bC
 obtain⟨e1,f⟩:=ck f
 obtain⟨e2,e4,f⟩:=bv f
 refine f2 (V:=I e2) [38,41] O O O O (λw X=>have H:=H.ext X;(by rw[e4];exact dC call163 (xl e1 (hG.ext H.out)))) ?_
 refine bN 1 O ?_
 refine fE [4,5] O2 H λa w X H h=>?_
 refine sq<|rg λK k=>ae 1 h O λa h=>sB h f O (bn O O) λh7 h8 f a h=>cz k<|cI h f O (λb6 f=>?_) λb6 f=>?_
 refine rg λK k=>sC h H f O (λe5 f33=>dC call18 (az f33 :)) λe5 f w X H a h=>?_
 refine zS h H 0 aq O3 O3 [_] λw H=>?_
 refine cN k h [4] [_] λh=>?_
 cases f
 refine r1 G h O (aO H 0 aQ aq O3) ⟨O,H.out⟩
 refine ag<|rg λK k=>ae 1 h O λa h=>sI h f O (aw O O) λh9 ha f a h=>sC h H f O (λe6 f35=>dC call159 (fu f35 :)) λe6 f w X H a h=>?_
 refine ae 2 h O λa h=>sC h H f O (λe8 f36=>dC call70 (bc f36 :)) λe8 f w X H a h=>?_
 refine zS h H 0 aq O3 O3 [_] λw H=>?_
 refine cN k h [4] [_] λh=>?_
 cases f
 refine r1 G h O (aO H 0 aQ aq O3) ⟨O,H.out⟩
 refine rg λK k=>ae 1 h O λa h=>sB h f O (aH O O) λhb hc f a h=>ae 1 h O λa h=>ai h O O (gT O) O O (λu=>an O) λa h=>?_
 refine ai h O O (gT O) O O (λu=>bY lg (eg u O) (g.at H.zin)) λa h=>?_
 obtain⟨hf,ea,f⟩:=bv f
 refine ai h O O (gT O) O O (λu=>vB ea (aD (eg u O) O)) λa h=>?_
 refine sB h f O (bK O O) λhg hj f a h=>ae 1 h O λa h=>cN k h [1,4,52] O3 λh=>?_
 refine cI h f O (λb7 f=>?_) λb7 f=>?_
 refine sq<|rg λK k=>ae 1 h O λa h=>?_
 obtain⟨bb,f⟩:=ck f
 obtain⟨eb,ec,f⟩:=bv f
 refine bB h lg Z9 O O (g.at H.zin) (λ_=>rfl) eb bb.1 (by rw[ec];exact ak bb) rfl λa hn ed h=>?_
 refine s1 h O (al O ed A9 O) λa h=>sB h f O (aH O O) λho hq f a h=>cN k h [1,4,63] O3 λh=>?_
 refine cI h f O (λbk f=>?_) λbk f=>?_
 refine rg λK k=>ae 1 h O λa h=>?_
 obtain⟨bq,f⟩:=ck f
 obtain⟨ef,ei,f⟩:=bv f
 refine bB h lg Z9 O O (g.at H.zin) (λ_=>rfl) ef bq.1 (by rw[ei];exact ak bq) rfl λa ht a6 h=>?_
 refine s1 h O (al O a6 A9 O) λa h=>sC h H f O (λej f48=>dC call16 (bI f48 :)) λej f w X H a h=>?_
 have a6:=At.ext a6 X
 refine zS h H 0 aq O3 O3 [_] λw H=>?_
 refine cN k h [4] [_] λh=>?_
 cases f
 refine r1 G h O (aO H 0 aQ aq O3) ⟨O,H.out⟩
 refine ag<|nV 11 h λK k=>?_
 refine bN 1 O ?_
 obtain⟨bs,f⟩:=ck f
 obtain⟨a7,el,f⟩:=bv f
 refine aT [68] O O O O false (.rel (λw' E=>At w' E eS a7 0)) aI (λw X=>?_) ?_
 skip
 exact have H:=H.ext X;fh lg Z9 O O (g.at H.zin) (λ_=>rfl) a7 bs.1 (by rw[el];exact ak bs)
 refine aT [69] O O O O false (.eq (S a7)) trivial (λw X=>?_) ?_
 intro hv eo
 exact(al O eo A9 O).bC
 refine bN 1 O ?_
 obtain⟨c7,f⟩:=ck f
 obtain⟨a8,ep,f⟩:=bv f
 refine aT [71] O O O O false (.rel (λw' E=>At w' E eS a8 0)) aI (λw X=>?_) ?_
 skip
 exact have H:=H.ext X;fh lg Z9 O O (g.at H.zin) (λ_=>rfl) a8 c7.1 (by rw[ep];exact ak c7)
 refine aT [72] O O O O false (.eq (S a8)) trivial (λw X=>?_) ?_
 intro hx er
 exact(al O er A9 O).bC
 refine bN 1 O ?_
 obtain⟨c8,f⟩:=ck f
 obtain⟨ad,et,f⟩:=bv f
 refine aT [74] O O O O false (.rel (λw' E=>At w' E eS ad 0)) aI (λw X=>?_) ?_
 skip
 exact have H:=H.ext X;fh lg Z9 O O (g.at H.zin) (λ_=>rfl) ad c8.1 (by rw[et];exact ak c8)
 refine aT [75] O O O O false (.eq (S ad)) trivial (λw X=>?_) ?_
 intro hy eu
 exact(al O eu A9 O).bC
 obtain⟨ew,f⟩:=ck f
 obtain⟨ey,ez,f⟩:=bv f
 refine f2 (V:=S ey) [70,73,76] O O O O (λw X=>have H:=H.ext X;(by rw[ez];exact dC call102 (lk ew (hG.ext H.out)))) ?_
 refine fC f O (λeF f58 w X=>dC call16 (bI f58 :)) λeF f=>?_
 refine fE [4,78] O2 H λa w X H h=>?_
 refine zS h H 0 aq O3 O3 [_] λw H=>?_
 refine cz k ?_
 cases f
 refine r1 G h O (aO H 0 aQ aq O3) ⟨O,H.out⟩
 refine ag<|rg λK k=>sC h H f O (λeJ f59=>dC call18 (az f59 :)) λeJ f w X H a h=>?_
 refine zS h H 0 aq O3 O3 [_] λw H=>?_
 refine cz k ?_
 cases f
 refine r1 G h O (aO H 0 aQ aq O3) ⟨O,H.out⟩
theorem ma{x0 x1:List (V)}{G:V}{w0:World}(f:dX x0 x1=some G){a7:Value}(u:bx (hz w0) a7 3 vL x0){a8:Value}(E:bx (hz w0) a8 3 vL x1):Calls prog 174 [a7,a8].toArray w0 (bj λv w=>v=.agg #[I G.k,I G.n,S G.s]/\Ext w0 w):=by
 refine en func174 [0,1] O2 λQ a Zi Z ao H h hr=>?_
 have u:=u.sub ao
 have E:=E.sub ao
 clear ao
 unfold dX at f
 refine rg λK k=>zA h H eX O3 (λx=>[x]) λa p1 w X H h=>?_
 refine cz k<|sq<|rg λK k=>ae 1 h O λa h=>s1 h O (bY kU O (u.at H.zin)) λa h=>ae 1 h O λa h=>s1 h O (bY kU O (E.at H.zin)) λa h=>sB h f O (fN O O) λz3 e3 f a h=>cN k h [0,1,4,12] O4 λh=>?_
 refine cI h f O (λc6 f=>?_) λc6 f=>?_
 refine rg λK k=>sC h H f O (λy5 f5=>dC call18 (az f5 :)) λy5 f w X H a h=>?_
 refine zS h H 0 aq O3 O3 [_] λw H=>?_
 refine cN k h [4] [_] λh=>?_
 cases f
 refine r1 hr h O (aO H 0 aQ aq O3) ⟨O,H.out⟩
 refine ag<|rg λK k=>sC h H f O (λy6 f6=>dC call14 (bH f6 :)) λy6 f w X H a h=>?_
 refine zA h H eX O3 (λx=>[_,x]) λa p7 w X H h=>?_
 refine zS h H 1 aq O3 O3 O2 λw H=>?_
 refine cz k ?_
 obtain⟨J9,c7,f⟩:=bv f
 refine dA (λa w=>∃(Z:FZ) (s9:Int × Int × (List UInt8) × Int × Int × (List UInt8)),J9 s9=some G/\Fr 67 [(4,(pt p1)),(5,(pt p7))] a/\HZ w0 Zi Z [.blk p1 (aB [I s9.1,I s9.2.1,S s9.2.2.1] 27),.blk p7 (aB [I s9.2.2.2.1,I s9.2.2.2.2.1,S s9.2.2.2.2.2] 27)] w) ?_ ?_
 rintro a w ⟨Z,s9,f,h,H⟩
 subst c7
 refine rg λK k=>s1 h O (lA H 1 aQ aq O3) λa h=>zS h H 0 aq O3 O3 O2 λw H=>?_
 refine cz k ?_
 cases f
 refine r1 hr h O (aO H 0 aQ aq O3) ⟨O,H.out⟩
 refine rg λK k=>ae 1 h O λa h=>s1 h O (bY kU O (u.at H.zin)) λa h=>ae 1 h O λa h=>cz k<|lb ?_
 obtain⟨c8,b1,f⟩:=bv f
 refine ib (λb0 a w=>∃(Z:FZ) (g:Int × Int × Int × (List UInt8) × Int × Int × (List UInt8)),loopF c8 b0 g=some G/\Fr 67 [(0,a7),(1,a8),(4,(pt p1)),(5,(pt p7)),(16,I (x0.length:Int)),(17,I g.1)] a/\HZ w0 Zi Z [.blk p1 (aB [I g.2.1,I g.2.2.1,S g.2.2.2.1] 27),.blk p7 (aB [I g.2.2.2.2.1,I g.2.2.2.2.2.1,S g.2.2.2.2.2.2] 27)] w/\bx Z a7 3 vL x0/\bx Z a8 3 vL x1) KK ⟨_,_,f,h.to,H,u,E⟩ ?_
 rintro b0 a w ⟨Z,g,f,h,H,u,E⟩
 obtain⟨b0,rfl,ed,af,f⟩:=iJ b1 f
 refine rg λK k=>sB h f O (bn O O) λef ei f a h=>cz k<|sq<|cI h f O (λb2 f=>?_) λb2 f=>?_
 refine ag<|sb ?_
 refine rg λK k=>ae 2 h O λa h=>cz k<|sq<|rg λK k=>ae 2 h O λa h=>?_
 obtain⟨b3,f⟩:=ck f
 obtain⟨cc,ch,f⟩:=bv f
 refine bB h kU aq O O (u.at H.zin) (λ_=>rfl) cc b3.1 (by rw[ch];exact ak b3) rfl λa ej cp h=>?_
 refine kK h O cp cB O Z3 O O O λa el ct h=>?_
 refine s1 h O (al O ct A3 O) λa h=>sB h f O (fN O O) λeo ep f a h=>ae 1 h O λa h=>ai h O O (gF O) O O (λF=>an O) λa h=>?_
 refine ai h O O (gF O) O O (λF=>an O) λa h=>?_
 obtain⟨b4,f⟩:=ck f
 obtain⟨cx,cy,f⟩:=bv f
 refine fv h O (gF O) kU aq (λF=>(eg F O)) (λF=>(eg F O)) (E.at H.zin) (λ_=>rfl) cx (λF=>(b4 F).1) (λF=>(by rw[cy];exact ak (b4 F))) rfl λa er iT h=>?_
 refine gj h O (gF O) (λF=>(eg F O)) (λF=>(iT F)) cB O Z3 O O O λa et da h=>?_
 refine ai h O O (gF O) O O (λF=>al (eg F O) (da F) A3 O) λa h=>?_
 obtain⟨eu,dd,f⟩:=bv f
 refine ai h O O (gF O) O O (λF=>vB dd (fN (eg F O) O)) λa h=>?_
 refine sB h f O (ca O O) λew ey f a h=>cN k h [0,1,4,5,6,16,17,33] O8 λh=>?_
 refine cI h f O (λb5 f=>?_) λb5 f=>?_
 refine aR ?_
 refine ah<|sI h f O (aw O O) λez eF f a h=>ae 1 h O λa h=>am ?_
 exact fK (bp ⟨fq af f,h.to,H,u,E⟩)
 refine ag<|nV 13 h λK k=>?_
 refine F1 O (λw X=>have H:=H.ext X;lA H 1 aQ aq O3) ?_
 refine bN 2 O ?_
 obtain⟨b6,f⟩:=ck f
 obtain⟨J,dj,f⟩:=bv f
 refine aT [35,36] O O O O false (.rel (λw' W=>At w' W vL J 0)) aI (λw X=>?_) ?_
 skip
 exact have H:=H.ext X;fh kU aq O O (u.at H.zin) (λ_=>rfl) J b6.1 (by rw[dj];exact ak b6)
 refine aT [37] O O O O false (.eq (vA J)) trivial (λw X=>?_) ?_
 intro eJ dn
 exact(ay O3 O dn aQ aq O O).bC
 refine bN 2 O ?_
 obtain⟨b7,f⟩:=ck f
 obtain⟨Y,dv,f⟩:=bv f
 refine aT [39,40] O O O O false (.rel (λw' W=>At w' W vL Y 0)) aI (λw X=>?_) ?_
 skip
 exact have H:=H.ext X;fh kU aq O O (E.at H.zin) (λ_=>rfl) Y b7.1 (by rw[dv];exact ak b7)
 refine aT [41] O O O O false (.eq (vA Y)) trivial (λw X=>?_) ?_
 intro eZ dz
 exact(ay O3 O dz aQ aq O O).bC
 refine aT [38,42] O O O O false (.rel (λw' W=>bx (ZB Z w.heap.size w') W 3 vL ([J,Y]:List (V)))) jG (λw X=>?_) ?_
 skip
 exact pA (enc:=vL) ([J,Y]:List (V)) H.zin X kU aq eX O (zl:=[I 0,I 0,S [],I 0,I 0,S []]) kR (cb 2 3) O2 O6 O O O O
 obtain⟨ad,f31,f⟩:=bo f
 refine aT [43] O O O O false (.eq (vA ad)) trivial (λw X=>?_) ?_
 intro ff e1
 exact have Hs:=ZB.of H.zin X;have H:=H.ext X;dt.bC (dC call169 (gW (x0:=[J,Y]) f31 (e1.hz (ZB.inn H.zin))))
 refine aT [34,44] O O O O false (.rel (λw' W=>bx (ZB Z w.heap.size w') W 3 vL ([(⟨g.2.2.2.2.1,g.2.2.2.2.2.1,g.2.2.2.2.2.2⟩:V),ad]:List (V)))) jG (λw X=>?_) ?_
 skip
 exact pA (enc:=vL) ([(⟨g.2.2.2.2.1,g.2.2.2.2.2.1,g.2.2.2.2.2.2⟩:V),ad]:List (V)) H.zin X kU aq eX O (zl:=[I 0,I 0,S [],I 0,I 0,S []]) kR (cb 2 3) O2 O6 O O O O
 obtain⟨e2,f32,f⟩:=bo f
 refine aT [45] O O O O false (.eq (vA e2)) trivial (λw X=>?_) ?_
 intro fs e4
 exact have Hs:=ZB.of H.zin X;have H:=H.ext X;dt.bC (dC call168 (iU (x0:=[(⟨g.2.2.2.2.1,g.2.2.2.2.2.1,g.2.2.2.2.2.2⟩:V),ad]) f32 (e4.hz (ZB.inn H.zin))))
 refine fE [0,1,4,5,6,16,17,46] O8 H λa w X H h=>?_
 refine zS h H 1 aq O3 O3 O2 λw H=>?_
 refine cz k<|sq<|nV 11 h λK k=>?_
 refine bN 2 O ?_
 obtain⟨bb,f⟩:=ck f
 obtain⟨a1,e5,f⟩:=bv f
 refine aT [47,48] O O O O false (.rel (λw' W=>At w' W vL a1 0)) aI (λw X=>?_) ?_
 skip
 exact have H:=H.ext X;fh kU aq O O (u.at H.zin) (λ_=>rfl) a1 bb.1 (by rw[e5];exact ak bb)
 refine aT [49] O O O O false (.eq (vA a1)) trivial (λw X=>?_) ?_
 intro gb e6
 exact(ay O3 O e6 aQ aq O O).bC
 refine bN 2 O ?_
 obtain⟨bk,f⟩:=ck f
 obtain⟨a6,e7,f⟩:=bv f
 refine aT [51,52] O O O O false (.rel (λw' W=>At w' W vL a6 0)) aI (λw X=>?_) ?_
 skip
 exact have H:=H.ext X;fh kU aq O O (E.at H.zin) (λ_=>rfl) a6 bk.1 (by rw[e7];exact ak bk)
 refine aT [53] O O O O false (.eq (vA a6)) trivial (λw X=>?_) ?_
 intro gf e8
 exact(ay O3 O e8 aQ aq O O).bC
 refine aT [50,54] O O O O false (.rel (λw' W=>bx (ZB Z w.heap.size w') W 3 vL ([a1,a6]:List (V)))) jG (λw X=>?_) ?_
 skip
 exact pA (enc:=vL) ([a1,a6]:List (V)) H.zin X kU aq eX O (zl:=[I 0,I 0,S [],I 0,I 0,S []]) kR (cb 2 3) O2 O6 O O O O
 obtain⟨e9,f38,f⟩:=bo f
 refine aT [55] O O O O false (.eq (vA e9)) trivial (λw X=>?_) ?_
 intro gg ea
 exact have Hs:=ZB.of H.zin X;have H:=H.ext X;dt.bC (dC call169 (gW (x0:=[a1,a6]) f38 (ea.hz (ZB.inn H.zin))))
 refine gu eX O3 O O ?_
 refine wT ?_
 intro a w X hR hA
 obtain⟨_,⟨gl,rfl,eb⟩,h⟩:=hR.out [0,1,4,5,7,16,17,56]
 have h:Fr 67 [(56,_),(17,_),(16,_),(7,_),(5,_),(4,_),(1,_),(0,_)] a:=h
 have ec:=hA.zt h (s:=7) rfl rfl
 have H:=H.tG X eb ec
 have H:HZ w0 _ _ O3 _:=H
 refine zS h H 2 aq O3 O3 O3 λw H=>?_
 refine cz k<|rg λK k=>s1 h O (ab O cB O Z3 O O) λa h=>s1 h O (l1 H 2 A3) λa h=>sB h f O (aD O O) λgm h0 f a h=>cz k<|cI h f O (λbq f=>?_) λbq f=>?_
 refine rg λK k=>s1 h O (lA H 2 aQ aq O3) λa h=>zS h H 0 aq O3 O3 O3 λw H=>?_
 refine cN k h [4] [_] λh=>?_
 cases f
 refine r1 hr h O (aO H 0 aQ aq O3) ⟨O,H.out⟩
 refine ag<|cO h [0,1,4,5,16,17] O6 λh=>?_
 refine rg λK k=>s1 h O (ab O cB O Z3 O O) λa h=>s1 h O (l1 H 1 A3) λa h=>sB h f O (aD O O) λh2 h3 f a h=>cz k<|cI h f O (λbs f=>?_) λbs f=>?_
 refine rg λK k=>s1 h O (lA H 1 aQ aq O3) λa h=>zS h H 0 aq O3 O3 O3 λw H=>?_
 refine cN k h [4] [_] λh=>?_
 cases f
 refine r1 hr h O (aO H 0 aQ aq O3) ⟨O,H.out⟩
 refine ag<|ah<|sI h f O (aw O O) λh4 h5 f a h=>ae 1 h O λa h=>am ?_
 exact fK (bp ⟨fq af f,h.to,(H.cT 2 O),u,E⟩)
 exact aR (bp ⟨f,h.to,H⟩)
end Go.Proofs.YtnllbjchcfpmpaaGreatDoor
