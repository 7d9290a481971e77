/- Joined texts. -/
import Derived.Test.YtnllbjchcfpmpaaGreatDoorMWkPe
set_option linter.all false
namespace Go.Proofs.YtnllbjchcfpmpaaGreatDoor
open Go.Stp Go.RowKit Go.ValP Go.Sp _root_.Go.Proofs.Tryz
set_option maxRecDepth 100000
theorem lU{x0:List UInt8}{x1:Int}{J:Nd × Int × Int}{w0:World}(u:dM x0 x1=some J){Z:FZ}(hZ:Z.inn w0) (hG:jY w0):Calls prog 12 [S x0,I x1].toArray w0 (bj λv w=>∃u1,v=.tuple #[(nA J.1 u1),I J.2.1,I J.2.2]/\bi (ZB Z w0.heap.size w) u1 aj J.1.l/\Ext w0 w):=by
 refine Eu hZ func12 [0,1] O2 λQ a Zi a1 H h hd=>?_
 rw[<-a1]at hd
 clear a1
 have hr:=E6 hd
 unfold dM at u
 refine rg λK k=>zA h H iS aA (λx=>[x]) λa p1 w X H h=>?_
 refine zA h H zeroValue3 [_] (λx=>[_,x]) λa p2 w X H h=>?_
 refine zA h H zeroValue46 [_] (λx=>[_,_,x]) λa p3 w X H h=>?_
 refine cz k<|rg λK k=>ae 1 h O λa h=>?_
 obtain⟨y4,f4,u⟩:=bo u
 refine st2 h O O O (dC call37 (uZ (x0:=x0) f4 (hG.ext H.out).toGW)) ?_
 rintro v_ w ⟨E,rfl,g,X⟩ a h
 obtain⟨Z,a6,G,H⟩:=H.aP X
 have g:=g.sub (ZB.empty.trans G)
 refine ae 5 h O λa h=>zS h H 1 Z3 [_] [_] O3 λw H=>?_
 refine zS h H 2 sizeOf46 [_] [_] O3 λw H=>?_
 refine cN k h [0,1,4,5,6,7] O6 λh=>?_
 refine sq<|rg λK k=>s1 h O (l1 H 2 isAgg46) λa h=>sB h u O (fN O O) λz7 e7 u a h=>cz k<|cI h u O (λa8 u=>?_) λa8 u=>?_
 refine wJ 0 5 H (λK k w H=>?_)
 refine cl 0 [5] h O (λw H=>aS mB [] aA O O) kR O (λa h=>?_)
 refine cl 1 [5] h O (λw H=>l1 H 1 A3) kR O (λa h=>?_)
 refine cl 2 [5] h O (λw H=>l1 H 2 isAgg46) kR O (λa h=>?_)
 refine pm 3 h O kR (λ_=>H.jF 0) (gD (ops:=#[]) (zS h H 0 aL aA aA O3 λw H=>nR ⟨O,H⟩)) O ?_
 rintro _ w a H h
 have H:HZ w0 _ _ O3 _:=H
 refine pm 4 h O kR (λ_=>H.jF 0) (gD (ops:=#[]) (zS h H 1 Z3 [_] [_] O3 λw H=>nR ⟨O,H⟩)) O ?_
 rintro _ w a H h
 have H:HZ w0 _ _ O3 _:=H
 refine pm 5 h O kR (λ_=>H.jF 0) (gD (ops:=#[]) (zS h H 2 sizeOf46 [_] [_] O3 λw H=>nR ⟨O,H⟩)) O ?_
 rintro _ w a H h
 have H:HZ w0 _ _ O3 _:=H
 refine pq (λhq=>nomatch hq) kR (k _ _ ?_)
 refine cO h [4,5,6] O3 λh=>?_
 cases u
 refine r3 hr h O (aO H 0 bQ aL aA) (Em H 1 A3) (Em H 2 isAgg46) ⟨_,O,bi.nil,H.out⟩
 refine ag<|rg λK k=>s1 (V:=.func (.func 38) #[] [(pt p1),(pt p2),(pt p3)].toArray) h O (kO O3 O) λa h=>yJ h O (λa h=>?_)
 refine cz k<|rg λK k=>ae 3 h O λa h=>s1 h O (dE U9 O) λa h=>s1 h O (aS Du [E,I x1,I (x0.length:Int)] [E,I x1,I (x0.length:Int),I 0] O (by obtain⟨_,_,_,e_⟩:=(g).form;subst e_;rfl)) λa h=>aZ h H rfl O4 rfl rfl λa p9 w X H h=>?_
 have H:HZ w0 _ _ O4 _:=H
 refine ae 1 h O λa h=>cN k h [4,5,6,8] O4 λh=>?_
 refine rg λK k=>ae 1 h O λa h=>?_
 obtain⟨af,f10,u⟩:=bo u
 refine st2 h O O O (dC call39 ((qR KK).1 f10 H.zin g (H.hp.get 3 O) (H.dG 3 O _ O) O O (hG.ext H.out))) ?_
 rintro v_ w ⟨Y,rfl,f,⟨ad,W,F⟩,X⟩ a h
 obtain⟨Z,a6,G,H⟩:=H.b_ 3 rfl W X (hl':=O4) rfl
 have f:=f.sub G
 have F:=F.sub G
 have H:HZ w0 _ _ O4 _:=H
 refine ap h H 0 O O O aL aA O O (by obtain⟨_,_,_,e_⟩:=(f).form;subst e_;rfl) (by simp) aA rfl (hl':=O4) rfl λw H=>?_
 refine cz k<|sq<|rg λK k=>ae 1 h O λa h=>s1 h O (ax O) λa h=>s1 h O (ab O ku O jW O O) λa h=>s1 h O (l1 H 3 oN) λa h=>s1 h O (bY nK O (F.at H.zin)) λa h=>sB h u O (dS O O) λao b0 u a h=>cN k h [4,5,6,34] O4 λh=>?_
 refine cI h u O (λa7 u=>?_) λa7 u=>?_
 exact nomatch u
 refine ag<|rg λK k=>s1 h O (lA H 0 bQ aL aA) λa h=>ap h H 0 O O O aL aA O O (by obtain⟨_,_,_,e_⟩:=(f).form;subst e_;rfl) (by simp) aA rfl (hl':=O4) rfl λw H=>?_
 refine zS h H 1 Z3 [_] [_] O4 λw H=>?_
 refine zS h H 2 sizeOf46 [_] [_] O4 λw H=>?_
 refine cz k ?_
 cases u
 refine rD hd h xv vh λa w X h=>?_
 have H:=H.ext X
 exact DL h O (aO H 0 bQ aL aA) (Em H 1 A3) (Em H 2 isAgg46) ⟨_,O,f.sub H.back,H.out⟩
end Go.Proofs.YtnllbjchcfpmpaaGreatDoor
