/- Joined texts. -/
import Derived.Test.YtnllbjchcfpmpaaGreatDoorMFG
import Derived.Test.YtnllbjchcfpmpaaGreatDoorMWkFD
set_option linter.all false
namespace Go.Proofs.YtnllbjchcfpmpaaGreatDoor
open Go.Stp Go.RowKit Go.ValP Go.Sp _root_.Go.Proofs.Tryz
set_option maxRecDepth 100000
theorem aX{x0:V}{f:Nd}{w0:World}(u:bg x0=some f):Calls prog 15 [(vA x0)].toArray w0 (bj λv w=>∃E,v=.agg #[I f.k,I f.op,I f.v.k,I f.v.n,S f.v.s,I f.a.c.s,I f.a.c.c,I f.a.c.r,.bool f.a.ac,.bool f.a.ar,I f.b.c.s,I f.b.c.c,I f.b.c.r,.bool f.b.ac,.bool f.b.ar,S f.nm,E]/\bi (ZB Z0 w0.heap.size w) E aj f.l/\Ext w0 w):=by
 refine en func15 [0] [_] λQ a Zi Z g H h F=>?_
 clear g
 unfold bg at u
 refine rg λK k=>aZ h H O O3 O O λa G w X H h=>?_
 have H:HZ w0 _ _ [_] _:=H
 refine zA h H iS aA (λx=>[_,x]) λa J w X H h=>?_
 refine cz k<|rg λK k=>s1 h O (lA H 0 aQ aq O3) λa h=>s1 h O (aS mB O2 aA O O) λa h=>zS h H 1 aL aA aA O2 λw H=>?_
 refine cN k h [2] [_] λh=>?_
 cases u
 refine r1 F h O (aO H 1 bQ aL aA) ⟨_,O,bi.nil,H.out⟩
theorem m8{x0:Rf}{f:Nd}{w0:World}(u:l6 x0=some f):Calls prog 19 [.agg #[I x0.c.s,I x0.c.c,I x0.c.r,.bool x0.ac,.bool x0.ar]].toArray w0 (bj λv w=>∃E,v=.agg #[I f.k,I f.op,I f.v.k,I f.v.n,S f.v.s,I f.a.c.s,I f.a.c.c,I f.a.c.r,.bool f.a.ac,.bool f.a.ar,I f.b.c.s,I f.b.c.c,I f.b.c.r,.bool f.b.ac,.bool f.b.ar,S f.nm,E]/\bi (ZB Z0 w0.heap.size w) E aj f.l/\Ext w0 w):=by
 refine en func19 [0] [_] λQ a Zi Z g H h F=>?_
 clear g
 unfold l6 at u
 refine rg λK k=>aZ h H O O5 O O λa G w X H h=>?_
 have H:HZ w0 _ _ [_] _:=H
 refine zA h H iS aA (λx=>[_,x]) λa J w X H h=>?_
 refine cz k<|rg λK k=>s1 h O (lA H 0 mP iR O5) λa h=>s1 h O (aS mB O2 aA O O) λa h=>zS h H 1 aL aA aA O2 λw H=>?_
 refine cN k h [2] [_] λh=>?_
 cases u
 refine r1 F h O (aO H 1 bQ aL aA) ⟨_,O,bi.nil,H.out⟩
theorem mj{x0:Int}{x1:List (Nd)}{f:Nd}{w0:World}(Y:g9 x0 x1=some f){Z:FZ}(hZ:Z.inn w0){a1:Value}(W:bi Z a1 aj x1):Calls prog 25 [I x0,a1].toArray w0 (bj λv w=>∃u1,v=.agg #[I f.k,I f.op,I f.v.k,I f.v.n,S f.v.s,I f.a.c.s,I f.a.c.c,I f.a.c.r,.bool f.a.ac,.bool f.a.ar,I f.b.c.s,I f.b.c.c,I f.b.c.r,.bool f.b.ac,.bool f.b.ar,S f.nm,u1]/\bi (ZB Z w0.heap.size w) u1 aj f.l/\Ext w0 w):=by
 refine o6 hZ func25 [0,1] O2 λQ a Zi a6 H h hr=>?_
 try rw[<-a6]at hr
 clear a6
 unfold g9 at Y
 refine rg λK k=>zA h H iS aA (λx=>[x]) λa p1 w X H h=>?_
 refine cz k<|rg λK k=>ae 2 h O λa h=>?_
 have H:=H.fc 34 17 rfl
 have H:HZ w0 _ _ O2 _:=H
 have g:EL aj Z ([]:List (Cl 17)) ([]:List (Nd)):=trivial
 obtain⟨c3,Y⟩:=ck Y
 obtain⟨z4,e4,Y⟩:=bv Y
 obtain⟨G,a7,F⟩:=id W
 refine cg (enc:=(Subtype.val (p:=λl:List Value=>l.length=17))) (out:=([]:List (Cl 17))) (data:=G) h H 1 O dZ tW O O O a7 (λc=>c.2) F.one (Do g.len F.len c3) O λa J w H h=>?_
 have g:=EL.append g F
 rw[<-e4]at g
 have g:EL aj Z (List.append (α:=Cl 17) ([]:List (Cl 17)) G) z4:=g
 have H:HZ w0 _ _ O2 _:=H
 obtain⟨Z,a8,H,u⟩:=H.mX (E:=aj) 1 rfl g
 have W:=W.sub a8
 have H:HZ w0 _ _ O2 _:=H
 refine s1 h O (aS mB [I 8,I x0,J] [I 8,I x0,I 0,I 0,S [],I 0,I 0,I 0,.bool false,.bool false,I 0,I 0,I 0,.bool false,.bool false,S [],J] O (by obtain⟨_,_,_,e_⟩:=(u).form;subst e_;rfl)) λa h=>ap h H 0 rfl rfl rfl aL aA rfl rfl (by obtain⟨_,_,_,e_⟩:=(u).form;subst e_;rfl) (by simp) aA rfl (hl':=O2) rfl λw H=>?_
 refine cN k h [4] [_] λh=>?_
 cases Y
 refine r1 hr h O (aO H 0 bQ aL aA) ⟨_,O,u.sub H.back,H.out⟩
theorem ii{x0:Int}{x1 f:Nd}{w0:World}(Y:gh x0 x1=some f){Z:FZ}(hZ:Z.inn w0){E:Value}(F:bi Z E aj x1.l):Calls prog 22 [I x0,(nA x1 E)].toArray w0 (bj λv w=>∃u1,v=.agg #[I f.k,I f.op,I f.v.k,I f.v.n,S f.v.s,I f.a.c.s,I f.a.c.c,I f.a.c.r,.bool f.a.ac,.bool f.a.ar,I f.b.c.s,I f.b.c.c,I f.b.c.r,.bool f.b.ac,.bool f.b.ar,S f.nm,u1]/\bi (ZB Z w0.heap.size w) u1 aj f.l/\Ext w0 w):=by
 refine o6 hZ func22 [0,1] O2 λQ a Zi G H h hr=>?_
 try rw[<-G]at hr
 clear G
 unfold gh at Y
 refine rg λK k=>aZ h H O aA O O λa p1 w X H h=>?_
 have H:HZ w0 _ _ [_] _:=H
 refine zA h H iS aA (λx=>[_,x]) λa p2 w X H h=>?_
 refine cz k<|rg λK k=>ae 1 h O λa h=>s1 h O (lA H 0 bQ aL aA) λa h=>cZ (enc:=(Subtype.val (p:=λl:List Value=>l.length=17))) ([⟨(nL x1 E),O⟩]:List (Cl 17)) h H dZ aL iS O (zl:=[I 0,I 0,I 0,I 0,S [],I 0,I 0,I 0,.bool false,.bool false,I 0,I 0,I 0,.bool false,.bool false,S [],.slice none 0 0]) kR (cb 1 17) [_] aA O O O O O λa u Z w J X H g h=>?_
 have F:=F.sub J
 have g:bi Z u aj [x1]:=⟨_,g,⟨fw ⟨_,rfl,F⟩,trivial⟩⟩
 refine s1 h O (aS mB [I x0,u] [I x0,I 0,I 0,I 0,S [],I 0,I 0,I 0,.bool false,.bool false,I 0,I 0,I 0,.bool false,.bool false,S [],u] O (by obtain⟨_,_,_,W⟩:=(g).form;subst W;rfl)) λa h=>ap h H 1 rfl rfl rfl aL aA rfl rfl (by obtain⟨_,_,_,W⟩:=(g).form;subst W;rfl) (by simp) aA rfl (hl':=O2) rfl λw H=>?_
 refine cN k h [4] [_] λh=>?_
 cases Y
 refine r1 hr h O (aO H 1 bQ aL aA) ⟨_,O,g.sub H.back,H.out⟩
theorem lG{x0:Int}{x1 x2 f:Nd}{w0:World}(hS:iw x0 x1 x2=some f){Z:FZ}(hZ:Z.inn w0){F:Value}(G:bi Z F aj x1.l){J:Value}(W:bi Z J aj x2.l):Calls prog 23 [I x0,(nA x1 F),(nA x2 J)].toArray w0 (bj λv w=>∃u1,v=.agg #[I f.k,I f.op,I f.v.k,I f.v.n,S f.v.s,I f.a.c.s,I f.a.c.c,I f.a.c.r,.bool f.a.ac,.bool f.a.ar,I f.b.c.s,I f.b.c.c,I f.b.c.r,.bool f.b.ac,.bool f.b.ar,S f.nm,u1]/\bi (ZB Z w0.heap.size w) u1 aj f.l/\Ext w0 w):=by
 refine o6 hZ func23 [0,1,2] O3 λQ a Zi Y H h hr=>?_
 try rw[<-Y]at hr
 clear Y
 unfold iw at hS
 refine rg λK k=>aZ h H O aA O O λa p1 w X H h=>?_
 have H:HZ w0 _ _ [_] _:=H
 refine aZ h H O aA O O λa p2 w X H h=>?_
 have H:HZ w0 _ _ O2 _:=H
 refine zA h H iS aA (λx=>[_,_,x]) λa p3 w X H h=>?_
 refine cz k<|rg λK k=>ae 1 h O λa h=>s1 h O (lA H 0 bQ aL aA) λa h=>s1 h O (lA H 1 bQ aL aA) λa h=>cZ (enc:=(Subtype.val (p:=λl:List Value=>l.length=17))) ([⟨(nL x1 F),O⟩,⟨(nL x2 J),O⟩]:List (Cl 17)) h H dZ aL iS O (zl:=[I 0,I 0,I 0,I 0,S [],I 0,I 0,I 0,.bool false,.bool false,I 0,I 0,I 0,.bool false,.bool false,S [],.slice none 0 0,I 0,I 0,I 0,I 0,S [],I 0,I 0,I 0,.bool false,.bool false,I 0,I 0,I 0,.bool false,.bool false,S [],.slice none 0 0]) kR (cb 2 17) O2 E_ O O O O O λa u Z w E X H g h=>?_
 have G:=G.sub E
 have W:=W.sub E
 have g:bi Z u aj [x1,x2]:=⟨_,g,⟨fw ⟨_,rfl,G⟩,fw ⟨_,rfl,W⟩,trivial⟩⟩
 refine s1 h O (aS mB [I 7,I x0,u] [I 7,I x0,I 0,I 0,S [],I 0,I 0,I 0,.bool false,.bool false,I 0,I 0,I 0,.bool false,.bool false,S [],u] O (by obtain⟨_,_,_,e_⟩:=(g).form;subst e_;rfl)) λa h=>ap h H 2 rfl rfl rfl aL aA rfl rfl (by obtain⟨_,_,_,e_⟩:=(g).form;subst e_;rfl) (by simp) aA rfl (hl':=O3) rfl λw H=>?_
 refine cN k h [6] [_] λh=>?_
 cases hS
 refine r1 hr h O (aO H 2 bQ aL aA) ⟨_,O,g.sub H.back,H.out⟩
theorem ny{x0 x1:Rf}{f:Nd}{w0:World}(u:lW x0 x1=some f):Calls prog 21 [.agg #[I x0.c.s,I x0.c.c,I x0.c.r,.bool x0.ac,.bool x0.ar],.agg #[I x1.c.s,I x1.c.c,I x1.c.r,.bool x1.ac,.bool x1.ar]].toArray w0 (bj λv w=>∃E,v=.agg #[I f.k,I f.op,I f.v.k,I f.v.n,S f.v.s,I f.a.c.s,I f.a.c.c,I f.a.c.r,.bool f.a.ac,.bool f.a.ar,I f.b.c.s,I f.b.c.c,I f.b.c.r,.bool f.b.ac,.bool f.b.ar,S f.nm,E]/\bi (ZB Z0 w0.heap.size w) E aj f.l/\Ext w0 w):=by
 refine en func21 [0,1] O2 λQ a Zi Z g H h F=>?_
 clear g
 unfold lW at u
 refine rg λK k=>aZ h H O O5 O O λa G w X H h=>?_
 have H:HZ w0 _ _ [_] _:=H
 refine aZ h H O O5 O O λa J w X H h=>?_
 have H:HZ w0 _ _ O2 _:=H
 refine zA h H iS aA (λx=>[_,_,x]) λa p3 w X H h=>?_
 refine cz k<|rg λK k=>s1 h O (lA H 0 mP iR O5) λa h=>s1 h O (lA H 1 mP iR O5) λa h=>s1 h O (aS mB O3 aA O O) λa h=>zS h H 2 aL aA aA O3 λw H=>?_
 refine cN k h [4] [_] λh=>?_
 cases u
 refine r1 F h O (aO H 2 bQ aL aA) ⟨_,O,bi.nil,H.out⟩
theorem mA{x0 F:C}{g:C × C × Bool}{w0:World}(f:fo x0 F=some g):Calls prog 68 [(cA x0),(cA F)].toArray w0 (bj λv w=>v=.tuple #[(cA g.1),(cA g.2.1),.bool g.2.2]/\Ext w0 w):=by
 refine en func68 [0,1] O2 λQ a Zi Z u H h G=>?_
 clear u
 unfold fo at f
 refine rg λK k=>aZ h H O O3 O O λa p1 w X H h=>?_
 have H:HZ w0 _ _ [_] _:=H
 refine aZ h H O O3 O O λa p2 w X H h=>?_
 have H:HZ w0 _ _ O2 _:=H
 refine zA h H sO O3 (λx=>[_,_,x]) λa p3 w X H h=>?_
 refine zA h H sO O3 (λx=>[_,_,_,x]) λa p4 w X H h=>?_
 refine ae 1 h O λa h=>cz k<|sq<|rg λK k=>s1 h O (ab O gH O Z3 O O) λa h=>s1 h O (l1 H 0 A3) λa h=>s1 h O (ab O gH O Z3 O O) λa h=>s1 h O (l1 H 1 A3) λa h=>sB h f O (fN O O) λz6 e6 f a h=>cN k h [2,3,4,5,11] O5 λh=>?_
 refine cI h f O (λE f=>?_) λE f=>?_
 refine lt [2,3] h H ?_
 refine L1 O (λw X=>have H:=X;lA H 0 iT dm O3) ?_
 refine L1 O (λw X=>have H:=X;lA H 1 iT dm O3) ?_
 refine LZ 2 dm O3 O3 O4 ?_
 refine LZ 3 dm O3 O3 O4 ?_
 refine xK 1 O ?_
 refine lE [4,5,6] O3 λa w H h=>?_
 have H:HZ w0 _ _ O4 _:=H
 cases f
 refine r3 G h O (aO H 2 iT dm O3) (aO H 3 iT dm O3) O ⟨O,H.out⟩
 refine ag<|lt [2,3] h H ?_
 refine L1 O (λw X=>ab O gH O Z3 O O) ?_
 refine L1 O (λw X=>have H:=X;l1 H 0 A3) ?_
 refine L1 O (λw X=>ab O gH O Z3 O O) ?_
 refine L1 O (λw X=>have H:=X;l1 H 0 A3) ?_
 refine L1 O (λw X=>ab O gH O Z3 O O) ?_
 refine L1 O (λw X=>have H:=X;l1 H 1 A3) ?_
 refine lI f O (λw X=>pT U3 O O) λz8 e8 f=>?_
 refine L1 O (λw X=>ab O gH O Z3 O O) ?_
 refine L1 O (λw X=>have H:=X;l1 H 0 A3) ?_
 refine L1 O (λw X=>ab O gH O Z3 O O) ?_
 refine L1 O (λw X=>have H:=X;l1 H 1 A3) ?_
 refine lI f O (λw X=>pT U3 O O) λz9 e9 f=>?_
 refine L1 O (λw X=>aS kY O3 O3 O O) ?_
 refine L1 O (λw X=>ab O gH O Z3 O O) ?_
 refine L1 O (λw X=>have H:=X;l1 H 0 A3) ?_
 refine L1 O (λw X=>ab O gH O Z3 O O) ?_
 refine L1 O (λw X=>have H:=X;l1 H 0 A3) ?_
 refine L1 O (λw X=>ab O gH O Z3 O O) ?_
 refine L1 O (λw X=>have H:=X;l1 H 1 A3) ?_
 refine lI f O (λw X=>pO U3 O O) λJ W f=>?_
 refine L1 O (λw X=>ab O gH O Z3 O O) ?_
 refine L1 O (λw X=>have H:=X;l1 H 0 A3) ?_
 refine L1 O (λw X=>ab O gH O Z3 O O) ?_
 refine L1 O (λw X=>have H:=X;l1 H 1 A3) ?_
 refine lI f O (λw X=>pO U3 O O) λY a1 f=>?_
 refine L1 O (λw X=>aS kY O3 O3 O O) ?_
 refine LZ 2 dm O3 O3 O4 ?_
 refine LZ 3 dm O3 O3 O4 ?_
 refine xK 1 O ?_
 refine lE [4,5,6] O3 λa w H h=>?_
 have H:HZ w0 _ _ O4 _:=H
 cases f
 refine r3 G h O (aO H 2 iT dm O3) (aO H 3 iT dm O3) O ⟨O,H.out⟩
theorem jD{x0:List V}{J:C}{u:V}{w0:World}(f:bT x0 J=some u){Z:FZ}(hZ:Z.inn w0){E:Nat}(W:Z E=some (aB ((x0:List V).flatMap vL) 54)) (lp0:x0.length=128):Calls prog 247 [(pt E),(cA J)].toArray w0 (bj λv w=>v=.agg #[I u.k,I u.n,S u.s]/\Ext w0 w):=by
 refine o6 hZ func247 [0,1] O2 λQ a Zi F H h Y=>?_
 try rw[<-F]at Y
 clear F
 unfold bT at f
 refine rg λK k=>aZ h H O O3 O O λa p1 w X H h=>?_
 have H:HZ w0 _ _ [_] _:=H
 refine zA h H eX O3 (λx=>[_,x]) λa p2 w X H h=>?_
 refine cz k<|sq<|rg λK k=>s1 h O (ab O gH O Z3 O O) λa h=>s1 h O (l1 H 0 A3) λa h=>sB h f O (bn O O) λz4 e4 f a h=>ae 1 h O λa h=>ai h O O (gF O) O O (λg=>ab O gH O Z3 O O) λa h=>?_
 refine ai h O O (gF O) O O (λg=>aE (eg g O) A3 (H.hp.get 0 O) O) λa h=>?_
 obtain⟨z5,e5,f⟩:=bv f
 refine ai h O O (gF O) O O (λg=>vB e5 (dS (eg g O) O)) λa h=>?_
 refine sB h f O (ca O O) λz6 e6 f a h=>ae 1 h O λa h=>ai h O O (gF O) O O (λg=>ab O gH O Z3 O O) λa h=>?_
 refine ai h O O (gF O) O O (λg=>aE (eg g O) A3 (H.hp.get 0 O) O) λa h=>?_
 obtain⟨z7,e7,f⟩:=bv f
 refine ai h O O (gF O) O O (λg=>vB e7 (bn (eg g O) O)) λa h=>?_
 refine sB h f O (ca O O) λz8 e8 f a h=>ae 1 h O λa h=>ai h O O (gF O) O O (λg=>ab O gH O Z3 O O) λa h=>?_
 refine ai h O O (gF O) O O (λg=>aE (eg g O) A3 (H.hp.get 0 O) O) λa h=>?_
 obtain⟨z9,e9,f⟩:=bv f
 refine ai h O O (gF O) O O (λg=>vB e9 (dS (eg g O) O)) λa h=>?_
 refine sB h f O (ca O O) λb0 b1 f a h=>ae 1 h O λa h=>ai h O O (gF O) O O (λg=>ab O gH O Z3 O O) λa h=>?_
 refine ai h O O (gF O) O O (λg=>aE (eg g O) A3 (H.hp.get 0 O) O) λa h=>?_
 obtain⟨b2,a1,f⟩:=bv f
 refine ai h O O (gF O) O O (λg=>vB a1 (bn (eg g O) O)) λa h=>?_
 refine sB h f O (ca O O) λb3 b4 f a h=>ae 1 h O λa h=>ai h O O (gF O) O O (λg=>ab O gH O Z3 O O) λa h=>?_
 refine ai h O O (gF O) O O (λg=>aE (eg g O) A3 (H.hp.get 0 O) O) λa h=>?_
 obtain⟨b5,a6,f⟩:=bv f
 refine ai h O O (gF O) O O (λg=>vB a6 (dS (eg g O) O)) λa h=>?_
 refine sB h f O (ca O O) λb6 b7 f a h=>cN k h [0,3,4,32] O4 λh=>?_
 refine cI h f O (λG f=>?_) λG f=>?_
 refine rg λK k=>s1 h O (aS my [] O3 O O) λa h=>zS h H 1 aq O3 O3 O2 λw H=>?_
 refine cN k h [4] [_] λh=>?_
 cases f
 refine r1 Y h O (aO H 1 aQ aq O3) ⟨O,H.out⟩
 refine ag<|nV 14 h λK k=>?_
 refine bN 1 O ?_
 refine F1 O (λw X=>ab O gH O Z3 O O) ?_
 refine F1 O (λw X=>have H:=H.ext X;l1 H 0 A3) ?_
 refine F1 O (λw X=>ab O gH O Z3 O O) ?_
 refine F1 O (λw X=>have H:=H.ext X;l1 H 0 A3) ?_
 refine fI f O (λw X=>dB O O) λbb bk f=>?_
 refine F1 O (λw X=>ab O gH O Z3 O O) ?_
 refine F1 O (λw X=>have H:=H.ext X;l1 H 0 A3) ?_
 refine fI f O (λw X=>aw O O) λa7 bq f=>?_
 refine F1 O (λw X=>ax O) ?_
 refine F1 O (λw X=>ab O underlying54 O sizeOf52 O O) ?_
 obtain⟨a8,f⟩:=ck f
 refine F1 O (λw X=>l4 underlying52 sizeOf51 O O a8) ?_
 obtain⟨ad,f⟩:=ck f
 refine F1 O (λw X=>l4 underlying51 aq O O ad) ?_
 obtain⟨af,ao,f⟩:=bv f
 refine F1 (V:=(vA af)) O (λw X=>have H:=H.ext X;xX (enc:=vL) (xs:=x0) (Int.toNat (64*J.s+a7)) O aQ aq (H.zin _ _ W) (by rw[ao];exact ak (by omega)) (by dsimp only;omega) (λ_=>rfl)) ?_
 refine fE [4,47] O2 H λa w X H h=>?_
 refine zS h H 1 aq O3 O3 O2 λw H=>?_
 refine cz k ?_
 cases f
 refine r1 Y h O (aO H 1 aQ aq O3) ⟨O,H.out⟩
theorem iM{x0:List V}{W:C}{g:V × C}{w0:World}(f:bR x0 W=some g){Z:FZ}(Y:Z.inn w0){u:Nat}(F:Z u=some (aB ((x0:List V).flatMap vL) 54)) (lp0:x0.length=128):Calls prog 246 [(pt u),(cA W)].toArray w0 (bj λv w=>v=.tuple #[(vA g.1),(cA g.2)]/\Ext w0 w):=by
 refine o6 Y func246 [0,1] O2 λQ a Zi E H h G=>?_
 try rw[<-E]at G
 clear E
 unfold bR at f
 refine rg λK k=>aZ h H O O3 O O λa p1 w X H h=>?_
 have H:HZ w0 _ _ [_] _:=H
 refine zA h H eX O3 (λx=>[_,x]) λa p2 w X H h=>?_
 refine zA h H sO O3 (λx=>[_,_,x]) λa p3 w X H h=>?_
 refine cz k<|rg λK k=>ae 1 h O λa h=>s1 h O (lA H 0 iT dm O3) λa h=>?_
 obtain⟨y4,f4,f⟩:=bo f
 refine d_ (T:=Ext) (V:=(vA y4)) h O O O (dC call247 (jD f4 H.zin F lp0)) λw X a h=>?_
 have H:=H.ext X
 refine zA h H eX O3 (λx=>[_,_,_,x]) λa p5 w X H h=>?_
 refine zS h H 3 aq O3 O3 O4 λw H=>?_
 refine cN k h [3,4,5,6] O4 λh=>?_
 refine sq<|rg λK k=>s1 h O (ab O cB O Z3 O O) λa h=>s1 h O (l1 H 3 A3) λa h=>sB h f O (aD O O) λz7 e7 f a h=>cz k<|cI h f O (λJ f=>?_) λJ f=>?_
 refine lt [1,2] h H ?_
 refine L1 O (λw X=>have H:=X;lA H 3 aQ aq O3) ?_
 refine L1 O (λw X=>have H:=X;lA H 0 iT dm O3) ?_
 refine LZ 1 aq O3 O3 O4 ?_
 refine LZ 2 dm O3 O3 O4 ?_
 refine lE [4,5] O2 λa w H h=>?_
 have H:HZ w0 _ _ O4 _:=H
 cases f
 refine r2 G h O (aO H 1 aQ aq O3) (aO H 2 iT dm O3) ⟨O,H.out⟩
 refine ag<|cO h [4,5,6] O3 λh=>?_
 refine rg λK k=>s1 h O (lA H 3 aQ aq O3) λa h=>s1 h O (aS kY [] O3 O O) λa h=>zS h H 1 aq O3 O3 O4 λw H=>?_
 refine zS h H 2 dm O3 O3 O4 λw H=>?_
 refine cz k ?_
 cases f
 refine r2 G h O (aO H 1 aQ aq O3) (aO H 2 iT dm O3) ⟨O,H.out⟩
theorem iX{x0:List V}{W:List UInt8}{g:Nd × Bool}{w0:World}(f:ci x0 W=some g){Z:FZ}(hZ:Z.inn w0){u:Nat}(a1:Z u=some (aB ((x0:List V).flatMap vL) 54)) (lp0:x0.length=128):Calls prog 245 [(pt u),S W].toArray w0 (bj λv w=>∃Y,v=.tuple #[(nA g.1 Y),.bool g.2]/\bi (ZB Z w0.heap.size w) Y aj g.1.l/\Ext w0 w):=by
 refine o6 hZ func245 [1] [_] λQ a Zi E H h F=>?_
 try rw[<-E]at F
 clear E
 unfold ci at f
 refine rg λK k=>zA h H iS aA (λx=>[x]) λa p1 w X H h=>?_
 refine ae 1 h O λa h=>cz k<|rg λK k=>s1 h O (aS wN [] O5 O O) λa h=>zA h H AK O5 (λx=>[_,x]) λa p2 w X H h=>?_
 refine zS h H 1 iR O5 O5 O2 λw H=>?_
 refine cz k<|rg λK k=>s1 h O (ab O lF O dm O O) λa h=>s1 h O (ab O gH O Z3 O O) λa h=>zS h H 1 Z3 [_] O5 O2 λw H=>?_
 refine cN k h [1,4,6] O3 λh=>?_
 refine rg λK k=>s1 h O (ab O lF O dm O O) λa h=>s1 h O (ab O gH O Z3 O O) λa h=>zS h H 1 Z3 [_] O5 O2 λw H=>?_
 refine cz k<|sq<|rg λK k=>ae 1 h O λa h=>sB h f O (aH O O) λz4 e4 f a h=>cz k<|cI h f O (λG f=>?_) λG f=>?_
 refine rg λK k=>s1 h O (aS mB [_] aA O O) λa h=>zS h H 0 aL aA aA O2 λw H=>?_
 refine ae 1 h O λa h=>cN k h [4,5] O2 λh=>?_
 cases f
 refine r2 F h O (aO H 0 bQ aL aA) O ⟨_,O,bi.nil,H.out⟩
 refine ag<|cO h [1,4,6] O3 λh=>?_
 refine sq<|rg λK k=>ae 1 h O λa h=>sB h f O (aH O O) λz7 e7 f a h=>cz k<|cI h f O (λJ f=>?_) λJ f=>?_
 refine rg λK k=>s1 h O (lA H 1 mP iR O5) λa h=>s1 h O (aS mB O2 aA O O) λa h=>zS h H 0 aL aA aA O2 λw H=>?_
 refine ae 1 h O λa h=>cN k h [4,5] O2 λh=>?_
 cases f
 refine r2 F h O (aO H 0 bQ aL aA) O ⟨_,O,bi.nil,H.out⟩
 refine ag<|cO h [4] [_] λh=>?_
 refine rg λK k=>s1 h O (aS mB [] aA O O) λa h=>zS h H 0 aL aA aA O2 λw H=>?_
 refine ae 1 h O λa h=>cz k ?_
 cases f
 refine r2 F h O (aO H 0 bQ aL aA) O ⟨_,O,bi.nil,H.out⟩
theorem kN{x0:List (V)}{E:List V}{w0:World}(f:dl x0=some E){Z:FZ}(hZ:Z.inn w0){G:Value}(u:bx Z G 3 vL x0):Calls prog 6 [G].toArray w0 (bj λv w=>∃(u1:Nat),v=(pt u1)/\(w0.heap.size<=u1/\w.heap[u1]?=some (aB ((E:List V).flatMap vL) 54)/\E.length=128)/\Ext w0 w):=by
 refine o6 hZ func6 [0] [_] λQ a Zi a6 H h hr=>?_
 try rw[<-a6]at hr
 clear a6
 unfold dl at f
 refine rg λK k=>ae 1 h O λa h=>cz k<|rg λK k=>s1 (V:=.agg (jT.flatMap vL).toArray) h O (uu D0) λa h=>aZ h H O (jT.flatMap vL) O O λa p1 w X H h=>?_
 have H:HZ w0 _ _ [_] _:=H
 have lp0:=mT
 refine ae 1 h O λa h=>cz k ?_
 obtain⟨J3,af,f⟩:=bv f
 refine dA (λa w=>∃(Z:FZ) (s3:(List V)),J3 s3=some E/\Fr 39 [(3,(pt p1))] a/\HZ w0 Zi Z [.blk p1 (aB ((s3:List V).flatMap vL) 54)] w/\s3.length=128) ?_ ?_
 rintro a w ⟨Z,s3,f,h,H,lp0⟩
 subst af
 refine rg λK k=>ae 2 h O λa h=>cz k ?_
 cases f
 refine r1 hr h O O ⟨_,O,⟨H.hp.EQ (i:=0) O,H.hp.get 0 O,lp0⟩,H.out⟩
 refine rg λK k=>ae 1 h O λa h=>s1 h O (bY kU O (u.at H.zin)) λa h=>ae 1 h O λa h=>cN k h [3,8,9,10] O4 λh=>?_
 refine lb ?_
 obtain⟨B5,ao,f⟩:=bv f
 refine ib (λW a w=>∃(Z:FZ) (s5:Int × (List V)),loopF B5 W s5=some E/\Fr 39 [(3,(pt p1)),(8,G),(9,I (x0.length:Int)),(10,I s5.1)] a/\HZ w0 Zi Z [.blk p1 (aB ((s5.2:List V).flatMap vL) 54)] w/\bx Z G 3 vL x0/\s5.2.length=128) KK ⟨_,_,f,h.to,H,u,lp0⟩ ?_
 rintro W a w ⟨Z,s5,f,h,H,u,lp0⟩
 obtain⟨W,rfl,n5,a7,f⟩:=iJ ao f
 refine rg λK k=>sB h f O (bn O O) λz7 e7 f a h=>cz k<|sq<|cI h f O (λb0 f=>?_) λb0 f=>?_
 refine ag<|sb ?_
 refine rg λK k=>ae 1 h O λa h=>?_
 obtain⟨a8,f⟩:=ck f
 obtain⟨Y,b1,f⟩:=bv f
 refine bB h kU aq O O (u.at H.zin) (λ_=>rfl) Y a8.1 (by rw[b1];exact ak a8) rfl λa bb a1 h=>?_
 refine s1 h O (ay O3 O a1 aQ aq O O) λa h=>zA h H eX O3 (λx=>[_,x]) λa bk w X H h=>?_
 have a1:=At.ext a1 X
 refine ae 1 h O λa h=>zS h H 1 aq O3 O3 O2 λw H=>?_
 refine cz k<|rg λK k=>ae 1 h O λa h=>sB h f O (bn O O) λbq bs f a h=>ae 1 h O λa h=>ai h O O (gT O) O O (λF=>ab O cB O Z9 O O) λa h=>?_
 refine ai h O O (gT O) O O (λF=>aE (eg F O) A9 (H.hp.get 1 O) O) λa h=>?_
 refine ai h O O (gT O) O O (λF=>dE U9 (eg F O)) λa h=>?_
 obtain⟨c6,b2,f⟩:=bv f
 refine ai h O O (gT O) O O (λF=>vB b2 (jX (eg F O) O)) λa h=>?_
 refine sB h f O (bK O O) λc7 c8 f a h=>ae 1 h O λa h=>ai h O O (gT O) O O (λF=>lA H 1 aQ aq O3) λa h=>?_
 obtain⟨b3,f17,f⟩:=bo f
 refine mh (T:=Ext) (V:=.bool b3) h O O (gT O) O O (Ext.refl _) (λF=>fM [_] (fp (eg F O) iH) call26 (lP (x0:=Y) (uL F f17))) λw X a h=>?_
 have H:=H.ext X
 refine sB h f O (bK O O) λcc ch f a h=>cN k h [3,4,5,8,9,10,26] O7 λh=>?_
 refine cI h f O (λad f=>?_) λad f=>?_
 refine zh 10 h kR kR ?_
 refine bN 2 O ?_
 refine fI f O (λw X=>dN O O) λb4 cp f=>?_
 refine bN 1 O ?_
 refine fI f O (λw X=>cm O O (by decide)) λb5 ct f=>?_
 refine F1 O (λw X=>have H:=H.ext X;lA H 1 aQ aq O3) ?_
 refine F1 O (λw X=>ax O) ?_
 refine F1 O (λw X=>ab O underlying54 O sizeOf52 O O) ?_
 obtain⟨b6,f⟩:=ck f
 refine F1 O (λw X=>l4 underlying52 sizeOf51 O O b6) ?_
 obtain⟨b7,f⟩:=ck f
 refine F1 O (λw X=>l4 underlying51 aq O O b7) ?_
 refine fE [3,8,9,10,32,36] O6 H λa w X H h=>?_
 obtain⟨J,g,f⟩:=bv f
 refine xy (enc:=vL) (xs:=s5.2) (v:=Y) (Int.toNat (64*b4+b5)) h H 0 O O O aq (λ_=>rfl) O (by omega) (by dsimp only;omega) (hl':=O2) rfl λw H=>?_
 rw[<-g]at H
 have lp0:J.length=128:=by rw[g,List.length_set];exact lp0
 have H:HZ w0 _ _ O2 _:=H
 refine am<|ah<|sI h f O (aw O O) λcx cy f a h=>ae 1 h O λa h=>am ?_
 exact fK (bp ⟨fq a7 f,h.to,(H.cT 1 O),u,lp0⟩)
 refine ag<|ah<|sI h f O (aw O O) λda dd f a h=>ae 1 h O λa h=>am ?_
 exact fK (bp ⟨fq a7 f,h.to,(H.cT 1 O),u,lp0⟩)
 exact aR (bp ⟨f,h.to,H,lp0⟩)
theorem iW{x0:List V}{x1:Nd}{G:C × C × Bool}{w0:World}(g:eval_Area x0 x1=some G){Z:FZ}(hZ:Z.inn w0){a6:Value}(J:bi Z a6 aj x1.l){Y:Nat}(F:Z Y=some (aB ((x0:List V).flatMap vL) 54)) (lp0:x0.length=128):Calls prog 44 [.iface 36 (pt Y),(nA x1 a6)].toArray w0 (bj λv w=>v=.tuple #[(cA G.1),(cA G.2.1),.bool G.2.2]/\Ext w0 w):=by
 refine o6 hZ func44 [0,1] O2 λQ a Zi a7 H h hr=>?_
 try rw[<-a7]at hr
 clear a7
 unfold eval_Area at g
 refine rg λK k=>aZ h H O aA O O λa p1 w X H h=>?_
 have H:HZ w0 _ _ [_] _:=H
 refine zA h H sO O3 (λx=>[_,x]) λa p2 w X H h=>?_
 refine zA h H sO O3 (λx=>[_,_,x]) λa p3 w X H h=>?_
 refine ae 1 h O λa h=>cz k ?_
 obtain⟨J5,b2,g⟩:=bv g
 refine dA (λa w=>∃(Z:FZ) (E:Int × Int × Int × Int × (List UInt8) × Int × Int × Int × Bool × Bool × Int × Int × Int × Bool × Bool × (List UInt8) × (List (Nd))) (u:Value),J5 E=some G/\Fr 45 [(3,(pt p1)),(4,(pt p2)),(5,(pt p3))] a/\HZ w0 Zi Z [.blk p1 (aB [I E.1,I E.2.1,I E.2.2.1,I E.2.2.2.1,S E.2.2.2.2.1,I E.2.2.2.2.2.1,I E.2.2.2.2.2.2.1,I E.2.2.2.2.2.2.2.1,.bool E.2.2.2.2.2.2.2.2.1,.bool E.2.2.2.2.2.2.2.2.2.1,I E.2.2.2.2.2.2.2.2.2.2.1,I E.2.2.2.2.2.2.2.2.2.2.2.1,I E.2.2.2.2.2.2.2.2.2.2.2.2.1,.bool E.2.2.2.2.2.2.2.2.2.2.2.2.2.1,.bool E.2.2.2.2.2.2.2.2.2.2.2.2.2.2.1,S E.2.2.2.2.2.2.2.2.2.2.2.2.2.2.2.1,u] 34),.blk p2 (aB [I 0,I 0,I 0] 29),.blk p3 (aB [I 0,I 0,I 0] 29)] w/\bi Z u aj E.2.2.2.2.2.2.2.2.2.2.2.2.2.2.2.2/\Z Y=some (aB ((x0:List V).flatMap vL) 54)) ?_ ?_
 rintro a w ⟨Z,E,u,g,h,H,a8,F⟩
 subst b2
 refine sq<|rg λK k=>s1 h O (ab O cD O Z3 O O) λa h=>s1 h O (l1 H 0 A3) λa h=>cz k<|lb<|rg λK k=>sB h g O (aD O O) λz9 e9 g a h=>ae 1 h O λa h=>cz k<|cI h g O (λad g=>?_) λad g=>?_
 refine rg λK k=>s1 h O (ab O cD O iR O O) λa h=>s1 h O (ab O lF O dm O O) λa h=>s1 h O (lA H 0 iT dm O3) λa h=>s1 h O (ab O cD O iR O O) λa h=>s1 h O (ab O lF O dm O O) λa h=>s1 h O (lA H 0 iT dm O3) λa h=>sC h H g O (λb3 f11=>dC call68 (mA f11 :)) λb3 g w X H a h=>?_
 refine ae 3 h O λa h=>zS h H 1 dm O3 O3 O3 λw H=>?_
 refine zS h H 2 dm O3 O3 O3 λw H=>?_
 refine ae 1 h O λa h=>cN k h [4,5,6] O3 λh=>?_
 cases g
 refine r3 hr h O (aO H 1 iT dm O3) (aO H 2 iT dm O3) O ⟨O,H.out⟩
 refine rg λK k=>sB h g O (aD O O) λb4 b5 g a h=>ae 1 h O λa h=>cN k h [3,4,5,35] O4 λh=>?_
 refine cI h g O (λaf g=>?_) λaf g=>?_
 refine lt [1,2] h H ?_
 refine L1 O (λw X=>ab O cD O iR O O) ?_
 refine L1 O (λw X=>ab O lF O dm O O) ?_
 refine L1 O (λw X=>have H:=X;lA H 0 iT dm O3) ?_
 refine L1 O (λw X=>ab O cD O iR O O) ?_
 refine L1 O (λw X=>ab O lF O dm O O) ?_
 refine L1 O (λw X=>have H:=X;lA H 0 iT dm O3) ?_
 refine LZ 1 dm O3 O3 O3 ?_
 refine LZ 2 dm O3 O3 O3 ?_
 refine xK 1 O ?_
 refine lE [4,5,6] O3 λa w H h=>?_
 have H:HZ w0 _ _ O3 _:=H
 cases g
 refine r3 hr h O (aO H 1 iT dm O3) (aO H 2 iT dm O3) O ⟨O,H.out⟩
 refine ag<|rg λK k=>s1 h O (aS kY [] O3 O O) λa h=>s1 h O (aS kY [] O3 O O) λa h=>zS h H 1 dm O3 O3 O3 λw H=>?_
 refine zS h H 2 dm O3 O3 O3 λw H=>?_
 refine ae 1 h O λa h=>cN k h [4,5,6] O3 λh=>?_
 cases g
 refine r3 hr h O (aO H 1 iT dm O3) (aO H 2 iT dm O3) O ⟨O,H.out⟩
 refine rg λK k=>s1 h O (ab O cD O Z3 O O) λa h=>s1 h O (l1 H 0 A3) λa h=>sB h g O (aD O O) λb6 b7 g a h=>cN k h [0,3,4,5,11] O5 λh=>?_
 refine cI h g O (λao g=>?_) λao g=>?_
 refine rg λK k=>ae 1 h O λa h=>s1 h O (ab O cD O Z9 O O) λa h=>s1 h O (l1 H 0 A9) λa h=>?_
 obtain⟨bb,f16,g⟩:=bo g
 refine st2 h O O O (uf [_] y_ O O (iX f16 H.zin F lp0)) ?_
 rintro v_ w ⟨a1,rfl,f,X⟩ a h
 obtain⟨Z,W,b0,H⟩:=H.aP X
 have J:=J.sub W
 have F:=W _ _ F
 have f:=f.sub b0
 refine ae 3 h O λa h=>zA h H iS aA (λx=>[_,_,_,x]) λa bk w X H h=>?_
 refine ap h H 3 O O O aL aA O O (by obtain⟨_,_,_,e_⟩:=(f).form;subst e_;rfl) (by simp) aA rfl (hl':=O4) rfl λw H=>?_
 refine ae 1 h O λa h=>cN k h [3,4,5,7,8] O5 λh=>?_
 refine rg λK k=>ae 1 h O λa h=>cz k<|cI h g O (λb1 g=>?_) λb1 g=>?_
 refine ah<|s1 h O (lA H 3 bQ aL aA) λa h=>ap h H 0 O O O aL aA O O (by obtain⟨_,_,_,e_⟩:=(f).form;subst e_;rfl) (by simp) aA rfl (hl':=O4) rfl λw H=>?_
 refine am ?_
 exact iP ⟨g,h.to,(H.cT 3 O),f,F⟩
 exact ag (iP ⟨g,h.to,(H.cT 3 O),J,F⟩)
 exact ag (iP ⟨g,h.to,H,J,F⟩)
theorem bO{x0:Rn}{J:V}{f:Gt}{w0:World}(W:aK x0 J=some f){Z:FZ}(hZ:Z.inn w0){g u F:Nat}(G:Z g=some (aB [.iface 36 (pt u),I x0.c.s,I x0.c.c,I x0.c.r,.map (some F)] 74)) (a1:Z u=some (aB ((x0.p:List V).flatMap vL) 54)) (lp0:x0.p.length=128):Calls prog 43 [(pt g),(vA J)].toArray w0 (bj λv w=>v=.agg #[I f.v.k,I f.v.n,S f.v.s,I f.c.s,I f.c.c,I f.c.r]/\Ext w0 w):=by
 refine o6 hZ func43 [0,1] O2 λQ a Zi E H h Y=>?_
 try rw[<-E]at Y
 clear E
 unfold aK at W
 refine rg λK k=>aZ h H O O3 O O λa p1 w X H h=>?_
 have H:HZ w0 _ _ [_] _:=H
 refine zA h H td O6 (λx=>[_,x]) λa p2 w X H h=>?_
 refine cz k<|nV 6 h λK k=>?_
 refine F1 O (λw X=>have H:=H.ext X;lA H 0 aQ aq O3) ?_
 refine bN 1 O ?_
 refine F1 O (λw X=>ax O) ?_
 refine F1 O (λw X=>ab O underlying74 O dm O O) ?_
 refine F1 O (λw X=>have H:=H.ext X;dL O3 O iT dm (H.zin _ _ G) O O) ?_
 refine F1 O (λw X=>aS BS O2 O6 O O) ?_
 refine fE [4,10] O2 H λa w X H h=>?_
 refine zS h H 1 eA O6 O6 O2 λw H=>?_
 refine cz k ?_
 cases W
 refine r1 Y h O (aO H 1 j2 eA O6) ⟨O,H.out⟩
theorem kg{x0:Rn}{Y:C}{m0:List (C × Bool)}{f:(Gt) × List (C × Bool)}{w0:World}(F:cU x0 Y m0=some f){Z:FZ}(hZ:Z.inn w0){G J g:Nat}(W:Z G=some (aB [.iface 36 (pt J),I x0.c.s,I x0.c.c,I x0.c.r,.map (some g)] 74)) (a1:Z J=some (aB ((x0.p:List V).flatMap vL) 54)) (lp0:x0.p.length=128) (a6:w0.heap[g]?=some (cJ cV Value.bool m0)) (a7:Z g=none){E:Bs}(eB:E=⟨w0,[g]⟩){Zi:FZ}(eZ:Zi=Z):Calls prog 45 [(pt G),(cA Y)].toArray w0 (bj λv w=>v=.agg #[I f.1.v.k,I f.1.v.n,S f.1.v.s,I f.1.c.s,I f.1.c.c,I f.1.c.r]/\w.heap[g]?=some (cJ cV Value.bool f.2)/\ExtB E w):=by
 have H:HZ E Zi Z [.blk g (cJ cV Value.bool m0)] w0:=by rw[eB,eZ];exact HZ.dH hZ a6 a7
 refine tf func45 [0,1] O2 λQ a h hr hn=>?_
 clear eB eZ
 have H:HZ E _ _ [_] _:=H
 unfold cU at F
 refine rg λK k=>aZ h H O O3 O O λa p1 w X H h=>?_
 have H:HZ E _ _ O2 _:=H
 refine zA h H td O6 (λx=>[_,_,x]) λa p2 w X H h=>?_
 refine cz k<|nV 5 h λK k=>?_
 refine bN 1 O ?_
 refine F1 O (λw X=>ax O) ?_
 refine F1 O (λw X=>ab O underlying74 O sizeOf72 O O) ?_
 refine F1 O (λw X=>have H:=H.ext X;aE O isAgg72 (H.zin _ _ W) O) ?_
 refine F1 O (λw X=>have H:=H.ext X;lA H 1 iT dm O3) ?_
 refine fE [0,3,4,10,11] O5 H λa w X H h=>?_
 obtain⟨a8,u,F⟩:=bv F
 refine uK (ev':=Value.bool) EI h H 0 O underlying72 O (k:=Y) O (v:=true) O (hl':=O3) O λw H=>?_
 rw[<-u]at H
 have H:HZ E _ _ O3 _:=H
 refine cz k<|D4 11 [8] h ?_
 refine bN 1 O ?_
 refine F1 O (λw X=>ax O) ?_
 refine F1 O (λw X=>ab O underlying74 O sizeOf70 O O) ?_
 refine F1 O (λw X=>have H:=H.ext X;aE O isAgg70 (H.zin _ _ W) O) ?_
 refine F1 O (λw X=>have H:=H.ext X;lA H 1 iT dm O3) ?_
 obtain⟨y4,f4,F⟩:=bo F
 refine f2 (V:=.tuple #[(vA y4.1),(cA y4.2)]) [16,17] O O O O (λw X=>have Hs:=ZB.of H.zin X;have H:=H.ext X;uf [_] xH O O (iM f4 (ZB.inn H.zin) (Hs _ _ a1) lp0)) ?_
 refine bN 3 O ?_
 refine gu eX O3 O O ?_
 refine gu sO O3 O O ?_
 refine wT ?_
 intro a w X hR hA
 obtain⟨_,⟨p5,rfl,ad⟩,_,⟨p6,rfl,af⟩,h⟩:=hR.out [4,5,6,19,20]
 have h:Fr 24 [(20,_),(19,_),(6,_),(5,_),(4,_)] a:=h
 have ao:=hA.zt h (s:=5) rfl rfl
 have b0:=hA.zt h (s:=6) rfl rfl
 have b1:=hA.ne' h (s:=5) (t:=6) rfl rfl rfl rfl rfl
 have H:=H.rO X ad ao af b0 b1
 have H:HZ E _ _ O5 _:=H
 refine tS h H 3 aq O3 O3 O5 λw H=>?_
 refine tS h H 4 dm O3 O3 O5 λw H=>?_
 refine tE ?_
 refine rg λK k=>s1 h O (lA H 3 aQ aq O3) λa h=>s1 h O (lA H 4 iT dm O3) λa h=>s1 h O (aS BS O2 O6 O O) λa h=>zS h H 2 eA O6 O6 O5 λw H=>?_
 refine cN k h [4] [_] λh=>?_
 cases F
 refine r1 hr h O (aO H 2 j2 eA O6) ⟨O,H.hp.get 0 O,H.a_⟩
end Go.Proofs.YtnllbjchcfpmpaaGreatDoor
