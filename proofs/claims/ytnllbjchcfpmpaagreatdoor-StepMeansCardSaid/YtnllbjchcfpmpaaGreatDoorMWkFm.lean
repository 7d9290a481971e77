/- Joined texts. -/
import Derived.Test.YtnllbjchcfpmpaaGreatDoorMWkR
set_option linter.all false
namespace Go.Proofs.YtnllbjchcfpmpaaGreatDoor
open Go.Stp Go.RowKit Go.ValP Go.Sp _root_.Go.Proofs.Tryz
set_option maxRecDepth 100000
set_option maxHeartbeats 2000000
theorem iF{x0 x1:Int}{g:Rf}{w0:World}(f:c_ x0 x1=some g):Calls prog 20 [I x0,I x1].toArray w0 (bj λv w=>v=.agg #[I g.c.s,I g.c.c,I g.c.r,.bool g.ac,.bool g.ar]/\Ext w0 w):=by
 refine en func20 [0,1] O2 λQ a Zi Z J H h hr=>?_
 clear J
 unfold c_ at f
 refine rg λK k=>zA h H AK O5 (λx=>[x]) λa p1 w X H h=>?_
 refine cz k<|rg λK k=>ae 1 h O λa h=>sI h f O (dN O O) λz2 e2 f a h=>sB h f O (aD O O) λz3 e3 f a h=>ae 1 h O λa h=>sI h f O (dN O O) λz4 e4 f a h=>sB h f O (aD O O) λz5 e5 f a h=>ae 1 h O λa h=>ai h O O (gT O) O O (λE=>an O) λa h=>?_
 obtain⟨z6,e6,f⟩:=bv f
 refine ai h O O (gT O) O O (λE=>vB e6 (aD (eg E O) O)) λa h=>?_
 refine sB h f O (bK O O) λz7 e7 f a h=>s1 h O (aS wN O2 O5 O O) λa h=>zA h H AK O5 (λx=>[_,x]) λa p8 w X H h=>?_
 refine zS h H 1 iR O5 O5 O2 λw H=>?_
 refine cN k h [0,1,4,5] O4 λh=>?_
 refine rg λK k=>ae 1 h O λa h=>sI h f O (dN O O) λz9 e9 f a h=>ae 1 h O λa h=>sI h f O (cm O O (by decide)) λa6 a7 f a h=>sI h f rfl (dN rfl rfl) λW a8 f a h=>s1 h rfl (ab rfl lF rfl dm rfl rfl) λa h=>s1 h rfl (ab rfl gH rfl Z3 rfl rfl) λa h=>zS h H 1 Z3 [_] O5 O2 λw H=>?_
 refine s1 h O (ab O lF O dm O O) λa h=>s1 h O (ab O gH O Z3 O O) λa h=>zS h H 1 Z3 [_] O5 O2 λw H=>?_
 refine cN k h [0,1,4,5] O4 λh=>?_
 obtain⟨Y,F,f⟩:=bv f
 refine dA (λa w=>∃(Z:FZ) (u:Int),Y u=some g/\Fr 35 [(4,(pt p1)),(5,(pt p8))] a/\HZ w0 Zi Z [.blk p1 (aB [I 0,I 0,I 0,.bool false,.bool false] 31),.blk p8 (aB [I u,I z9,I W,.bool z3,.bool z7] 31)] w) ?_ ?_
 rintro a w ⟨Z,u,f,h,H⟩
 subst F
 refine rg λK k=>s1 h O (lA H 1 mP iR O5) λa h=>zS h H 0 iR O5 O5 O2 λw H=>?_
 refine cz k ?_
 cases f
 refine r1 hr h O (aO H 0 mP iR O5) ⟨O,H.out⟩
 refine rg λK k=>ae 1 h O λa h=>sB h f O (aD O O) λad af f a h=>ae 1 h O λa h=>ai h O O (gT O) O O (λE=>an O) λa h=>?_
 obtain⟨ao,a1,f⟩:=bv f
 refine ai h O O (gT O) O O (λE=>vB a1 (dS (eg E O) O)) λa h=>?_
 refine sB h f O (bK O O) λb0 b1 f a h=>cN k h [4,5,31] O3 λh=>?_
 refine cI h f O (λG f=>?_) λG f=>?_
 refine ah<|s1 h O (ab O lF O dm O O) λa h=>s1 h O (ab O gH O Z3 O O) λa h=>zS h H 1 Z3 [_] O5 O2 λw H=>?_
 refine am ?_
 exact bp ⟨f,h.to,H⟩
 exact ag (bp ⟨f,h.to,H⟩)
theorem gJ{rec:(List Int)->Int->Option ((Nd) × (List Int))}(dj:∀{x0:List Int}{x1:Int}{G:(Nd) × (List Int)}{w0:World}(f:rec x0 x1=some G){Z:FZ}(hZ:Z.inn w0){af:Nat}{e7:Value}(e8:bx Z e7 1 (eI .u8) x0) (fs:w0.heap[af]?=some (aB [e7] 23)) (hy:Z af=none){B0:Bs}(eB:B0=⟨w0,[af]⟩){Zi:FZ}(eZ:Zi=Z) (hG:GW w0),Calls prog 5 [(pt af),I x1].toArray w0 (bj λv w=>∃u1,v=.agg #[I G.1.k,I G.1.op,I G.1.v.k,I G.1.v.n,S G.1.v.s,I G.1.a.c.s,I G.1.a.c.c,I G.1.a.c.r,.bool G.1.a.ac,.bool G.1.a.ar,I G.1.b.c.s,I G.1.b.c.c,I G.1.b.c.r,.bool G.1.b.ac,.bool G.1.b.ar,S G.1.nm,u1]/\bi (ZB Zi w0.heap.size w) u1 aj G.1.l/\(∃ej,w.heap[af]?=some (aB [ej] 23)/\bx (ZB Zi w0.heap.size w) ej 1 (eI .u8) G.2)/\ExtB B0 w)){x0:List Int}{x1:Int}{G:(Nd) × (List Int)}{w0:World}(f:bU rec x0 x1=some G){Z:FZ}(hZ:Z.inn w0){af:Nat}{e7:Value}(e8:bx Z e7 1 (eI .u8) x0) (fs:w0.heap[af]?=some (aB [e7] 23)) (hy:Z af=none){B0:Bs}(eB:B0=⟨w0,[af]⟩){Zi:FZ}(eZ:Zi=Z) (hG:GW w0):Calls prog 5 [(pt af),I x1].toArray w0 (bj λv w=>∃u1,v=.agg #[I G.1.k,I G.1.op,I G.1.v.k,I G.1.v.n,S G.1.v.s,I G.1.a.c.s,I G.1.a.c.c,I G.1.a.c.r,.bool G.1.a.ac,.bool G.1.a.ar,I G.1.b.c.s,I G.1.b.c.c,I G.1.b.c.r,.bool G.1.b.ac,.bool G.1.b.ar,S G.1.nm,u1]/\bi (ZB Zi w0.heap.size w) u1 aj G.1.l/\(∃ej,w.heap[af]?=some (aB [ej] 23)/\bx (ZB Zi w0.heap.size w) ej 1 (eI .u8) G.2)/\ExtB B0 w):=by
 have H:HZ B0 Zi Z [.blk af (aB [e7] 23)] w0:=by rw[eB,eZ];exact HZ.dH hZ fs hy
 refine tf func5 [0,1] O2 λQ a h hr hn=>?_
 have ea:∀w,ExtB B0 w->GW w:=λw X=>hG.Ev e8.form fs eB X
 clear eZ
 have H:HZ B0 _ _ [_] _:=H
 unfold bU at f
 refine rg λK k=>zA h H iS aA (λx=>[_,x]) λa p1 w X H h=>?_
 refine cz k<|rg λK k=>ae 1 h O λa h=>cz k ?_
 obtain⟨J3,l2,f⟩:=bv f
 refine dA (λa w=>∃(Z:FZ) (s3:Int × (List (Int))) (b0:Value),J3 s3=some G/\Fr 177 [(0,(pt af)),(1,I x1),(4,(pt p1)),(5,I s3.1)] a/\HZ B0 Zi Z [.blk af (aB [b0] 23),.blk p1 (aB [I 0,I 0,I 0,I 0,S [],I 0,I 0,I 0,.bool false,.bool false,I 0,I 0,I 0,.bool false,.bool false,S [],.slice none 0 0] 34)] w/\bx Z b0 1 (eI .u8) s3.2) ?_ ?_
 rintro a w ⟨Z,s3,b0,f,h,H,g⟩
 subst l2
 refine rg λK k=>ae 1 h O λa h=>sI h f O (iy O O (by decide)) λz5 e5 f a h=>ae 1 h rfl λa h=>cz k ?_
 obtain⟨J7,l3,f⟩:=bv f
 refine dA (λa w=>∃(Z:FZ) (s7:Int),J7 s7=some G/\Fr 177 [(0,(pt af)),(1,I x1),(4,(pt p1)),(5,I s3.1),(6,I s7)] a/\HZ B0 Zi Z [.blk af (aB [b0] 23),.blk p1 (aB [I 0,I 0,I 0,I 0,S [],I 0,I 0,I 0,.bool false,.bool false,I 0,I 0,I 0,.bool false,.bool false,S [],.slice none 0 0] 34)] w/\bx Z b0 1 (eI .u8) s3.2) ?_ ?_
 rintro a w ⟨Z,s7,f,h,H,g⟩
 subst l3
 refine sb ?_
 refine rg λK k=>ae 1 h O λa h=>sB h f O (bn O O) λz9 e9 f a h=>ae 1 h O λa h=>cz k<|cI h f O (λhA f=>?_) λhA f=>?_
 refine rg λK k=>ae 1 h O λa h=>sI h f O (cm O O (by decide)) λrq rr f a h=>sI h f rfl (dB rfl rfl) λrs ru f a h=>sC h H f rfl (λhB f13=>dC call14 (bH f13 :)) λhB f w X H a h=>?_
 obtain⟨s0,f14,f⟩:=bo f
 refine st2 h O O O (dC call15 (aX (x0:=hB) f14)) ?_
 rintro v_ w ⟨ho,rfl,bb,X⟩ a h
 obtain⟨Z,u,F,H⟩:=H.aP X
 have g:=g.sub u
 have bb:=bb.sub (ZB.empty.trans F)
 refine ap h H 1 O O O aL aA O O (by obtain⟨_,_,_,e_⟩:=(bb).form;subst e_;rfl) (by simp) aA rfl (hl':=O2) rfl λw H=>?_
 refine cN k h [4] [_] λh=>?_
 cases f
 refine r1 hr h O (aO H 1 bQ aL aA) ⟨_,O,bb.sub (H.bD eB 0 O),⟨_,H.hp.get 0 O,g.sub (H.bD eB 0 O)⟩,H.a_⟩
 refine rg λK k=>ae 1 h O λa h=>sB h f O (aD O O) λs4 s5 f a h=>ae 1 h O λa h=>cN k h [0,1,4,5,6,50] O6 λh=>?_
 refine cI h f O (λhD f=>?_) λhD f=>?_
 refine rg λK k=>sC h H f O (λhE f18=>dC call16 (bI f18 :)) λhE f w X H a h=>?_
 obtain⟨hF,f19,f⟩:=bo f
 refine st2 h O O O (dC call15 (aX (x0:=hE) f19)) ?_
 rintro v_ w ⟨eb,rfl,J,X⟩ a h
 obtain⟨Z,u,F,H⟩:=H.aP X
 have g:=g.sub u
 have J:=J.sub (ZB.empty.trans F)
 refine ae 1 h O λa h=>sI h f O (dN O O) λs6 s8 f a h=>sB h f O (aD O O) λs9 sc f a h=>sC h H f O (λhI f23=>dC call17 (bh f23 :)) λhI f w X H a h=>?_
 obtain⟨hJ,f24,f⟩:=bo f
 refine st2 h O O O (dC call15 (aX (x0:=hI) f24)) ?_
 rintro v_ w ⟨ec,rfl,Y,X⟩ a h
 obtain⟨Z,u,F,H⟩:=H.aP X
 have g:=g.sub u
 have J:=J.sub u
 have Y:=Y.sub (ZB.empty.trans F)
 refine ae 1 h O λa h=>sI h f O (cm O O (by decide)) λsi sj f a h=>sI h f rfl (iy rfl rfl (by decide)) λsk sl f a h=>sI h f rfl (aw rfl rfl) λsn sp f a h=>sC h H f rfl (λhK f29=>dC call18 (az f29 :)) λhK f w X H a h=>?_
 obtain⟨hL,f30,f⟩:=bo f
 refine st2 h O O O (dC call15 (aX (x0:=hK) f30)) ?_
 rintro v_ w ⟨ed,rfl,a1,X⟩ a h
 obtain⟨Z,u,F,H⟩:=H.aP X
 have g:=g.sub u
 have J:=J.sub u
 have Y:=Y.sub u
 have a1:=a1.sub (ZB.empty.trans F)
 refine s1 h O (aS my [] O3 O O) λa h=>?_
 obtain⟨hN,f32,f⟩:=bo f
 refine st2 h O O O (dC call15 (aX (x0:=(⟨0,0,[]⟩:V)) f32)) ?_
 rintro v_ w ⟨ef,rfl,ao,X⟩ a h
 obtain⟨Z,u,F,H⟩:=H.aP X
 have g:=g.sub u
 have J:=J.sub u
 have Y:=Y.sub u
 have a1:=a1.sub u
 have ao:=ao.sub (ZB.empty.trans F)
 refine cZ (enc:=(Subtype.val (p:=λl:List Value=>l.length=17))) ([⟨(nL hF eb),O⟩,⟨(nL hJ ec),O⟩,⟨(nL hL ed),O⟩,⟨(nL hN ef),O⟩]:List (Cl 17)) h H dZ aL iS O (zl:=[I 0,I 0,I 0,I 0,S [],I 0,I 0,I 0,.bool false,.bool false,I 0,I 0,I 0,.bool false,.bool false,S [],.slice none 0 0,I 0,I 0,I 0,I 0,S [],I 0,I 0,I 0,.bool false,.bool false,I 0,I 0,I 0,.bool false,.bool false,S [],.slice none 0 0,I 0,I 0,I 0,I 0,S [],I 0,I 0,I 0,.bool false,.bool false,I 0,I 0,I 0,.bool false,.bool false,S [],.slice none 0 0,I 0,I 0,I 0,I 0,S [],I 0,I 0,I 0,.bool false,.bool false,I 0,I 0,I 0,.bool false,.bool false,S [],.slice none 0 0]) kR (cb 4 17) O4 E4 O O O O O λa eu Z w u X H cy h=>?_
 have g:=g.sub u
 have J:=J.sub u
 have Y:=Y.sub u
 have a1:=a1.sub u
 have ao:=ao.sub u
 have cy:bi Z eu aj [hF,hJ,hL,hN]:=⟨_,cy,⟨fw ⟨_,rfl,J⟩,fw ⟨_,rfl,Y⟩,fw ⟨_,rfl,a1⟩,fw ⟨_,rfl,ao⟩,trivial⟩⟩
 refine ae 1 h O λa h=>sI h f O (cm O O (by decide)) λmb sv f a h=>?_
 obtain⟨hP,f⟩:=ck f
 obtain⟨sF,ml,f⟩:=bv f
 have e3:=cy.gel ⟨_,aC⟩ mb
 rw[<-ml]at e3
 obtain⟨kz,mm,gb,gf,e3⟩:=e3
 obtain⟨ht,ew,cx⟩:=bd e3
 refine bJ h dZ aL O O (gb.at H.zin) hP.1 (gf hP) ew O λa sT mn h=>?_
 refine s1 h O (ay aA O mn bQ aL O O) λa h=>ap h H 1 O O O aL aA O O (by obtain⟨_,_,_,e_⟩:=(cx).form;subst e_;rfl) (by simp) aA rfl (hl':=O2) rfl λw H=>?_
 refine cN k h [4] [_] λh=>?_
 cases f
 refine r1 hr h O (aO H 1 bQ aL aA) ⟨_,O,cx.sub (H.bD eB 0 O),⟨_,H.hp.get 0 O,g.sub (H.bD eB 0 O)⟩,H.a_⟩
 refine rg λK k=>ae 1 h O λa h=>sB h f O (bn O O) λtc tk f a h=>ae 1 h O λa h=>cz k<|cI h f O (λhQ f=>?_) λhQ f=>?_
 refine rg λK k=>ae 1 h O λa h=>sI h f O (cm O O (by decide)) λtl tq f a h=>ae 1 h rfl λa h=>sC h H f rfl (λhR f42=>dC call20 (iF f42 :)) λhR f w X H a h=>?_
 obtain⟨ts,f43,f⟩:=bo f
 refine st2 h O O O (dC call19 (m8 (x0:=hR) f43)) ?_
 rintro v_ w ⟨hv,rfl,bk,X⟩ a h
 obtain⟨Z,u,F,H⟩:=H.aP X
 have g:=g.sub u
 have bk:=bk.sub (ZB.empty.trans F)
 refine ap h H 1 O O O aL aA O O (by obtain⟨_,_,_,e_⟩:=(bk).form;subst e_;rfl) (by simp) aA rfl (hl':=O2) rfl λw H=>?_
 refine cN k h [4] [_] λh=>?_
 cases f
 refine r1 hr h O (aO H 1 bQ aL aA) ⟨_,O,bk.sub (H.bD eB 0 O),⟨_,H.hp.get 0 O,g.sub (H.bD eB 0 O)⟩,H.a_⟩
 refine rg λK k=>ae 1 h O λa h=>sB h f O (aD O O) λtt u0 f a h=>ae 1 h O λa h=>cN k h [0,1,4,5,6,81] O6 λh=>?_
 refine cI h f O (λhT f=>?_) λhT f=>?_
 refine rg λK k=>ae 1 h O λa h=>sI h f O (cm O O (by decide)) λu2 u3 f a h=>sC h H f rfl (λel f48=>dC call20 (iF f48 :)) λel f w X H a h=>?_
 refine zA h H AK O5 (λx=>[_,_,x]) λa u4 w X H h=>?_
 refine zS h H 2 iR O5 O5 O3 λw H=>?_
 refine cN k h [4,5,7] O3 λh=>?_
 refine rg λK k=>s1 h O (lA H 2 mP iR O5) λa h=>zA h H AK O5 (λx=>[_,_,_,x]) λa u5 w X H h=>?_
 refine zS h H 3 iR O5 O5 O4 λw H=>?_
 refine cz k<|lt [3] h H ?_
 refine L1 O (λw X=>ab O lF O dm O O) ?_
 refine L1 O (λw X=>ab O gH O Z3 O O) ?_
 refine L1 O (λw X=>have H:=X;l1 H 2 A3) ?_
 refine xK 1 O ?_
 refine lI f O (λw X=>dN O O) λu9 ua f=>?_
 refine lI f O (λw X=>aw O O) λmo uc f=>?_
 refine L1 O (λw X=>ab O lF O dm O O) ?_
 refine L1 O (λw X=>ab O gH O Z3 O O) ?_
 refine L1 O (λw X=>have H:=X;l1 H 2 A3) ?_
 refine xK 1 O ?_
 refine lI f O (λw X=>cm O O (by decide)) λum v7 f=>?_
 refine lI f O (λw X=>iy O O (by decide)) λv8 vb f=>?_
 refine lI f O (λw X=>aw O O) λmu vc f=>?_
 refine L1 O (λw X=>ab O lF O dm O O) ?_
 refine L1 O (λw X=>ab O gH O Z3 O O) ?_
 refine LZ 3 Z3 [_] O5 O4 ?_
 refine L1 O (λw X=>ab O lF O dm O O) ?_
 refine L1 O (λw X=>ab O gH O Z3 O O) ?_
 refine LZ 3 Z3 [_] O5 O4 ?_
 refine lE [4,7,8] O3 λa w H h=>?_
 have H:HZ B0 _ _ O4 _:=H
 refine rg λK k=>s1 h O (lA H 2 mP iR O5) λa h=>s1 h O (lA H 3 mP iR O5) λa h=>?_
 obtain⟨vk,f56,f⟩:=bo f
 refine st2 h O O O (dC call21 (ny (x0:=el) (x1:=(⟨(⟨el.c.s,mo,mu⟩:C),el.ac,el.ar⟩:Rf)) f56)) ?_
 rintro v_ w ⟨gg,rfl,b1,X⟩ a h
 obtain⟨Z,u,F,H⟩:=H.aP X
 have g:=g.sub u
 have b1:=b1.sub (ZB.empty.trans F)
 refine ap h H 1 O O O aL aA O O (by obtain⟨_,_,_,e_⟩:=(b1).form;subst e_;rfl) (by simp) aA rfl (hl':=O4) rfl λw H=>?_
 refine cN k h [4] [_] λh=>?_
 cases f
 refine r1 hr h O (aO H 1 bQ aL aA) ⟨_,O,b1.sub (H.bD eB 0 O),⟨_,H.hp.get 0 O,g.sub (H.bD eB 0 O)⟩,H.a_⟩
 refine rg λK k=>ae 1 h O λa h=>sB h f O (aD O O) λvn vs f a h=>ae 1 h O λa h=>cz k<|cI h f O (λhU f=>?_) λhU f=>?_
 refine rg λK k=>ae 2 h O λa h=>sI h f O (bf O O) λw2 w3 f a h=>?_
 obtain⟨mv,f61,f⟩:=bo f
 refine st2 h O O O (dC call5 (dj f61 H.zin g (H.hp.get 0 O) (H.dG 0 O _ O) O O (ea _ H.a_))) ?_
 rintro v_ w ⟨gl,rfl,a7,⟨n0,gm,c8⟩,X⟩ a h
 obtain⟨Z,u,F,H⟩:=H.b_ 0 rfl gm X (hl':=O2) rfl
 have a7:=a7.sub F
 have c8:=c8.sub F
 have H:HZ B0 _ _ O2 _:=H
 obtain⟨w4,f63,f⟩:=bo f
 refine st2 h O O O (dC call22 (ii (x0:=(5:Int)) (x1:=mv.1) f63 H.zin a7)) ?_
 rintro v_ w ⟨h0,rfl,b2,X⟩ a h
 obtain⟨Z,u,F,H⟩:=H.aP X
 have a7:=a7.sub u
 have c8:=c8.sub u
 have b2:=b2.sub F
 refine ap h H 1 O O O aL aA O O (by obtain⟨_,_,_,e_⟩:=(b2).form;subst e_;rfl) (by simp) aA rfl (hl':=O2) rfl λw H=>?_
 refine cN k h [4] [_] λh=>?_
 cases f
 refine r1 hr h O (aO H 1 bQ aL aA) ⟨_,O,b2.sub (H.bD eB 0 O),⟨_,H.hp.get 0 O,c8.sub (H.bD eB 0 O)⟩,H.a_⟩
 refine rg λK k=>ae 1 h O λa h=>sB h f O (aD O O) λw5 w6 f a h=>ae 1 h O λa h=>cN k h [0,1,4,5,6,116] O6 λh=>?_
 refine cI h f O (λhV f=>?_) λhV f=>?_
 refine rg λK k=>ae 2 h O λa h=>sI h f O (bf O O) λw7 w8 f a h=>?_
 obtain⟨n2,f68,f⟩:=bo f
 refine st2 h O O O (dC call5 (dj f68 H.zin g (H.hp.get 0 O) (H.dG 0 O _ O) O O (ea _ H.a_))) ?_
 rintro v_ w ⟨h2,rfl,a8,⟨n5,h3,cc⟩,X⟩ a h
 obtain⟨Z,u,F,H⟩:=H.b_ 0 rfl h3 X (hl':=O2) rfl
 have a8:=a8.sub F
 have cc:=cc.sub F
 have H:HZ B0 _ _ O2 _:=H
 obtain⟨w9,f70,f⟩:=bo f
 refine st2 h O O O (dC call22 (ii (x0:=(6:Int)) (x1:=n2.1) f70 H.zin a8)) ?_
 rintro v_ w ⟨h4,rfl,b3,X⟩ a h
 obtain⟨Z,u,F,H⟩:=H.aP X
 have a8:=a8.sub u
 have cc:=cc.sub u
 have b3:=b3.sub F
 refine ap h H 1 O O O aL aA O O (by obtain⟨_,_,_,e_⟩:=(b3).form;subst e_;rfl) (by simp) aA rfl (hl':=O2) rfl λw H=>?_
 refine cN k h [4] [_] λh=>?_
 cases f
 refine r1 hr h O (aO H 1 bQ aL aA) ⟨_,O,b3.sub (H.bD eB 0 O),⟨_,H.hp.get 0 O,cc.sub (H.bD eB 0 O)⟩,H.a_⟩
 refine rg λK k=>ae 1 h O λa h=>sB h f O (bn O O) λwb x3 f a h=>ae 1 h O λa h=>cN k h [0,1,4,5,124] O5 λh=>?_
 refine cI h f O (λhW f=>?_) λhW f=>?_
 refine rg λK k=>ae 2 h O λa h=>sI h f O (bf O O) λx4 y0 f a h=>?_
 obtain⟨na,f75,f⟩:=bo f
 refine st2 h O O O (dC call5 (dj f75 H.zin g (H.hp.get 0 O) (H.dG 0 O _ O) O O (ea _ H.a_))) ?_
 rintro v_ w ⟨h5,rfl,W,⟨nb,h6,dz⟩,X⟩ a h
 obtain⟨Z,u,F,H⟩:=H.b_ 0 rfl h6 X (hl':=O2) rfl
 have W:=W.sub F
 have dz:=dz.sub F
 have H:HZ B0 _ _ O2 _:=H
 refine zA h H iS aA (λx=>[_,_,x]) λa y2 w X H h=>?_
 refine ap h H 2 O O O aL aA O O (by obtain⟨_,_,_,e_⟩:=(W).form;subst e_;rfl) (by simp) aA rfl (hl':=O3) rfl λw H=>?_
 refine cN k h [0,1,4,5,9] O5 λh=>?_
 refine wJ 0 8 H (λK k w H=>?_)
 refine cl 0 [1,2,8,9] h O (λw H=>an O) kR O (λa h=>?_)
 obtain⟨y5,nk,f⟩:=bv f
 refine cl 1 [2,8,9] h O (λw H=>vI nk (iy O O (by decide))) kR rfl (λa h=>?_)
 obtain⟨nl,nn,f⟩:=bv f
 refine cl 2 [8,9] h O (λw H=>vI nn (aw O O)) kR O (λa h=>?_)
 refine cl 3 [8,9] h O (λw H=>lA H 2 bQ aL aA) kR O (λa h=>?_)
 refine cl 4 [7,8,9] h O (λw H=>an O) kR O (λa h=>?_)
 refine cl 5 [6,7,8,9] h O (λw H=>an O) kR O (λa h=>?_)
 obtain⟨y7,nx,f⟩:=bv f
 refine cl 6 [7,8,9] h O (λw H=>vI nx (bf O O)) kR O (λa h=>?_)
 obtain⟨o0,f81,f⟩:=bo f
 have o2:=H.sub
 refine oI 7 h O kR (λ_=>H.jF 0) (dt.goes h (dC call5 (dj f81 H.zin dz (H.hp.get 0 O) (H.dG 0 O _ O) O O (ea _ H.a_)))) O ?_
 rintro v_ w a ⟨h7,rfl,ad,⟨o5,h8,ch⟩,X⟩ h
 obtain⟨Z,u,F,H⟩:=H.b_ 0 rfl h8 X (hl':=O3) rfl
 have o9:=u
 have W:=W.sub u
 have ad:=ad.sub F
 have ch:=ch.sub F
 have H:HZ B0 _ _ O3 _:=H
 obtain⟨y8,f83,f⟩:=bo f
 refine oI 8 h O kR (λ_=>(H.tJ o9 o2).jF 0) (dt.goes h (dC call23 (lG (x0:=nl) (x1:=na.1) (x2:=o0.1) f83 H.zin W ad))) O ?_
 rintro v_ w a ⟨h9,rfl,b4,X⟩ h
 obtain⟨Z,u,F,H⟩:=H.aP X
 have W:=W.sub u
 have ad:=ad.sub u
 have ch:=ch.sub u
 have b4:=b4.sub F
 refine pm 9 h O kR (λhq=>nomatch hq) (gD (ops:=#[]) (ap h H 1 O O O aL aA O O (by obtain⟨_,_,_,e_⟩:=(b4).form;subst e_;rfl) (by simp) aA rfl (hl':=O3) rfl λw H=>nR ⟨rfl,H⟩)) rfl ?_
 rintro _ w a H h
 have H:HZ B0 _ _ O3 _:=H
 refine pq (λhq=>nomatch hq) kR (k _ _ ?_)
 cases f
 refine r1 hr h O (aO H 1 bQ aL aA) ⟨_,O,b4.sub (H.bD eB 0 O),⟨_,H.hp.get 0 O,ch.sub (H.bD eB 0 O)⟩,H.a_⟩
 refine ag<|rg λK k=>ae 1 h O λa h=>sI h f O (cm O O (by decide)) λy9 ys f a h=>sI h f rfl (iy rfl rfl (by decide)) λyv z1 f a h=>sI h f rfl (aw rfl rfl) λz6 z7 f a h=>ae 1 h rfl λa h=>cN k h [0,1,4,10] O4 λh=>?_
 obtain⟨od,hX,f⟩:=bv f
 refine dA (λa w=>∃(Z:FZ) (e1:Int),od e1=some G/\Fr 177 [(0,(pt af)),(1,I x1),(4,(pt p1)),(10,I e1)] a/\HZ B0 Zi Z [.blk af (aB [b0] 23),.blk p1 (aB [I 0,I 0,I 0,I 0,S [],I 0,I 0,I 0,.bool false,.bool false,I 0,I 0,I 0,.bool false,.bool false,S [],.slice none 0 0] 34)] w/\bx Z b0 1 (eI .u8) s3.2) ?_ ?_
 rintro a w ⟨Z,e1,f,h,H,g⟩
 subst hX
 refine rg λK k=>ae 1 h O λa h=>cz k ?_
 have H:=H.fc 34 17 rfl
 have H:HZ B0 _ _ O3 _:=H
 have b6:EL aj Z ([]:List (Cl 17)) ([]:List (Nd)):=trivial
 obtain⟨oh,hY,f⟩:=bv f
 refine Bg (λa w=>∃(Z:FZ) (eo:(List (Int)) × (List (Nd))) (cp:Value) (ep:Value) (e4:List (Cl 17)),oh eo=some G/\Fr 177 [(4,(pt p1)),(10,I e1),(11,ep)] a/\HZ B0 Zi Z [.blk af (aB [cp] 23),.blk p1 (aB [I 0,I 0,I 0,I 0,S [],I 0,I 0,I 0,.bool false,.bool false,I 0,I 0,I 0,.bool false,.bool false,S [],.slice none 0 0] 34),.row 34 17 ep e4.length (e4.flatMap Subtype.val)] w/\bx Z cp 1 (eI .u8) eo.1/\EL aj Z e4 eo.2) ?_ ?_
 rintro a w ⟨Z,eo,cp,ep,e4,f,h,H,b7,b6⟩
 subst hY
 obtain⟨Z,u,H,da⟩:=H.mX (E:=aj) 2 rfl b6
 have b7:=b7.sub u
 have H:HZ B0 _ _ O3 _:=H
 refine rg λK k=>ae 2 h O λa h=>?_
 obtain⟨z8,f95,f⟩:=bo f
 refine st2 h O O O (dC call25 (mj (x0:=e1) (x1:=eo.2) f95 H.zin da)) ?_
 rintro v_ w ⟨ha,rfl,b5,X⟩ a h
 obtain⟨Z,u,F,H⟩:=H.aP X
 have b7:=b7.sub u
 have da:=da.sub u
 have b5:=b5.sub F
 refine ap h H 1 O O O aL aA O O (by obtain⟨_,_,_,e_⟩:=(b5).form;subst e_;rfl) (by simp) aA rfl (hl':=O3) rfl λw H=>?_
 refine cN k h [4] [_] λh=>?_
 cases f
 refine r1 hr h O (aO H 1 bQ aL aA) ⟨_,O,b5.sub (H.bD eB 0 O),⟨_,H.hp.get 0 O,b7.sub (H.bD eB 0 O)⟩,H.a_⟩
 obtain⟨p0,ih,f⟩:=bv f
 refine ib (λhb a w=>∃(Z:FZ) (er:(List (Int)) × (List (Nd))) (ct:Value) (e2:Value) (c6:List (Cl 17)),loopF p0 hb er=some G/\Fr 177 [(0,(pt af)),(1,I x1),(4,(pt p1)),(10,I e1),(11,e2)] a/\HZ B0 Zi Z [.blk af (aB [ct] 23),.blk p1 (aB [I 0,I 0,I 0,I 0,S [],I 0,I 0,I 0,.bool false,.bool false,I 0,I 0,I 0,.bool false,.bool false,S [],.slice none 0 0] 34),.row 34 17 e2 c6.length (c6.flatMap Subtype.val)] w/\bx Z ct 1 (eI .u8) er.1/\EL aj Z c6 er.2) KK ⟨_,_,_,_,_,f,h.to,H,g,b6⟩ ?_
 rintro hb a w ⟨Z,er,ct,e2,c6,f,h,H,dn,b6⟩
 obtain⟨hb,rfl,zo,jo,f⟩:=iJ ih f
 refine sq<|rg λK k=>ae 1 h O λa h=>s1 h O (cd dZ O (H.uT (i:=2) O b6) (ta _)) λa h=>sB h f O (bn O O) λp6 p7 f a h=>ae 1 h O λa h=>ai h O O (gT O) O O (λe0=>an O) λa h=>?_
 refine ai h O O (gT O) O O (λe0=>an O) λa h=>?_
 refine ai h O O (gT O) O O (λe0=>cd dZ (eg e0 O) (H.uT (i:=2) O b6) (ta _)) λa h=>?_
 obtain⟨k1,f103,f⟩:=bo f
 refine mh (T:=Ext) (V:=.bool k1) h O O (gT O) O O (Ext.refl _) (λe0=>fM O2 (fp (eg e0 O) (fp (eg e0 O) iH)) call24 (iZ (x0:=e1) (x1:=(er.2.length:Int)) (uL e0 f103) (ea _ H.a_))) λw X a h=>?_
 have H:=H.ext X
 obtain⟨p8,k2,f⟩:=bv f
 refine ai h O O (gT O) O O (λe0=>vB k2 (dI (eg e0 O))) λa h=>?_
 refine sB h f O (bK O O) λp9 pa f a h=>cN k h [0,1,4,10,11,166] O6 λh=>?_
 refine cI h f O (λhc f=>?_) λhc f=>?_
 refine ag<|lb<|ah<|ae 3 h O λa h=>sI h f O (bf O O) λpb pe f a h=>?_
 obtain⟨eF,f109,f⟩:=bo f
 refine st2 h O O O (dC call5 (dj f109 H.zin dn (H.hp.get 0 O) (H.dG 0 O _ O) O O (ea _ H.a_))) ?_
 rintro v_ w ⟨dv,rfl,a6,⟨l0,ey,bq⟩,X⟩ a h
 obtain⟨Z,u,F,H⟩:=H.b_ 0 rfl ey X (hl':=O3) rfl
 have b6:=b6.sub u
 have a6:=a6.sub F
 have bq:=bq.sub F
 have H:HZ B0 _ _ O3 _:=H
 refine cZ (enc:=(Subtype.val (p:=λl:List Value=>l.length=17))) ([⟨(nL eF.1 dv),O⟩]:List (Cl 17)) h H dZ aL iS O (zl:=[I 0,I 0,I 0,I 0,S [],I 0,I 0,I 0,.bool false,.bool false,I 0,I 0,I 0,.bool false,.bool false,S [],.slice none 0 0]) kR (cb 1 17) [_] aA O O O O O λa ei Z w u X H c7 h=>?_
 have b6:=b6.sub u
 have a6:=a6.sub u
 have bq:=bq.sub u
 have c7:bi Z ei aj [eF.1]:=⟨_,c7,⟨fw ⟨_,rfl,a6⟩,trivial⟩⟩
 obtain⟨k4,f⟩:=ck f
 obtain⟨k5,k6,f⟩:=bv f
 obtain⟨e6,ez,dd⟩:=id c7
 refine cg (enc:=(Subtype.val (p:=λl:List Value=>l.length=17))) (out:=c6) (data:=e6) h H 2 O dZ tW O O O ez (λc=>c.2) dd.one (Do b6.len dd.len k4) O λa hx w H h=>?_
 have b6:=EL.append b6 dd
 rw[<-k6]at b6
 have b6:EL aj Z (List.append (α:=Cl 17) c6 e6) k5:=b6
 have H:HZ B0 _ _ O3 _:=H
 refine ae 1 h O λa h=>am ?_
 exact fK (Af ⟨fq jo f,h.to,H,bq,b6⟩)
 exact aR (Af ⟨f,h.to,H,dn,b6⟩)
 refine rg λK k=>ae 1 h O λa h=>s1 h O (ax O) λa h=>s1 h O (l1 H 0 isAgg23) λa h=>s1 h O (bY C2 O (g.at H.zin)) λa h=>sB h f O (dS O O) λps q0 f a h=>cN k h [0,1,4,10,148] O5 λh=>?_
 refine cI h f O (λhf f=>?_) λhf f=>?_
 refine ah<|ae 1 h O λa h=>s1 h O (ax O) λa h=>s1 h O (l1 H 0 isAgg23) λa h=>?_
 obtain⟨eJ,f⟩:=ck f
 obtain⟨k7,k8,f⟩:=bv f
 refine bB h C2 Z5 O O (g.at H.zin) (λ_=>rfl) k7 eJ.1 (by rw[k8];exact ak eJ) rfl λa q3 k9 h=>?_
 refine s1 h O (al O k9 isAgg5 O) λa h=>sI h f O (db (by rw[U5];rfl) U3 rfl rfl) λq4 q5 f a h=>sI h f rfl (iy rfl rfl (by decide)) λq6 q7 f a h=>sI h f rfl (aw rfl rfl) λqa qb f a h=>ae 1 h rfl λa h=>am ?_
 exact bp ⟨f,h.to,H,g⟩
 exact ag (bp ⟨f,h.to,H,g⟩)
 refine rg λK k=>ae 1 h O λa h=>sB h f O (jX O O) λqc ql f a h=>ae 1 h O λa h=>ai h O O (gF O) O O (λe0=>an O) λa h=>?_
 refine ai h O O (gF O) O O (λe0=>ax (eg e0 O)) λa h=>?_
 refine ai h O O (gF O) O O (λe0=>aE (eg e0 O) isAgg23 (H.hp.get 0 O) O) λa h=>?_
 refine ai h O O (gF O) O O (λe0=>bY C2 (eg e0 O) (g.at H.zin)) λa h=>?_
 obtain⟨qm,kc,f⟩:=bv f
 refine ai h O O (gF O) O O (λe0=>vB kc (aD (eg e0 O) O)) λa h=>?_
 refine sB h f O (ca O O) λqs r4 f a h=>cN k h [0,1,4,5,6,39] O6 λh=>?_
 refine cI h f O (λhg f=>?_) λhg f=>?_
 refine ah<|ae 1 h O λa h=>sI h f O (iy O O (by decide)) λr5 r6 f a h=>ae 1 h rfl λa h=>am ?_
 exact bp ⟨f,h.to,H,g⟩
 exact ag (bp ⟨f,h.to,H,g⟩)
 refine rg λK k=>ae 1 h O λa h=>s1 h O (ax O) λa h=>s1 h O (l1 H 0 isAgg23) λa h=>s1 h O (bY C2 O (e8.at H.zin)) λa h=>sB h f O (dS O O) λra rb f a h=>cN k h [0,1,4,5,16] O5 λh=>?_
 refine cI h f O (λhj f=>?_) λhj f=>?_
 refine rg λK k=>ae 1 h O λa h=>s1 h O (ax O) λa h=>s1 h O (l1 H 0 isAgg23) λa h=>?_
 obtain⟨ff,f⟩:=ck f
 obtain⟨ki,kk,f⟩:=bv f
 refine bB h C2 Z5 O O (e8.at H.zin) (λ_=>rfl) ki ff.1 (by rw[kk];exact ak ff) rfl λa zs p2 h=>?_
 refine s1 h O (al O p2 isAgg5 O) λa h=>sI h f O (db (by rw[U5];rfl) U3 rfl rfl) λrh rl f a h=>ae 1 h rfl λa h=>cN k h [0,1,4,5] O4 λh=>?_
 refine ah<|ae 2 h O λa h=>s1 h O (ax O) λa h=>s1 h O (l1 H 0 isAgg23) λa h=>?_
 obtain⟨kx,f⟩:=ck f
 obtain⟨rm,ky,f⟩:=bv f
 refine jq (enc:=(eI .u8)) (sz:=1) (λ_=>rfl) h C2 Z5 O O e8 kx O λa et bs h=>?_
 rw[<-ky]at bs
 refine s1 h O (ax O) λa h=>ap h H 0 O O O sizeOf23 [et] (by rw[bs.cells]) rfl (by obtain⟨_,_,_,e_⟩:=(bs).form;subst e_;rfl) (by simp) [_] rfl (hl':=O2) rfl λw H=>?_
 refine am ?_
 exact iP ⟨f,h.to,H,bs⟩
 exact ag (iP ⟨f,h.to,H,e8⟩)
theorem ix(k:Nat):∀{x0:List Int}{x1:Int}{f:(Nd) × (List Int)}{w0:World}(F:b8 k x0 x1=some f){Z:FZ}(hZ:Z.inn w0){g:Nat}{u:Value}(J:bx Z u 1 (eI .u8) x0) (W:w0.heap[g]?=some (aB [u] 23)) (X:Z g=none){G:Bs}(eB:G=⟨w0,[g]⟩){Zi:FZ}(eZ:Zi=Z) (hG:GW w0),Calls prog 5 [(pt g),I x1].toArray w0 (bj λv w=>∃H,v=.agg #[I f.1.k,I f.1.op,I f.1.v.k,I f.1.v.n,S f.1.v.s,I f.1.a.c.s,I f.1.a.c.c,I f.1.a.c.r,.bool f.1.a.ac,.bool f.1.a.ar,I f.1.b.c.s,I f.1.b.c.c,I f.1.b.c.r,.bool f.1.b.ac,.bool f.1.b.ar,S f.1.nm,H]/\bi (ZB Zi w0.heap.size w) H aj f.1.l/\(∃E,w.heap[g]?=some (aB [E] 23)/\bx (ZB Zi w0.heap.size w) E 1 (eI .u8) f.2)/\ExtB G w):=by
 induction k with
 |zero=>intro x0 x1 f w0 F;exact nomatch (show(none:Option ((Nd) × (List Int)))=some f from F)
 |succ k Y=>exact @gJ (b8 k) @Y
end Go.Proofs.YtnllbjchcfpmpaaGreatDoor
