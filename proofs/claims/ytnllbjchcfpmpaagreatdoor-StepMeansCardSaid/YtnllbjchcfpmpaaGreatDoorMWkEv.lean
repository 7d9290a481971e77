/- Joined texts. -/
import Derived.Test.YtnllbjchcfpmpaaGreatDoorMWkR
set_option linter.all false
namespace Go.Proofs.YtnllbjchcfpmpaaGreatDoor
open Go.Stp Go.RowKit Go.ValP Go.Sp _root_.Go.Proofs.Tryz
set_option maxRecDepth 100000
theorem fy{x0:Nd}{x1:C}{x2:List V}{W:Rs}{w0:World}(hS:dV x0 x1 x2=some W){Z:FZ}(hZ:Z.inn w0){ao:Value}(a1:bi Z ao aj x0.l){b2:Nat}(a6:Z b2=some (aB ((x2:List V).flatMap vL) 54)) (ch:x2.length=128) (hG:GW w0):Calls prog 7 [(nA x0 ao),(cA x1),.iface 36 (pt b2)].toArray w0 (bj λv w=>∃u1,v=.agg #[I W.v.k,I W.v.n,S W.v.s,I W.c.s,I W.c.c,I W.c.r,u1]/\bx (ZB Z0 w0.heap.size w) u1 3 cL W.l/\Ext w0 w):=by
 refine o6 hZ func7 [0,1,2] O3 λQ a Zi bk H h hr=>?_
 try rw[<-bk]at hr
 clear bk
 unfold dV at hS
 refine rg λK k=>aZ h H O aA O O λa p1 w X H h=>?_
 have H:HZ w0 _ _ [_] _:=H
 refine aZ h H O O3 O O λa p2 w X H h=>?_
 have H:HZ w0 _ _ O2 _:=H
 refine zA h H zeroValue40 O7 (λx=>[_,_,x]) λa p3 w X H h=>?_
 refine cz k<|rg λK k=>ae 1 h O λa h=>s1 h O (lA H 1 iT dm O3) λa h=>xw cV Value.bool h H O λa p4 w X H h=>?_
 have H:HZ w0 _ _ O4 _:=H
 refine s1 h O (aS D' O3 O5 O O) λa h=>aZ h H O O5 O O λa p5 w X H h=>?_
 have H:HZ w0 _ _ O5 _:=H
 refine ae 1 h O λa h=>cN k h [3,6,7] O3 λh=>?_
 refine rg λK k=>ae 1 h O λa h=>s1 h O (lA H 0 bQ aL aA) λa h=>?_
 obtain⟨Z,F,H,g⟩:=H.i8 4 rfl rfl
 have a1:=a1.sub F
 have a6:=F _ _ a6
 have H:HZ w0 _ _ O5 _:=H
 obtain⟨E,f7,hS⟩:=bo hS
 refine st2 h O O O (dC call27 (n9 KK f7 H.zin a1 g a6 ch (H.hp.get 3 O) (H.dG 3 O _ O) O O (hG.ext H.out))) ?_
 rintro v_ w ⟨rfl,bq,X⟩ a h
 obtain⟨Z,F,da,H⟩:=H.b_ 3 rfl bq X (hl':=O5) rfl
 have a1:=a1.sub F
 have a6:=F _ _ a6
 have g:=F _ _ g
 have H:HZ w0 _ _ O5 _:=H
 refine zA h H td O6 (λx=>[_,_,_,_,_,x]) λa p9 w X H h=>?_
 refine zS h H 5 eA O6 O6 O6 λw H=>?_
 refine cN k h [6,7,8] O3 λh=>?_
 refine rg λK k=>s1 h O (ab O rA O aq O O) λa h=>s1 h O (lA H 5 aQ aq O3) λa h=>s1 h O (aS Eb [_] O7 O O) λa h=>zA h H zeroValue40 O7 (λx=>[_,_,_,_,_,_,x]) λa uM w X H h=>?_
 refine zS h H 6 sizeOf40 O7 O7 O7 λw H=>?_
 refine cz k ?_
 obtain⟨cp,bs,hS⟩:=bv hS
 refine dA (λa w=>∃(Z:FZ) (G:Int × Int × Int),cp G=some W/\Fr 48 [(6,(pt p3)),(7,(pt p5)),(9,(pt uM))] a/\HZ w0 Zi Z [.blk p1 (aB (nL x0 ao) 34),.blk p2 (aB (cL x1) 29),.blk p3 (aB [I 0,I 0,S [],I 0,I 0,I 0,.slice none 0 0] 40),.blk p4 (cJ cV Value.bool E.2),.row 0 1 (.slice none 0 0) 0 [],.blk p9 (aB (gL E.1) 76),.blk uM (aB [I E.1.v.k,I E.1.v.n,S E.1.v.s,I G.1,I G.2.1,I G.2.2,.slice none 0 0] 40)] w/\bi Z ao aj x0.l/\Z b2=some (aB ((x2:List V).flatMap vL) 54)/\Z p5=some (aB [.iface 36 (pt b2),I x1.s,I x1.c,I x1.r,.map (some p4)] 74)) ?_ ?_
 rintro a w ⟨Z,G,hS,h,H,a1,a6,g⟩
 subst bs
 refine cO h [6,7,9] O3 λh=>?_
 have H:=H.fc 29 3 rfl
 have H:HZ w0 _ _ O8 _:=H
 obtain⟨ct,hS⟩:=ck hS
 refine dA (λa w=>∃(Z:FZ) (u:Value) (Y:List (C)),Y.Perm (E.2.map (·.1))/\Fr 48 [(6,(pt p3)),(9,(pt uM))] a/\HZ w0 Zi Z [.blk p1 (aB (nL x0 ao) 34),.blk p2 (aB (cL x1) 29),.blk p3 (aB [I 0,I 0,S [],I 0,I 0,I 0,.slice none 0 0] 40),.blk p4 (cJ cV Value.bool E.2),.row 0 1 (.slice none 0 0) 0 [],.blk p9 (aB (gL E.1) 76),.blk uM (aB [I E.1.v.k,I E.1.v.n,S E.1.v.s,I G.1,I G.2.1,I G.2.2,u] 40),.row 29 3 u (Y:List (C)).length ((Y:List (C)).flatMap cL)] w) ?_ ?_
 rintro a w ⟨Z,u,Y,b3,h,H⟩
 have H:HZ w0 _ _ O8 _:=H
 refine rg λK k=>s1 h O (ab O zQ O sizeOf38 O O) λa h=>s1 h O (l1 H 6 isAgg38) λa h=>st2 h O O O (dC call28 (xU H 7 O b3 ct.1)) ?_
 rintro v_ w ⟨rfl,H⟩ a h
 have H:HZ w0 _ _ O8 _:=H
 refine cz k<|rg λK k=>s1 h O (lA H 6 isAgg40 sizeOf40 O7) λa h=>ap h H 2 O O O sizeOf40 O7 O O (by obtain⟨_,_,_,e_⟩:=(H.o1 (i:=7) (enc:=cL) rfl).form;subst e_;rfl) (by simp) O7 rfl (hl':=O8) rfl λw H=>?_
 refine cN k h [6] [_] λh=>?_
 cases hS
 refine r1 hr h O (aO H 2 isAgg40 sizeOf40 O7) ⟨_,O,(H.kH (i:=7) O),H.out⟩
 refine rg λK k=>ae 1 h O λa h=>s1 h O (ax O) λa h=>s1 h O (ab O underlying74 O sizeOf72 O O) λa h=>s1 h O (aE O isAgg72 (H.zin _ _ g) O) λa h=>ze h H 3 O underlying72 O O λa b0 w X H h=>?_
 have H:HZ w0 _ _ O9 _:=H
 refine cN k h [6,9,33] O3 λh=>?_
 refine lb<|ib (λc6 a w=>∃(Z:FZ) (u:Value) (f:List Nat),f.Nodup/\(∀i∈f,i<E.2.length)/\c6=C9 cV Value.bool E.2 f/\Fr 48 [(6,(pt p3)),(9,(pt uM)),(33,(pt b0))] a/\HZ w0 Zi Z [.blk p1 (aB (nL x0 ao) 34),.blk p2 (aB (cL x1) 29),.blk p3 (aB [I 0,I 0,S [],I 0,I 0,I 0,.slice none 0 0] 40),.blk p4 (cJ cV Value.bool E.2),.row 0 1 (.slice none 0 0) 0 [],.blk p9 (aB (gL E.1) 76),.blk uM (aB [I E.1.v.k,I E.1.v.n,S E.1.v.s,I G.1,I G.2.1,I G.2.2,u] 40),.row 29 3 u ((List.map (wW E.2) f):List (C)).length (((List.map (wW E.2) f):List (C)).flatMap cL),.blk b0 (.mapIter (some p4) E.2.length (f:List Nat).toArray E.2.length)] w) _ ⟨_,_,[],List.nodup_nil,(λ_ h_=>nomatch h_),O,h.to,H⟩ ?_
 rintro c6 a w ⟨Z,u,f,a8,ad,b7,h,H⟩
 have H:HZ w0 _ _ O9 _:=H
 refine rg λK k=>Bp h H 3 8 O O O O (λb1 a h=>?_) (λb6 a7 J af a w H h=>?_)
 refine s1 h O (jb O O) λa h=>cz k<|sq<|mF h O (λe_=>nomatch e_) (λ_=>?_)
 refine aR ?_
 exact⟨_,_,_,keys_perm a8 ad b1,h.to,H.cT 8 O⟩
 refine s1 h O (jb O O) λa h=>cN k h [6,9,33,35] O4 λh=>?_
 refine sq<|mF h O (λ_=>?_) (λe_=>nomatch e_)
 refine ag ?_
 have H:HZ w0 _ _ O9 _:=H
 refine lb<|rg λK k=>s1 h O (zy O (H.hp.get 3 O) (H.hp.get 8 O) J) λa h=>ae 1 h O λa h=>zA h H sO O3 (λx=>[_,_,_,_,_,_,_,_,_,x]) λa dd w X H h=>?_
 refine zS h H 9 dm O3 O3 zz λw H=>?_
 refine cN k h [6,9,10,33] O4 λh=>?_
 refine ah<|s1 h O (ab O zQ O sizeOf38 O O) λa h=>s1 h O (l1 H 6 isAgg38) λa h=>s1 h O (lA H 9 iT dm O3) λa h=>cZ (enc:=cL) ([a7.1]:List (C)) h H underlying38 dm sO O (zl:=[I 0,I 0,I 0]) kR (cb 1 3) [_] O3 O O O O O λa cc Z w F X H b4 h=>?_
 have cx:(List.map (wW E.2) f).length+[a7.1].length<=9223372036854775807/\((List.map (wW E.2) f).length+[a7.1].length)*24<=140737488355328:=by(have dj:=xj a8 ad J af;simp only[List.length_map,List.length_cons,List.length_nil];omega)
 obtain⟨cy,c7⟩:∃x_:List (C),x_=(List.map (wW E.2) f)++[a7.1]:=⟨_,rfl⟩
 refine cg (enc:=cL) (out:=(List.map (wW E.2) f)) (data:=[a7.1]) h H 7 O underlying38 D_ O O O b4 (λ_=>rfl) (λ_ _=>rfl) cx O λa b5 w H h=>?_
 rw[<-c7]at H
 have H:HZ w0 _ _ zz _:=H
 refine s1 h O (ab O zQ O sizeOf38 O O) λa h=>ap h H 6 O O O sizeOf38 [b5] (by rw[(H.o1 (i:=7) (enc:=cL) rfl).cells]) rfl (by obtain⟨_,_,_,e_⟩:=(H.o1 (i:=7) (enc:=cL) rfl).form;subst e_;rfl) (by simp) O7 rfl (hl':=zz) rfl λw H=>?_
 have bb:cy=List.map (wW E.2) (f++[b6]):=by rw[c7,List.map_append,List.map_cons,List.map_nil,zH J]
 rw[bb]at H
 refine am ?_
 exact⟨_,b7▸xo J af,_,_,f++[b6],vo a8 af,vM ad J,O,h.to,H.cT 9 O⟩
 refine rg λK k=>s1 h O (ab O rA O aq O O) λa h=>s1 h O (ab O cB O Z3 O O) λa h=>s1 h O (l1 H 5 A3) λa h=>sB h hS O (aD O O) λdn dv hS a h=>cN k h [6,7,8,9,25] O5 λh=>?_
 refine cI h hS O (λc8 hS=>?_) λc8 hS=>?_
 refine ah<|s1 h O (ab O rA O dm O O) λa h=>s1 h O (lA H 5 iT dm O3) λa h=>s1 h O (ab O zQ O dm O O) λa h=>zS h H 6 dm O3 O7 O7 λw H=>?_
 refine am ?_
 exact bp ⟨hS,h.to,H,a1,a6,g⟩
 exact ag (bp ⟨hS,h.to,H,a1,a6,g⟩)
end Go.Proofs.YtnllbjchcfpmpaaGreatDoor
