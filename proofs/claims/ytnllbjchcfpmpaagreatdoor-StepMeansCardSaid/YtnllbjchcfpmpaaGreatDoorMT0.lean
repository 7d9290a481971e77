/- Joined texts. -/
import Derived.LaidMore
import Derived.Lay
import Derived.Deep.DeepWitnessRowRef
import Derived.Lib.LaidU8
import Derived.Test.YtnllbjchcfpmpaaGreatDoorMFPa
set_option linter.all false
section
namespace Go.Proofs.YtnllbjchcfpmpaaGreatDoor
open Go.ChangeShapes Go.WideShapes Go.ChangeAt Go.RowKit Go.Stp Go.Deep
open Go.ChangeMaps (open_string shut_string)
noncomputable def world (os:Os):World:=World.laidAll Tryz.prog os Rows.stepMeansRow.laid
set_option maxRecDepth 100000
theorem xE(os:Os) (args:Array Value):laidMet Tryz.prog Rows.stepMeansRow.laid ((world os).forCall (λ_ _=>0) ⟨#[],args,[]⟩).memory:=
 laidMet_laidAll _ kR kR
theorem uP(os:Os) (args:Array Value):((world os).forCall (λ_ _=>0) ⟨#[],args,[]⟩).variablesRefB Tryz.checked.prog=true:=by kernel_rfl
theorem vF(os:Os) (args:Array Value):(((world os).forCall (λ_ _=>0) ⟨#[],args,[]⟩).heap.toList.drop Tryz.checked.prog.globals.size).take ((begin Tryz.checked.prog (λ_ _=>0) default).world.heap.size-Tryz.checked.prog.globals.size)=
 (begin Tryz.checked.prog (λ_ _=>0) default).world.heap.toList.drop Tryz.checked.prog.globals.size:=by kernel_rfl
end Go.Proofs.YtnllbjchcfpmpaaGreatDoor
end
section
namespace Go.Proofs.YtnllbjchcfpmpaaGreatDoor
open Go.ChangeShapes Go.WideShapes Go.ChangeAt Go.RowKit Go.Stp Go.Deep
open Go.ChangeMaps (open_string shut_string)
set_option maxRecDepth 100000
theorem cV:Tryz.prog.cellsOf 27=3:=by kernel_rfl
theorem cK:Tryz.prog.cellsOf 3=1:=by kernel_rfl
theorem cN:Tryz.prog.cellsOf 2=1:=by kernel_rfl
theorem cS:Tryz.prog.cellsOf 9=1:=by kernel_rfl
end Go.Proofs.YtnllbjchcfpmpaaGreatDoor
end
section
namespace Go.Proofs.YtnllbjchcfpmpaaGreatDoor
open Go.ChangeShapes Go.WideShapes Go.ChangeAt Go.RowKit Go.Stp Go.Deep Go.ValP
set_option maxRecDepth 100000
theorem choose_lt{α:Type}{n:Nat}{p:Nat->α->Prop}(h:∀i,i<n->∃x,p i x) [Inhabited α]:∃q:Nat->α,∀i,i<n->p i (q i):=by
 refine⟨λi=>if hi:i<n then(h i hi).choose else default,λi hi=>?_⟩
 simp only[hi,dif_pos]
 exact(h i hi).choose_spec
theorem rT(g o i:Nat):(⟨g,o,none⟩:Addr).add i=⟨g,o+i,none⟩:=by
 unfold Addr.add
 by_cases f:i=0<;>simp[f]
theorem laidOut:laidOutB Tryz.prog=true:=by kernel_rfl
theorem CK{H:Type}{enc:TypeId × Value->H}{w:World}{base:Nat}{sp:Nat->Bool}{held:Bool}{f:Nat}{cs:List Value}{x:DataW H × List MemPlace}(h:DataW.trod enc Tryz.prog w base sp held f 27 cs=some x) (hl:cs.length=3) :
 ∃v:V,cs=vL v/\(-9223372036854775808<=v.n/\v.n<=9223372036854775807):=by
 obtain⟨W,y1,X,m,Y,hl,g,u,E⟩:=trod_struct3 Tryz.underlying27 h
 simp only[cK,cN,cS]at g u E
 match cs,hl with
 |[a0,a1,a2],_=>
  obtain⟨k,F,x0,w0⟩:=DataW.trod_int Tryz.underlying3 g
  obtain⟨n,G,x1,w1⟩:=DataW.trod_int Tryz.underlying2 u
  obtain⟨s,J,x2,w2⟩:=DataW.trod_string Tryz.underlying9 E
  simp at F G J
  subst F G J
  exact⟨⟨k,n,s.data.toList⟩,by simp[vL,S],bounds_i64 w1⟩
theorem AA{H:Type}{enc:TypeId × Value->H}{w:World}{base b0:Nat}{sp:Nat->Bool}{held:Bool}{r:Reach}{v:Value}{d:DataW H}{ps:List MemPlace}(G:Value.okWide Tryz.prog w r b0 24 v) (hd:DataW.Trod enc Tryz.prog w base sp held 24 v d ps) :
 ∃xs:List V,bx (hz w) v 3 vL xs/\∀x∈xs,-9223372036854775808<=x.n/\x.n<=9223372036854775807:=by
 obtain⟨a0,len,W,rfl⟩:=okWide_slice Tryz.underlying24 G
 obtain⟨a8,hf⟩:=hd
 rcases DataW.trod_slice Tryz.underlying24 hf with⟨E,_⟩|⟨a,ad,af,elems,ao,n,_,E,_,_,hlc,_,b1,Y,_,_⟩
 · simp only[Value.cells,List.cons.injEq,and_true]at E
   exact⟨[],.inl ⟨E,O⟩,λx hx=>by cases hx⟩
 · simp only[Value.cells,List.cons.injEq,and_true,Value.slice.injEq]at E
   obtain⟨rfl,rfl,rfl⟩:=E
   have hh:w.has Tryz.prog r b0 a 27 W:=by
    have h:=G
    unfold Value.okWide at h
    rw[Tryz.underlying24]at h
    unfold Cell.okWide at h
    rw[Tryz.underlying24]at h
    unfold Cell.ok at h
    rw[Tryz.underlying24]at h
    exact h.2.2
   obtain⟨_,F,row,cells,f,_⟩:=hh
   obtain⟨g,o,b2⟩:=a
   simp only at F
   subst F
   obtain⟨J,e,fz,hb⟩:∃J e fz,w.heap[g]?=some (.cells J e fz):=by
    unfold World.shape? at f
    cases hg:w.heap[g]? with
    |none=>simp[hg]at f
    |some ob=>
     cases ob with
     |cells J e fz=>exact⟨J,e,fz,O⟩
     |_=>simp[hg]at f
   have each:∀i,i<len->∃x:V,(∀j u,(vL x)[j]?=some u->J.toList[o+(i*3+j)]?=some u)/\(-9223372036854775808<=x.n/\x.n<=9223372036854775807):=by
    intro i hi
    have h1:=Y i hi
    rw[List.getElem?_eq_getElem (by omega),cV,Option.bind_eq_some_iff]at h1
    obtain⟨b3,h2,h3⟩:=h1
    obtain⟨_,a1,a6⟩:=World.cells?_some h2
    obtain⟨x,rfl,hn⟩:=CK h3 a1
    refine⟨x,λj u X=>?_,hn⟩
    have hj:j<3:=(List.getElem?_eq_some_iff.1 X).1
    have h4:=a6 j hj
    rw[rT,rT,X]at h4
    rw[Nat.add_assoc]at h4
    unfold World.cell? at h4
    rw[hb]at h4
    simpa using h4
   obtain⟨q,hq⟩:=choose_lt each
   refine⟨(List.range len).map q,.inr ⟨g,o,W,J.toList,e,fz,by simp,by simpa using hlc,by simpa[hz]using hb,?_⟩,?_⟩
   · intro j u X
     have a7:=fe vL 3 (λ_=>rfl) ((List.range len).map q)
     have hj:j<len*3:=by
      have:=(List.getElem?_eq_some_iff.1 X).1
      rw[a7,List.length_map,List.length_range]at this
      exact this
     have hp:((List.range len).map q)[j / 3]?=some (q (j / 3)):=by
      rw[List.getElem?_map,List.getElem?_range (by omega)]
      rfl
     have e:=jP vL 3 (λ_=>rfl) _ (j / 3) (j % 3) _ hp (Nat.mod_lt _ (by decide))
     rw[show j / 3*3+j % 3=j by omega,X]at e
     have h9:=(hq (j / 3) (by omega)).1 (j % 3) u e.symm
     rwa[show j / 3*3+j % 3=j by omega]at h9
   · intro x hx
     obtain⟨i,hi,rfl⟩:=List.mem_map.1 hx
     exact(hq i (List.mem_range.1 hi)).2
section
variable {H:Type}{enc:TypeId × Value->H}{w:World}{base b0:Nat}{sp:Nat->Bool}{held:Bool}{r:Reach}{v:Value}{d:DataW H}{ps:List MemPlace}
theorem Bt:Tryz.prog.cellsOf 5=1:=by kernel_rfl
theorem wY(G:Value.okWide Tryz.prog w r b0 23 v) (hd:DataW.Trod enc Tryz.prog w base sp held 23 v d ps) :
 ∃xs:List Int,bx (hz w) v 1 (eI .u8) xs/\(xs.length:Int)<=9223372036854775807/\∀x∈xs,0<=x/\x<=255:=by
 obtain⟨a0,len,W,rfl⟩:=okWide_slice Tryz.underlying23 G
 obtain⟨a6,hf⟩:=hd
 rcases DataW.trod_slice Tryz.underlying23 hf with⟨E,_⟩|⟨a,a7,a8,elems,ad,n,_,E,_,_,hlc,b1,af,X,_,_⟩
 · simp only[Value.cells,List.cons.injEq,and_true]at E
   exact⟨[],.inl ⟨E,O⟩,by simp,λx Y=>by cases Y⟩
 · simp only[Value.cells,List.cons.injEq,and_true,Value.slice.injEq]at E
   obtain⟨rfl,rfl,rfl⟩:=E
   have hh:w.has Tryz.prog r b0 a 5 W:=by
    have h:=G
    unfold Value.okWide at h
    rw[Tryz.underlying23]at h
    unfold Cell.okWide at h
    rw[Tryz.underlying23]at h
    unfold Cell.ok at h
    rw[Tryz.underlying23]at h
    exact h.2.2
   obtain⟨_,F,row,cells,f,_⟩:=hh
   obtain⟨g,o,ao⟩:=a
   simp only at F
   subst F
   obtain⟨J,e,fz,hb⟩:∃J e fz,w.heap[g]?=some (.cells J e fz):=by
    unfold World.shape? at f
    cases hg:w.heap[g]? with
    |none=>simp[hg]at f
    |some ob=>
     cases ob with
     |cells J e fz=>exact⟨J,e,fz,O⟩
     |_=>simp[hg]at f
   have each:∀i,i<len->∃x:Int,J.toList[o+i]?=some (.int .u8 x)/\(0<=x/\x<=255):=by
    intro i hi
    have h1:=X i hi
    rw[List.getElem?_eq_getElem (by omega),Bt,Option.bind_eq_some_iff]at h1
    obtain⟨b2,h2,h3⟩:=h1
    obtain⟨_,b3,a1⟩:=World.cells?_some h2
    obtain⟨x,rfl,_,hn⟩:=DataW.trod_int Tryz.underlying5 h3
    refine⟨x,?_,bounds_u8 hn⟩
    have h4:=a1 0 (by decide)
    rw[rT,rT]at h4
    unfold World.cell? at h4
    rw[hb]at h4
    simpa using h4
   obtain⟨q,hq⟩:=choose_lt each
   refine⟨(List.range len).map q,.inr ⟨g,o,W,J.toList,e,fz,by simp,by simpa using hlc,by simpa[hz]using hb,?_⟩,?_,?_⟩
   · intro j u hu
     have hj:j<len:=by
      have:=(List.getElem?_eq_some_iff.1 hu).1
      rw[fe (eI .u8) 1 (λ_=>rfl),List.length_map,List.length_range]at this
      omega
     have e1:((List.range len).map q).flatMap (eI .u8)=(List.range len).map λi=>Value.int .u8 (q i):=by
      rw[List.flatMap_map]
      exact List.map_eq_flatMap.symm
     rw[e1,List.getElem?_map,List.getElem?_range hj]at hu
     rw[(hq j hj).1]
     exact hu
   · simp only[List.length_map,List.length_range]
     have:maxLen=9223372036854775807:=by decide
     omega
   · intro x Y
     obtain⟨i,hi,rfl⟩:=List.mem_map.1 Y
     exact(hq i (List.mem_range.1 hi)).2
end
end Go.Proofs.YtnllbjchcfpmpaaGreatDoor
end
section
namespace Go.Proofs.YtnllbjchcfpmpaaGreatDoor
open Go.Lib Go.RowKit Go.Stp Go.ValP
set_option maxRecDepth 100000
theorem DG:Tryz.prog.globalNamed "strings.asciiSpace" = some 0:=by kernel_rfl
theorem wZ:(Tryz.prog.globals[0]?).map (·.type)=some 119:=by kernel_rfl
theorem zZ:Tryz.prog.cellsOf 5=1:=by kernel_rfl
theorem Bv:Tryz.prog.cellsOf 119=256:=by kernel_rfl
theorem DH:Tryz.prog.globalNamed "reckoner/parse.levels" = some 1:=by kernel_rfl
theorem D2:(Tryz.prog.globals[1]?).map (·.type)=some 160:=by kernel_rfl
theorem CB:Tryz.prog.cellsOf 9=1:=by kernel_rfl
theorem BK:Tryz.prog.cellsOf 160=4:=by kernel_rfl
theorem tK{α β:Type}{f:α->Option β}:∀{l:List α}{r:List β},l.mapM f=some r->r.length=l.length/\∀(i:Nat) a,l[i]?=some a->∃b,r[i]?=some b/\f a=some b
 |[],r,h=>by
  simp at h
  subst h
  exact⟨O,λi a ha=>by simp at ha⟩
 |x::l,r,h=>by
  rw[List.mapM_cons]at h
  simp only[Option.bind_eq_bind,Option.bind_eq_some_iff,Option.pure_def,Option.some.injEq]at h
  obtain⟨b,u,E,g,rfl⟩:=h
  obtain⟨e,k⟩:=tK g
  refine⟨by simp[e],λi a ha=>?_⟩
  cases i with
  |zero=>simp at ha;subst ha;exact⟨b,O,u⟩
  |succ i=>exact k i a (by simpa using ha)
theorem qN{P:Program}{w:World}{base:Nat}{sp:Nat->Bool}{held:Bool}{f:Nat}{t e:TypeId}{n:Nat}{cs:List Value}{u:List (List UInt8)}{p:List MemPlace}
 (Y:P.underlying t=some (.array n e)) (he:P.underlying e=some .string) (E:P.cellsOf e=1) (F:P.cellsOf t=n)
 (h:DataW.trod (λ_=>()) P w base sp held f t cs=some (.agg (u.map λz=>.lit (.string z)),p)):cs=u.map S:=by
 cases f with
 |zero=>simp[DataW.trod]at h
 |succ f=>
  simp only[DataW.trod,Y,E,F,Nat.mul_one]at h
  split at h
  · rename_i hl
    obtain⟨xs,hm,hx⟩:=Option.map_eq_some_iff.1 h
    have g:xs.map (·.1)=u.map λz=>(DataW.lit (.string z):DataW Unit):=by
     have:=congrArg Prod.fst hx
     simpa using this
    obtain⟨G,J⟩:=tK hm
    have a1:u.length=n:=by
     have:=congrArg List.length g
     simp at this
     rw[List.length_range]at G
     omega
    apply List.ext_getElem?
    intro i
    by_cases hi:i<n
    · obtain⟨b,hb,hf⟩:=J i i (by simp[hi])
      obtain⟨s,hc,rfl,_⟩:=DataW.trod_string he hf
      have h1:cs[i]?=some (.string s):=by
       have:=congrArg (·[0]?) hc
       simpa[List.getElem?_take,List.getElem?_drop]using this
      have W:(xs.map (·.1))[i]?=some (DataW.lit (.string s.data.toList):DataW Unit):=by simp[hb]
      rw[g]at W
      simp only[List.getElem?_map,Option.map_eq_some_iff,DataW.lit.injEq,Lit.string.injEq]at W
      obtain⟨z',X,rfl⟩:=W
      simp[h1,X,S]
    ·rw[List.getElem?_eq_none (by omega),List.getElem?_eq_none (by simp;omega)]
  ·cases h
theorem xA{W:World}(h:VarReads Tryz.prog W "strings.asciiSpace" (tabData .u8 Lib.asciiSpaceTab)):TabIs Tryz.prog W "strings.asciiSpace" .u8 Lib.asciiSpaceTab:=by
 obtain⟨F,G,cs,E,p,g,u,f,hd⟩:=h
 obtain rfl:=Option.some.inj (DG.symm.trans g)
 obtain rfl:=Option.some.inj (wZ.symm.trans u)
 unfold TabIs
 rw[f,<- cells_of_tab Tryz.underlying119 Tryz.underlying5 zZ Bv hd]
theorem zj{W:World}(h:VarReads Tryz.prog W "reckoner/parse.levels" (.agg (levelsL.map λz=>.lit (.string z)))):∃e fz,W.heap[1]?=some (.cells (levelsL.map S).toArray e fz):=by
 obtain⟨J,X,cs,E,p,g,u,f,hd⟩:=h
 obtain rfl:=Option.some.inj (DH.symm.trans g)
 obtain rfl:=Option.some.inj (D2.symm.trans u)
 have:=qN Tryz.underlying160 Tryz.underlying9 CB BK hd
 unfold World.var? at f
 rw[DH]at f
 simp only[Option.bind_some]at f
 cases F:W.heap[(1:Nat)]? with
 |none=>simp[F]at f
 |some o=>
  rw[F]at f
  cases o<;>simp at f
  rename_i G e fz
  subst f
  refine⟨e,fz,?_⟩
  rw[<-this]
theorem vH{P:Program}{w:World}{b:Nat}{sp:Nat->Bool}{f:Nat}{t:TypeId}{g:Array (String × TypeId)}{cs:List Value}{nm:String}{x:DataW Unit}{p:List MemPlace}(hi:P.underlying t=some (.interface g)) (h:DataW.trod (λ_=>()) P w b sp false f t cs=some (.iface nm x,p)):∃u v,cs=[.iface u v]:=by
 cases f with
 |zero=>simp[DataW.trod]at h
 |succ f=>
  rcases cs with _|⟨c,_|⟨c2,r⟩⟩
  ·simp[DataW.trod,hi]at h
  · cases c
    case iface u v=>exact⟨u,v,O⟩
    all_goals simp[DataW.trod,hi]at h
  ·simp[DataW.trod,hi]at h
theorem DN:(Tryz.prog.globals[9]?).map (·.type)=some 168:=by kernel_rfl
theorem yb{W:World}(h:VarReads Tryz.prog W "strconv.ErrSyntax" Rows.laid_strconv_ErrSyntax):∃tp p,W.var? Tryz.prog "strconv.ErrSyntax" = some #[.iface tp p]:=by
 obtain⟨G,J,cs,F,p,g,E,f,hd⟩:=h
 obtain rfl:=Option.some.inj (CG.symm.trans g)
 obtain rfl:=Option.some.inj (DN.symm.trans E)
 obtain⟨u,v,e⟩:=vH Tryz.underlying168 hd
 refine⟨u,v,?_⟩
 rw[f]
 cases cs
 simp_all
theorem yA{W:World}(f:laidMetH Tryz.prog Rows.stepMeansRow.laid W) (g:∃m,W.cell? ⟨5,0,none⟩=some (.int .i64 m)):jY W:=
 ⟨⟨xA (Lib.laidMet.reads f (.tail _ (.tail _ (.tail _ (.tail _ (.tail _ (.tail _ (.tail _ (.head _))))))))),g⟩,zj (Lib.laidMet.reads f (.tail _ (.tail _ (.tail _ (.tail _ (.tail _ (.tail _ (.tail _ (.tail _ (.head _)))))))))),yb (Lib.laidMet.reads f (.tail _ (.tail _ (.tail _ (.tail _ (.tail _ (.head _)))))))⟩
end Go.Proofs.YtnllbjchcfpmpaaGreatDoor
end
