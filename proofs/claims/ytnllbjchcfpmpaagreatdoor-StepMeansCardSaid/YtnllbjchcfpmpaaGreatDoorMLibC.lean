/- Joined texts. -/
import Derived.Lib.SmallJoins
import Derived.Test.YtnllbjchcfpmpaaGreatDoorMFS
set_option linter.all false
namespace Go.Proofs.YtnllbjchcfpmpaaGreatDoor
open Go.Stp Go.RowKit Go.ValP
set_option maxRecDepth 100000
structure GW (w:World):Prop where
 tab:Lib.TabIs Tryz.prog w "strings.asciiSpace" .u8 Lib.asciiSpaceTab
 maxlen:∃m,w.cell? ⟨5,0,none⟩=some (.int .i64 m)
theorem GW.ext{w w':World}(h:GW w) (X:Ext w w'):GW w' where
 tab:=Joins.tab_stays (P:=Tryz.prog) (n := "strings.asciiSpace") (g:=0) (by kernel_rfl) h.tab X (Nat.le_refl _)
 maxlen:=by
  obtain⟨m,f⟩:=h.maxlen
  refine⟨m,?_⟩
  unfold World.cell? at f⊢
  cases u:w.heap[(5:Nat)]? with
  |none=>simp[u]at f
  |some o=>
   rw[X.block u]
   rw[u]at f
   exact f
theorem uk{a b:List UInt8}{w:World}:Calls Tryz.prog 116 [S a,S b].toArray w (bj λv w'=>v=.int .i64 (Lib.compareBytes a b)/\Ext w w'):=by
 refine(Tryz.strings_Compare ⟨a.toArray⟩ ⟨b.toArray⟩ w).mono ?_
 rintro e w' ⟨rfl,rfl⟩
 exact⟨O,Ext.refl _⟩
theorem jU{a b:List UInt8}{w:World}:Calls Tryz.prog 109 [S a,S b].toArray w (bj λv w'=>v=.tuple #[S (Lib.trimPrefix a b,Lib.hasPrefix a b).1,.bool (Lib.trimPrefix a b,Lib.hasPrefix a b).2]/\Ext w w'):=by
 refine(Tryz.strings_CutPrefix ⟨a.toArray⟩ ⟨b.toArray⟩ w).mono ?_
 rintro e w' ⟨rfl,rfl⟩
 exact⟨O,Ext.refl _⟩
theorem mg{a b:List UInt8}{w:World}:Calls Tryz.prog 97 [S a,S b].toArray w (bj λv w'=>v=.bool (Lib.hasPrefix a b)/\Ext w w'):=by
 refine(Tryz.strings_HasPrefix ⟨a.toArray⟩ ⟨b.toArray⟩ w).mono ?_
 rintro e w' ⟨rfl,rfl⟩
 exact⟨O,Ext.refl _⟩
theorem eG{a:List UInt8}{w:World}(f:a.length<4294967281/\(a.all λb=>decide (b.toNat<128))=true) (g:GW w):Calls Tryz.prog 42 [S a].toArray w (bj λv w'=>bx (ZB Z0 w.heap.size w') v 1 eS (Lib.fields a)/\Ext w w'):=by
 refine(Tryz.strings_Fields ⟨a.toArray⟩ w f.1 (λj b E=>?_) g.tab).mono ?_
 · have:=List.all_eq_true.1 f.2 b (List.mem_of_getElem? E)
   simpa using this
 rintro e w' ⟨rfl,rfl⟩
 refine⟨.inr ⟨w.heap.size,0,_,(Lib.fields a).map S,9,(0,0),O,Nat.le_refl _,?_,λj u F=>?_⟩,Ext.alloc _ _⟩
 · unfold ZB
   rw[if_pos (Nat.le_refl _)]
   exact heap_alloc_new w _
 · rw[Nat.zero_add]
   have:(Lib.fields a).flatMap eS=(Lib.fields a).map S:=by
    induction Lib.fields a with
    |nil=>rfl
    |cons x r G=>rw[List.flatMap_cons,G];rfl
   rw[<-this]
   exact F
theorem nS{x y:Int}{w:World}(h:(0<=x/\x<=18446744073709551615)/\0<=y/\y<=18446744073709551615):Calls Tryz.prog 146 [.int .u64 x,.int .u64 y].toArray w (bj λv w'=>v=.tuple #[.int .u64 (x*y / 18446744073709551616,x*y % 18446744073709551616).1,.int .u64 (x*y / 18446744073709551616,x*y % 18446744073709551616).2]/\Ext w w'):=by
 obtain⟨X,rfl⟩:=Int.eq_ofNat_of_zero_le h.1.1
 obtain⟨Y,rfl⟩:=Int.eq_ofNat_of_zero_le h.2.1
 refine(Tryz.bits_Mul64 X Y (by omega) (by omega) w).mono ?_
 rintro e w' ⟨rfl,rfl⟩
 refine⟨?_,Ext.refl _⟩
 simp
theorem Ad{l:List (Nat × Value)}{w:World}{d:Option Nat}{E:TypeId}{pos:String}{F:Array Edge}{g:Option (Nat × Bool)}{x y z:Operand}{p q r:Int}{f:Array TypeId}(G:ev l x=some (.int .u64 p)) (hy:ev l y=some (.int .u64 q)) (hz:ev l z=some (.int .u64 r)) (h:0<=p/\0<=q/\0<=r/\r<=1) :
 cH Tryz.prog l w ⟨d,.call { callee:=.value (.func 147),args:=#[x,y,z],argTypes:=f },E,pos,F,g⟩ (.tuple #[.int .u64 ((p+q+r) % 18446744073709551616,(p+q+r) / 18446744073709551616).1,.int .u64 ((p+q+r) % 18446744073709551616,(p+q+r) / 18446744073709551616).2]):=λn a u=>by
 have H:execOp a.eval ⟨d,.call { callee:=.value (.func 147),args:=#[x,y,z],argTypes:=f },E,pos,F,g⟩=callFunc 147 (#[]++#[x,y,z].map a.eval++#[]):=rfl
 have J:(#[]++#[x,y,z].map a.eval++#[]:Array Value)=#[.int .u64 p,.int .u64 q,.int .u64 r]:=by simp[u.ev G,u.ev hy,u.ev hz]
 rw[H,J,run_callFunc_extern (e:=add64Entry) Tryz.func147 rfl rfl rfl rfl,run_add64 p q r h.1 h.2.1 h.2.2.1 h.2.2.2]
 rfl
theorem x7{x:Int}{w:World}(h:0<=x/\x<=18446744073709551615):Calls Tryz.prog 189 [.int .u64 x].toArray w (bj λv w'=>v=.int .i64 (64-(Lib.bitLen x.toNat:Int))/\Ext w w'):=by
 refine(Tryz.bits_LeadingZeros64 x w h.1 h.2).mono ?_
 rintro e w' ⟨rfl,rfl⟩
 exact⟨O,Ext.refl _⟩
theorem xl{a b:List UInt8}{w:World}(f:a.length<4294967281) (g:GW w):Calls Tryz.prog 163 [S a,S b].toArray w (bj λv w'=>v=.int .i64 (Lib.index a b)/\Ext w w'):=by
 obtain⟨m,u⟩:=g.maxlen
 refine(Tryz.strings_Index ⟨a.toArray⟩ ⟨b.toArray⟩ m w f u).mono ?_
 rintro e w' ⟨rfl,rfl⟩
 exact⟨O,Ext.refl _⟩
theorem lk{a b c:List UInt8}{w:World}(f:a.length<4294967281/\1<=b.length/\a.length+Lib.countB ⟨a.toArray⟩ ⟨b.toArray⟩*c.length<=140737488355328) (g:GW w):Calls Tryz.prog 102 [S a,S b,S c].toArray w (bj λv w'=>v=S (Lib.replaceAll a b c)/\Ext w w'):=by
 obtain⟨m,u⟩:=g.maxlen
 refine(Tryz.strings_ReplaceAll ⟨a.toArray⟩ ⟨b.toArray⟩ ⟨c.toArray⟩ m w f.1 u f.2.1 f.2.2).mono ?_
 rintro e w' ⟨rfl,X⟩
 exact⟨O,X⟩
theorem uR{a:List UInt8}{c:Int}{w:World}(f:0<=c/\c<=9223372036854775807/\a.length*c.toNat<=140737488355328):Calls Tryz.prog 165 [S a,.int .i64 c].toArray w (bj λv w'=>v=S (Lib.repeatL a c.toNat)/\Ext w w'):=by
 obtain⟨k,rfl⟩:=Int.eq_ofNat_of_zero_le f.1
 refine(Tryz.strings_Repeat ⟨a.toArray⟩ k w (by omega) (by have:=f.2.2;rw[Int.toNat_natCast]at this;exact this)).mono ?_
 rintro e w' ⟨rfl,X⟩
 exact⟨O,X⟩
theorem ui{xs:List (List UInt8)}{f:List UInt8}{w:World}{v:Value}(h1:xs.length<=140737488355328/\(Lib.join xs f).length<=140737488355328) (W:bx (hz w) v 1 eS xs):Calls Tryz.prog 64 [v,S f].toArray w (bj λv w'=>v=S (Lib.join xs f)/\Ext w w'):=by
 rcases W with⟨rfl,rfl⟩|⟨g,o,F,cs,e,fz,rfl,hc,H,E⟩
 · refine(Tryz.strings_Join_none none 0 ⟨f.toArray⟩ w).mono ?_
   rintro e w' ⟨rfl,rfl⟩
   exact⟨O,Ext.refl _⟩
 · have u:(xs.map λx=>(⟨x.toArray⟩:ByteArray)).map (·.data.toList)=xs:=by
    rw[List.map_map]
    exact List.map_id' xs
   have G:xs.flatMap eS=xs.map S:=by
    clear h1 hc E u
    induction xs with
    |nil=>rfl
    |cons x r Y=>rw[List.flatMap_cons,Y];rfl
   have:=Tryz.strings_Join g o F (xs.map λx=>⟨x.toArray⟩) ⟨f.toArray⟩ w (λj x J=>by
    rw[show w.cell? ⟨g,o+j,none⟩=cs[o+j]? from gx H]
    refine E j _ ?_
    rw[List.getElem?_map,Option.map_eq_some_iff]at J
    obtain⟨y,hy,rfl⟩:=J
    rw[G,List.getElem?_map,hy]
    rfl) (Array.getElem?_eq_some_iff.1 H).1 (by simpa using h1.1) (by simpa using hc) (by rw[u];exact h1.2)
   rw[List.length_map,u]at this
   refine this.mono ?_
   rintro e w' ⟨rfl,X⟩
   exact⟨O,X⟩
theorem AQ{a b:List UInt8}{w:World}(f:a.length<4294967281) (g:GW w):Calls Tryz.prog 180 [S a,S b].toArray w (bj λv w'=>v=.tuple #[S (Lib.cut a b).1,S (Lib.cut a b).2.1,.bool (Lib.cut a b).2.2]/\Ext w w'):=by
 obtain⟨m,u⟩:=g.maxlen
 refine(Tryz.strings_Cut ⟨a.toArray⟩ ⟨b.toArray⟩ m w f u).mono ?_
 rintro e w' ⟨rfl,n,rfl⟩
 exact⟨O,⟨O,O,O,Nat.le_refl _,λ_ _=>rfl⟩⟩
theorem nN{n:Int}{w:World}(h:0<=n/\n<100):Calls Tryz.prog 104 [.int .i64 n].toArray w (bj λv w'=>v=S (Lib.itoa n)/\Ext w w'):=by
 obtain⟨k,rfl⟩:=Int.eq_ofNat_of_zero_le h.1
 refine(Tryz.strconv_Itoa_small k (by omega) w).mono ?_
 rintro e w' ⟨rfl,rfl⟩
 refine⟨?_,Ext.refl _⟩
 unfold Lib.itoa
 rw[if_neg (by omega),Int.toNat_natCast]
end Go.Proofs.YtnllbjchcfpmpaaGreatDoor
