/- Joined texts. -/
import Derived.Lib.SmallJoins
import Derived.Laws.Externs
import Derived.Test.YtcecjdnkcbfhlaaGreatDoorEF0
import Derived.Test.YtcecjdnkcbfhlaaGreatDoorEFS
import Derived.Test.YtcecjdnkcbfhlaaGreatDoorEL0
import Derived.Test.YtcecjdnkcbfhlaaGreatDoorEShelf
set_option linter.unusedSimpArgs false
set_option linter.unusedVariables false
set_option linter.unusedSectionVars false
namespace Go.Proofs.YtcecjdnkcbfhlaaGreatDoor
open Go.Stp Go.RowKit Go.ValP
set_option maxRecDepth 100000
structure GW (w:World):Prop where
 tab:Lib.TabIs Tryz.prog w "strings.asciiSpace" .u8 Lib.asciiSpaceTab
 maxlen:∃ m,w.cell? ⟨6,0,none⟩=some (.int .i64 m)
theorem GW.ext {w w':World} (h:GW w) (X:Ext w w'):GW w' where
 tab:=Joins.tab_stays (P:=Tryz.prog) (n := "strings.asciiSpace") (g:=0) (by kernel_rfl) h.tab X (Nat.le_refl _)
 maxlen:=by
  obtain ⟨m,hm⟩:=h.maxlen
  refine ⟨m,?_⟩
  unfold World.cell? at hm ⊢
  cases hb:w.heap[(6:Nat)]? with
  |none=>simp [hb] at hm
  |some o=>
   rw [X.block hb]
   rw [hb] at hm
   exact hm
theorem lib_compare {a b:List UInt8} {w:World}:Calls Tryz.prog 162 [S a,S b].toArray w (Ret fun v w'=>v=.int .i64 (Lib.compareBytes a b)∧Ext w w'):=by
 refine (Tryz.strings_Compare ⟨a.toArray⟩ ⟨b.toArray⟩ w).mono ?_
 rintro e w' ⟨rfl,rfl⟩
 exact ⟨rfl,Ext.refl _⟩
theorem lib_cutPrefix {a b:List UInt8} {w:World}:Calls Tryz.prog 158 [S a,S b].toArray w (Ret fun v w'=>v=.tuple #[S (Lib.trimPrefix a b,Lib.hasPrefix a b).1,.bool (Lib.trimPrefix a b,Lib.hasPrefix a b).2]∧Ext w w'):=by
 refine (Tryz.strings_CutPrefix ⟨a.toArray⟩ ⟨b.toArray⟩ w).mono ?_
 rintro e w' ⟨rfl,rfl⟩
 exact ⟨rfl,Ext.refl _⟩
theorem lib_hasPrefix {a b:List UInt8} {w:World}:Calls Tryz.prog 141 [S a,S b].toArray w (Ret fun v w'=>v=.bool (Lib.hasPrefix a b)∧Ext w w'):=by
 refine (Tryz.strings_HasPrefix ⟨a.toArray⟩ ⟨b.toArray⟩ w).mono ?_
 rintro e w' ⟨rfl,rfl⟩
 exact ⟨rfl,Ext.refl _⟩
theorem lib_fields {a:List UInt8} {w:World} (h1:a.length<4294967281∧(a.all fun b=>decide (b.toNat<128))=true) (hG:GW w):Calls Tryz.prog 64 [S a].toArray w (Ret fun v w'=>RdZ (ZB Z0 w.heap.size w') v 1 eS (Lib.fields a)∧Ext w w'):=by
 refine (Tryz.strings_Fields ⟨a.toArray⟩ w h1.1 (fun j b hb=>?_) hG.tab).mono ?_
 · have:=List.all_eq_true.1 h1.2 b (List.mem_of_getElem? hb)
   simpa using this
 rintro e w' ⟨rfl,rfl⟩
 refine ⟨.inr ⟨w.heap.size,0,_,(Lib.fields a).map S,9,(0,0),rfl,Nat.le_refl _,?_,fun j u hu=>?_⟩,Ext.alloc _ _⟩
 · unfold ZB
   rw [if_pos (Nat.le_refl _)]
   exact heap_alloc_new w _
 · rw [Nat.zero_add]
   have:(Lib.fields a).flatMap eS=(Lib.fields a).map S:=by
    induction Lib.fields a with
    |nil=>rfl
    |cons x r ih=>rw [List.flatMap_cons,ih];rfl
   rw [←this]
   exact hu
theorem lib_mul64 {x y:Int} {w:World} (h:(0≤x∧x≤18446744073709551615)∧0≤y∧y≤18446744073709551615):Calls Tryz.prog 113 [.int .u64 x,.int .u64 y].toArray w (Ret fun v w'=>v=.tuple #[.int .u64 (x*y / 18446744073709551616,x*y % 18446744073709551616).1,.int .u64 (x*y / 18446744073709551616,x*y % 18446744073709551616).2]∧Ext w w'):=by
 obtain ⟨X,rfl⟩:=Int.eq_ofNat_of_zero_le h.1.1
 obtain ⟨Y,rfl⟩:=Int.eq_ofNat_of_zero_le h.2.1
 refine (Tryz.bits_Mul64 X Y (by omega) (by omega) w).mono ?_
 rintro e w' ⟨rfl,rfl⟩
 refine ⟨?_,Ext.refl _⟩
 simp
theorem v_add64 {l:List (Nat × Value)} {w:World} {d:Option Nat} {ty:TypeId} {pos:String} {af:Array Edge} {g:Option (Nat × Bool)} {x y z:Operand} {p q r:Int} {ats:Array TypeId} (hx:ev l x=some (.int .u64 p)) (hy:ev l y=some (.int .u64 q)) (hz:ev l z=some (.int .u64 r)) (h:0≤p∧0≤q∧0≤r∧r≤1) :
 Val Tryz.prog l w ⟨d,.call { callee:=.value (.func 195),args:=#[x,y,z],argTypes:=ats },ty,pos,af,g⟩ (.tuple #[.int .u64 ((p+q+r) % 18446744073709551616,(p+q+r) / 18446744073709551616).1,.int .u64 ((p+q+r) % 18446744073709551616,(p+q+r) / 18446744073709551616).2]):=fun n a hf=>by
 have e1:execOp a.eval ⟨d,.call { callee:=.value (.func 195),args:=#[x,y,z],argTypes:=ats },ty,pos,af,g⟩=callFunc 195 (#[]++#[x,y,z].map a.eval++#[]):=rfl
 have e2:(#[]++#[x,y,z].map a.eval++#[]:Array Value)=#[.int .u64 p,.int .u64 q,.int .u64 r]:=by simp [hf.ev hx,hf.ev hy,hf.ev hz]
 rw [e1,e2,run_callFunc_extern (e:=add64Entry) Tryz.func195 rfl rfl rfl rfl,run_add64 p q r h.1 h.2.1 h.2.2.1 h.2.2.2]
 rfl
theorem lib_lz64 {x:Int} {w:World} (h:0≤x∧x≤18446744073709551615):Calls Tryz.prog 157 [.int .u64 x].toArray w (Ret fun v w'=>v=.int .i64 (64-(Lib.bitLen x.toNat:Int))∧Ext w w'):=by
 refine (Tryz.bits_LeadingZeros64 x w h.1 h.2).mono ?_
 rintro e w' ⟨rfl,rfl⟩
 exact ⟨rfl,Ext.refl _⟩
theorem lib_index {a b:List UInt8} {w:World} (h1:a.length<4294967281) (hG:GW w):Calls Tryz.prog 209 [S a,S b].toArray w (Ret fun v w'=>v=.int .i64 (Lib.index a b)∧Ext w w'):=by
 obtain ⟨m,hm⟩:=hG.maxlen
 refine (Tryz.strings_Index ⟨a.toArray⟩ ⟨b.toArray⟩ m w h1 hm).mono ?_
 rintro e w' ⟨rfl,rfl⟩
 exact ⟨rfl,Ext.refl _⟩
theorem lib_replaceAll {a b c:List UInt8} {w:World} (h1:a.length<4294967281∧1≤b.length∧a.length+Lib.countB ⟨a.toArray⟩ ⟨b.toArray⟩*c.length≤140737488355328) (hG:GW w):Calls Tryz.prog 146 [S a,S b,S c].toArray w (Ret fun v w'=>v=S (Lib.replaceAll a b c)∧Ext w w'):=by
 obtain ⟨m,hm⟩:=hG.maxlen
 refine (Tryz.strings_ReplaceAll ⟨a.toArray⟩ ⟨b.toArray⟩ ⟨c.toArray⟩ m w h1.1 hm h1.2.1 h1.2.2).mono ?_
 rintro e w' ⟨rfl,X⟩
 exact ⟨rfl,X⟩
theorem lib_repeat {a:List UInt8} {c:Int} {w:World} (h1:0≤c∧c≤9223372036854775807∧a.length*c.toNat≤140737488355328):Calls Tryz.prog 211 [S a,.int .i64 c].toArray w (Ret fun v w'=>v=S (Lib.repeatL a c.toNat)∧Ext w w'):=by
 obtain ⟨k,rfl⟩:=Int.eq_ofNat_of_zero_le h1.1
 refine (Tryz.strings_Repeat ⟨a.toArray⟩ k w (by omega) (by have:=h1.2.2;rw [Int.toNat_natCast] at this;exact this)).mono ?_
 rintro e w' ⟨rfl,X⟩
 exact ⟨rfl,X⟩
theorem lib_join {xs:List (List UInt8)} {sep:List UInt8} {w:World} {v:Value} (h1:xs.length≤140737488355328∧(Lib.join xs sep).length≤140737488355328) (hr:RdZ (hz w) v 1 eS xs):Calls Tryz.prog 105 [v,S sep].toArray w (Ret fun v w'=>v=S (Lib.join xs sep)∧Ext w w'):=by
 rcases hr with ⟨rfl,rfl⟩|⟨g,o,cap,cs,e,fz,rfl,hc,hg,hcs⟩
 · refine (Tryz.strings_Join_none none 0 ⟨sep.toArray⟩ w).mono ?_
   rintro e w' ⟨rfl,rfl⟩
   exact ⟨rfl,Ext.refl _⟩
 · have hmap:(xs.map fun x=>(⟨x.toArray⟩:ByteArray)).map (·.data.toList)=xs:=by
    rw [List.map_map]
    exact List.map_id' xs
   have hfl:xs.flatMap eS=xs.map S:=by
    clear h1 hc hcs hmap
    induction xs with
    |nil=>rfl
    |cons x r ih=>rw [List.flatMap_cons,ih];rfl
   have:=Tryz.strings_Join g o cap (xs.map fun x=>⟨x.toArray⟩) ⟨sep.toArray⟩ w (fun j x hx=>by
    rw [show w.cell? ⟨g,o+j,none⟩=cs[o+j]? from Cel_cell hg]
    refine hcs j _ ?_
    rw [List.getElem?_map,Option.map_eq_some_iff] at hx
    obtain ⟨y,hy,rfl⟩:=hx
    rw [hfl,List.getElem?_map,hy]
    rfl) (Array.getElem?_eq_some_iff.1 hg).1 (by simpa using h1.1) (by simpa using hc) (by rw [hmap];exact h1.2)
   rw [List.length_map,hmap] at this
   refine this.mono ?_
   rintro e w' ⟨rfl,X⟩
   exact ⟨rfl,X⟩
end Go.Proofs.YtcecjdnkcbfhlaaGreatDoor
