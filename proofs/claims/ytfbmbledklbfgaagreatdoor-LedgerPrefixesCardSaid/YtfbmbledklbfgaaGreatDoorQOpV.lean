import Derived.Lib.SmallJoins
import Derived.LaidMore
import Derived.Stop.Joined
import Derived.Stop.LaidErr
import Derived.Test.YtfbmbledklbfgaaGreatDoorQScY
set_option linter.unusedVariables false
set_option linter.unusedSimpArgs false
namespace Go.Proofs.YtfbmbledklbfgaaGreatDoor
open Go.ChangeShapes Go.WideShapes Go.ChangeAt Go.Deep Go.Joins Go.RowKit
open Go.ChangeMaps (open_string shut_string)
theorem ownQ:ownKnob Tryz.prog.godebug=none:=by kernel_rfl
theorem laidOutQ:laidOutB Tryz.prog=true:=by kernel_rfl
section
variable {H : Type} {enc : TypeId × Value → H} {W : World} {sp : Nat → Bool} {held : Bool}
theorem trod_at{P:Program}{w:World}{base:Nat}{spare:Nat→Bool}{fuel:Nat}{t:TypeId}{cs:List Value}{x:DataW H×List MemPlace}{fs:Array Field}(ht:P.underlying t=some (.struct fs))(h:DataW.trod enc P w base spare held fuel t cs=some x)(i:Nat)(f:Field)(hf:fs[i]? =some f)(k:Nat)(hk:P.cellsOf f.type=k) :
 ∃ n y,DataW.trod enc P w base spare held n f.type ((cs.drop f.offset).take k)=some y:=by
 obtain⟨xs,n,_,_,_,hl,hx⟩:=DataW.trod_struct ht h;have h1:=hx i f hf;have hi:i<xs.length:=by rw[hl];exact(Array.getElem?_eq_some_iff.1 hf).1
 rw[hk,List.getElem?_eq_getElem hi]at h1;exact⟨n,_,h1⟩
end
open Go.ChangeMaps (open_string shut_string)
theorem list_ofC{α:Type}{Q:Nat→α→Prop}:∀(n:Nat),(∀ i,i<n→∃ e,Q i e)→∃ l:List α,l.length=n∧∀ k e,l[k]? =some e→Q k e
 | 0,_=>⟨[],rfl,fun k e h=>by simp at h⟩
 | n+1,h=>by
  obtain⟨l,hl,hq⟩:=list_ofC n (fun i hi=>h i (by omega));obtain⟨e,he⟩:=h n (by omega);refine⟨l++[e],by simp[hl],fun k e' hk=>?_⟩;by_cases hkn:k<l.length
  · rw[List.getElem?_append_left hkn]at hk;exact hq k e' hk
  · rw[List.getElem?_append_right (by omega)]at hk;have h0:k - l.length=0:=by
     rcases Nat.eq_zero_or_pos (k - l.length)with h0 | h0
     · exact h0
     · rw[List.getElem?_eq_none (by simp;omega)]at hk;cases hk
    rw[h0]at hk;simp only[List.getElem?_cons_zero,Option.some.injEq]at hk;subst hk;rw[show k=n from by omega];exact he
section
variable {H : Type} {enc : TypeId × Value → H} {W : World} {sp : Nat → Bool} {held : Bool}
theorem open_natsC{fuel:Nat}{cs:List Value}{x:DataW H×List MemPlace}(h:DataW.trod enc Tryz.prog W 0 (fun _=>true) held fuel 28 cs=some x):∃ A n c l,cs=[.slice A n c]∧SlN W A n c l∧∀ s∈l,s.size≤maxLen:=by
 rcases open_slice Tryz.underlying28 h with⟨rfl,_⟩ | ⟨ad,len,cap,m,n,D,Pl,rfl,hb,hl,hm,hmm,hx,hi⟩
 · exact⟨none,0,0,[],rfl,⟨rfl,Nat.le_refl _,Nat.zero_le _,0,0,fun h=>absurd h (Nat.lt_irrefl _),fun k s h=>by simp at h⟩,fun s h=>by cases h⟩
 · have hC:Tryz.prog.cellsOf 22=1:=by kernel_rfl
   have hq:∀ i,i<len→∃ s:ByteArray,W.cell? (ad.add i)=some (.string s)∧s.size≤maxLen:=fun i hi'=>by
    obtain⟨cs',hc,ht'⟩:=hi i (by rw[hmm];simp;omega);obtain⟨s,e,_,z⟩:=DataW.trod_string Tryz.underlying22 ht';rw[hC,Nat.mul_one]at hc;obtain⟨_,hcl,hat⟩:=World.cells?_some hc;have:=hat 0 (by omega);rw[e]at this;exact⟨s,by simpa[Addr.add]using this,z⟩
   obtain⟨l,hll,hq⟩:=list_ofC len hq;refine⟨some ad,len,cap,l,rfl,⟨hll,hl,by unfold maxLen at hm;exact hm,?_⟩,fun s hs=>?_⟩
   · rcases Nat.eq_zero_or_pos len with h0 | h0
     · exact⟨0,0,fun h=>by omega,fun k e hk=>by have:=(List.getElem?_eq_some_iff.1 hk).1;omega⟩
     · obtain⟨b,off,spot⟩:=ad;obtain⟨e,he⟩:∃ e,l[0]? =some e:=⟨_,List.getElem?_eq_getElem (by omega)⟩;have h1:=(hq 0 e he).1;have hspot:spot=none:=by simpa[Addr.add]using World.cell?_spot h1
       subst hspot;refine⟨b,off,fun _=>rfl,fun k e hk=>?_⟩;have:=(hq k e hk).1;rw[addr_add]at this;exact this
   · obtain⟨k,hk⟩:=List.getElem?_of_mem hs;exact(hq k s hk).2
end
theorem laid_pow:(Rows.laid_internal_strconv_uint64pow10:DataW Unit)=Lib.tabData .u64 Lib.pow10Tab:=by kernel_rfl
theorem t10_of {a b : String × DataW Unit} {W : World} {nm : String} (hnm : Tryz.prog.globalNamed nm = Tryz.prog.globalNamed "internal/strconv.uint64pow10") (h : laidMet Tryz.prog [a, b, (nm, Rows.laid_internal_strconv_uint64pow10)] W) : T10 W := by
 have h2 := laidMet.tail (laidMet.tail h);rw [laid_pow] at h2;have hs : (Tryz.prog.globalNamed "internal/strconv.uint64pow10").isSome = true := by kernel_rfl
 obtain⟨g,hg⟩:=Option.isSome_iff_exists.1 hs;have h3:Lib.TabIs Tryz.prog W nm .u64 Lib.pow10Tab:=by
  refine Lib.tabIs_of_head (t := 232) (e := 67) (n := 20) (hnm.trans hg) ?_ Tryz.underlying232 Tryz.underlying67 (by kernel_rfl) (by kernel_rfl) h2;have : g = (Tryz.prog.globalNamed "internal/strconv.uint64pow10").getD 0 := by rw [hg]; rfl
  rw[this];show _=_;kernel_rfl
 unfold T10 Lib.TabIs World.var? at *;rw[←hnm];exact h3
open Go.ChangeMaps (open_string shut_string)
theorem array9T{α:Type}{cs:Array α}(h:cs.size=9):∃ a b c d e f g h i,cs=#[a,b,c,d,e,f,g,h,i]:=by
 obtain⟨l⟩:=cs
 match l,h with
 | [a,b,c,d,e,f,g,h,i],_=>exact⟨a,b,c,d,e,f,g,h,i,rfl⟩
section
variable {H : Type} {enc : TypeId × Value → H} {W : World} {sp : Nat → Bool} {held : Bool}
theorem open_tapeC{fuel:Nat}{c0 c1 c2:Value}{x:DataW H×List MemPlace}(h:DataW.trod enc Tryz.prog W 0 (fun _=>true) held fuel 30 [c0,c1,c2]=some x):∃(A:Option Addr) (n cap:Nat) (l:List ByteArray) (s:ByteArray) (k:Int),c0=.slice A n cap∧c1=.string s∧c2=.int .i64 k∧SlN W A n cap l:=by
 obtain⟨n1,y1,g1⟩:=trod_at Tryz.underlying30 h 0 _ rfl 1 (by kernel_rfl);have g1:DataW.trod enc Tryz.prog W 0 (fun _=>true) held n1 28 [c0]=some y1:=g1;obtain⟨n2,y2,g2⟩:=trod_at Tryz.underlying30 h 1 _ rfl 1 (by kernel_rfl);have g2:DataW.trod enc Tryz.prog W 0 (fun _=>true) held n2 9 [c1]=some y2:=g2;obtain⟨n3,y3,g3⟩:=trod_at Tryz.underlying30 h 2 _ rfl 1 (by kernel_rfl);have g3:DataW.trod enc Tryz.prog W 0 (fun _=>true) held n3 3 [c2]=some y3:=g3;obtain⟨A,n,cap,l,e0,hs,_⟩:=open_natsC g1;obtain⟨s,e1,_⟩:=DataW.trod_string Tryz.underlying9 g2;obtain⟨k,e2,_⟩:=DataW.trod_int Tryz.underlying3 g3;simp only[List.cons.injEq,and_true]at e0 e1 e2;exact⟨A,n,cap,l,s,k,e0,e1,e2,hs⟩
end
open Go.ChangeMaps (open_string shut_string)
section
variable {H : Type} {enc : TypeId × Value → H} {W : World} {sp : Nat → Bool} {held : Bool}
theorem open_skeyC{fuel:Nat}{c0 c1 c2 c3:Value}{x:DataW H×List MemPlace}(hf:DataW.trod enc Tryz.prog W 0 (fun _=>true) held fuel 26 [c0,c1,c2,c3]=some x):∃ M O G K:ByteArray,c0=.string M∧c1=.string O∧c2=.string G∧c3=.string K:=by
 obtain⟨n1,y1,g1⟩:=trod_at Tryz.underlying26 hf 0 _ rfl 2 (by kernel_rfl);have g1:DataW.trod enc Tryz.prog W 0 (fun _=>true) held n1 24 [c0,c1]=some y1:=g1;obtain⟨n2,y2,g2⟩:=trod_at Tryz.underlying26 hf 1 _ rfl 1 (by kernel_rfl);have g2:DataW.trod enc Tryz.prog W 0 (fun _=>true) held n2 22 [c2]=some y2:=g2;obtain⟨n3,y3,g3⟩:=trod_at Tryz.underlying26 hf 2 _ rfl 1 (by kernel_rfl);have g3:DataW.trod enc Tryz.prog W 0 (fun _=>true) held n3 22 [c3]=some y3:=g3;obtain⟨n4,y4,g4⟩:=trod_at Tryz.underlying24 g1 0 _ rfl 1 (by kernel_rfl);have g4:DataW.trod enc Tryz.prog W 0 (fun _=>true) held n4 22 [c0]=some y4:=g4;obtain⟨n5,y5,g5⟩:=trod_at Tryz.underlying24 g1 1 _ rfl 1 (by kernel_rfl);have g5:DataW.trod enc Tryz.prog W 0 (fun _=>true) held n5 22 [c1]=some y5:=g5;obtain⟨s0,e0,_⟩:=DataW.trod_string Tryz.underlying22 g4;obtain⟨s1,e1,_⟩:=DataW.trod_string Tryz.underlying22 g5;obtain⟨s2,e2,_⟩:=DataW.trod_string Tryz.underlying22 g2;obtain⟨s3,e3,_⟩:=DataW.trod_string Tryz.underlying22 g3;simp only[List.cons.injEq,and_true]at e0 e1 e2 e3;exact⟨s0,s1,s2,s3,e0,e1,e2,e3⟩
end
end Go.Proofs.YtfbmbledklbfgaaGreatDoor
