import Derived.Test.YtamhonjkgkmdbaaGreatDoorQExp
import Derived.RangeFuncNested
import Derived.RangeFuncCalls
set_option linter.unusedVariables false
set_option linter.unusedSimpArgs false
namespace Go.Proofs.YtamhonjkgkmdbaaGreatDoor
open Go.RowKit Go.Shelf
theorem letsOut_then{K:Act→World→Prop}{Q:Exit→Act→World→Prop}(h:¬ LetsOut Q):¬ LetsOut (Exit.then K Q):=fun⟨a,w,hq⟩=>h ⟨a,w,hq⟩
theorem letsOut_block{id:Nat}{Q:Exit→Act→World→Prop}(h:¬ LetsOut Q):¬ LetsOut (Exit.inBlock id Q):=fun⟨a,w,hq⟩=>h ⟨a,w,hq⟩
theorem letsOut_own{α:Type}(Kp:World→World→Prop)(I:List α→World→Prop)(Ix:Code→List α→World→Prop)(xs:List α)(W:World):¬ LetsOut (ownPostK Kp I Ix xs W):=fun⟨_,_,h⟩=>h
def nodef:List Oper→Bool:=fun l=>l.all fun o=>match o.op with
 | .defer _=>false
 | _=>true
theorem oper_in{P:Program}{r n:Nat}{o:Oper}{a:Act}{w:World}{K K':Act→World→Prop}{Q:Exit→Act→World→Prop}(hd:∀ c,o.op≠.defer c)(hQ:¬ LetsOut Q)(h:o.wp P a w K Q∨(o.asks P a w∧LetsOut Q))(hK:∀ a w,K a w→K' a w):o.wpIn (Fence.wide.inRound r) n P a w K' Q:=by
 rcases h with h | ⟨_,h⟩
 · refine⟨fun _ _=>trivial,?_⟩;rw[Oper.semAt_eq _ _ _ hd];unfold Oper.wp at h
   cases hr:(execOp a.eval o).run P w with
   | ok x w' =>
    rw[hr]at h
    cases x with
    | value v=>exact hK _ _ h
    | skip=>exact hK _ _ h
    | defer d=>exact hK _ _ h
    | enter f args =>
     refine⟨(fun h0=>absurd h0 (by simp[Fence.wide])),CallsIn.inRound r (callsIn_wide.2 (Calls.mono h ?_))⟩;intro e w'' he
     cases e with
     | returned v=>exact hK _ _ he
     | panicked c=>exact he
     | outgrown=>exact he
    | row row args =>
     refine⟨(fun h0=>absurd h0 (by simp[Fence.wide])),fun c cs _=>?_⟩;obtain⟨v,w'',h1,h2⟩:=h c cs;exact⟨v,w'',hK _ _ h1,(stepsIn_wide (P:=P)).2 h2⟩
    | _=>exact h.elim
   | halt x w' =>
    rw[hr]at h
    cases x with
    | panic v=>exact h
    | _=>exact h.elim
 · exact absurd h hQ
theorem list_in{P:Program}{r n:Nat}{ops:Array Oper}{Q:Exit→Act→World→Prop}(hQ:¬ LetsOut Q):∀(l:List Oper),nodef l=true→∀ a w,wpList P ops Q l a w→wpListIn (Fence.wide.inRound r) n P ops Q l a w
 | [],_,_,_,h=>h
 | o::l,hd,a,w,h=>by
  have hd2:(∀ c,o.op≠.defer c)∧nodef l=true:=(by unfold nodef at hd⊢;rw[List.all_cons,Bool.and_eq_true]at hd;refine⟨fun c hc=>?_,hd.2⟩;rw[hc]at hd;simp at hd);unfold wpList at h;unfold wpListIn;split
  · rename_i hw;rw[if_pos hw]at h;exact oper_in hd2.1 hQ h (fun a w h=>list_in hQ l hd2.2 a w h)
  · rename_i hw;rw[if_neg hw]at h;exact⟨fun _ _=>trivial,list_in hQ l hd2.2 _ _ h⟩
theorem region_in{P:Program}{r n id:Nat}{l:List Oper}{Q:Exit→Act→World→Prop}{a:Act}{w:World}(hQ:¬ LetsOut Q)(hd:nodef l=true)(h:wpList P l.toArray Q l a w):(Code.region id l.toArray false).wpIn (Fence.wide.inRound r) n P Q a w:=
 wpIn_region_lit (list_in hQ l hd a w h)
theorem bodyM_mark{F:Fence}{n:Nat}{P:Program}{fn:Func}{R:Ending→World→Prop}{a:Act}{w:World}{v:Value}{D:Nat}(hk:w.heap[D]? =some (.deferred (some [])))(hd:a.defers=[{ target:=.collected D,args:=#[] }])(hr:(results fn a.tmps).run P (w.putObj D (.deferred none))=.ok v (w.putObj D (.deferred none)))(hR:R (.returned v) (w.putObj D (.deferred none))):bodyPostM F n P fn R .ret a w:=by
 show LeavesInM F n P fn a.tmps R a.defers .returning w;rw[hd];exact⟨by simp,.inl ⟨_,_,rfl,run_takeDeferred hk,v,hr,hR⟩⟩
end Go.Proofs.YtamhonjkgkmdbaaGreatDoor
