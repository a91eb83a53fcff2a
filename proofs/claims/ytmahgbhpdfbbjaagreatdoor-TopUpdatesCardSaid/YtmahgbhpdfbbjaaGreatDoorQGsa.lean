import Derived.Test.YtmahgbhpdfbbjaaGreatDoorQGsh
import Derived.Great.Walk
set_option linter.unusedVariables false
namespace Go.Proofs.YtmahgbhpdfbbjaaGreatDoor
open Go.RowKit
def GIz(W0:World)(cs:Array Value)(T:TypeId)(b:Bool)(x:Value)(w:World):Prop:=
 Below W0.heap.size W0 w∧(b=true→∃ B,x=.pointer (some ⟨B,0,none⟩)∧W0.heap.size≤B∧w.heap[B]? =some (.cells cs T (0,0)))
theorem GIz.start{W0:World}{cs:Array Value}{T:TypeId}{x:Value}{w:World}(h:Below W0.heap.size W0 w):GIz W0 cs T false x w:=⟨h,fun e=>by cases e⟩
theorem GIz.step{W0 w w':World}{cs:Array Value}{T:TypeId}{b:Bool}{x:Value}(h:GIz W0 cs T b x w)(hb:Below w.heap.size w w'):GIz W0 cs T b x w':=by
 refine⟨h.1.trans (hb.mono h.1.size),fun e=>?_⟩;obtain⟨B,rfl,hB,hz⟩:=h.2 e;exact⟨B,rfl,hB,(hb.block B (block_lt hz)).trans hz⟩
theorem alloc_zK{P:Program}{ops:Array Oper}{o:Oper}{a:Act}{Q:Exit→Act→World→Prop}{d:Tmp}{cs:Array Value}{T:TypeId}(hg:o.guard=none)(hd:o.dst=some d)(hop:∀(w:World) (ρ:Operand→Value),(execOp ρ o).run P w=.ok (.value (.pointer (some ⟨w.heap.size,0,none⟩))) (w.alloc (.cells cs T))){W0:World} :
 ∀ w,GIz W0 cs T false undef w→∀ K:Act→World→Prop,(∀ x w',GIz W0 cs T true x w'→K (a.put (some d) x) w')→wpList P ops (EndK K Q) [o] a w:=fun w h K hK =>
 Great.wpList_allocTo hg (some d) hd _ _ (hop w a.eval) (hK _ _ ⟨h.1.alloc h.1.size _,fun _=>⟨_,rfl,h.1.size,heap_alloc_new _ _⟩⟩)
end Go.Proofs.YtmahgbhpdfbbjaaGreatDoor
