import Derived.Test.YtmahgbhpdfbbjaaGreatDoorQShE
import Derived.Lib.BufferWrite
set_option linter.unusedVariables false
set_option linter.unusedSimpArgs false
namespace Go.Proofs.YtmahgbhpdfbbjaaGreatDoor
open Go.RowKit Go.Lib
def MsgAt(w:World)(g cap:Nat)(l:List UInt8):Prop:=w.ownsRow g 5 1 (.slice (some ⟨g,0,none⟩) l.length cap) l.length (Lib.byteCells l)
theorem MsgAt.kept{w w':World}{g cap:Nat}{l:List UInt8}(h:MsgAt w g cap l)(hb:Below w.heap.size w w'):MsgAt w' g cap l:=owns_kept h hb nlr
theorem MsgAt.lt{w:World}{g cap:Nat}{l:List UInt8}(h:MsgAt w g cap l):g<w.heap.size:=(World.ownsRow.lt h g rfl).2
theorem MsgAt.room{w:World}{g cap:Nat}{l:List UInt8}(h:MsgAt w g cap l):l.length≤cap∧cap≤maxLen:=by
 rcases h.2 with⟨h,_⟩ | ⟨g',cap',cur,hv,_,_,h1,h2,_⟩
 · cases h
 · cases hv;exact⟨h1,h2⟩
theorem MsgAt.bytes{w:World}{g cap:Nat}{l:List UInt8}(h:MsgAt w g cap l):BytesAt w (some ⟨g,0,none⟩) l.length cap l:=by
 refine⟨rfl,h.room.1,by have:=h.room.2;unfold maxLen at this;omega,fun _=>⟨g,0,rfl,fun k hk=>?_⟩⟩;have:=World.ownsRow.cells h rfl k (.int .u8 (byteI l k)) (by
  unfold Lib.byteCells byteI;rw[List.getElem?_map,List.getElem?_eq_getElem hk,List.getD_eq_getElem?_getD,List.getElem?_eq_getElem hk]
  rfl)
 rwa[Addr.add_lit]at this
theorem copied(w:World)(s:ByteArray)(c:Nat)(hs:s.size≤c)(hc:c≤maxLen) :
 MsgAt ((w.alloc (.cells (madeCells #[.int .u8 0] c) 5)).setRow w.heap.size (((madeCells #[.int .u8 0] c).toList.take 0++Lib.byteCells s.data.toList++(madeCells #[.int .u8 0] c).toList.drop (0+s.size)).toArray)) w.heap.size c s.data.toList:=by
 have hl:s.data.toList.length=s.size:=Array.length_toList;refine⟨by simp[Lib.byteCells],.inr ⟨w.heap.size,c,_,rfl,Nat.le_refl _,setRow_heap _ _ _ _ _ _ (heap_alloc_new _ _),by omega,hc,?_,?_⟩⟩
 · simp[byteCells_length,hl,size_madeCells];omega
 · simp[byteCells_length]
def dt(l:List ByteArray):List (List UInt8):=l.map fun s=>s.data.toList
def pb(m:List UInt8)(i:Nat):Nat→Nat
 | 0=>0
 | q+1=>pb m i q * 256+(m.getD (4 * i+q) 0).toNat
def wq(m:List UInt8)(i q:Nat)(j:Nat):BitVec 32:=if j=i then BitVec.ofNat 32 (pb m i q)else wz m i j
set_option maxRecDepth 100000
theorem mod_reducedA(x m:Nat)(hx8:x<256 ^ 128)(hm:m<256 ^ 128)(h0:0<m)(w:World):Calls Tryz.prog 80 #[.string (nS x),.string (nS m)] w (Ret (.string (nS (x%m))) w):=by
 have HD:=Hq (nat_DivModA x m hx8 hm h0);obtain⟨s,hs⟩:=nm (nS x);obtain⟨t,ht⟩:=nm (nS m);rw[hs,ht]at HD;rw[hs,ht];clear hs ht hm hx8;go_enter Tryz.func80,Tryz.ntmps80;go_wp2_with fail;refine(HD.out _).mono ?_;rintro e w1 ⟨rfl,hb⟩;have HB:=Hq hb;clear hb;go_wp2;go_ret;exact⟨rfl,HB.out⟩
open Go.RowKit
def En.cells(e:En):List Value:=[.int .i64 e.kind,.string e.handle,.string e.schema,.int .i64 e.epoch]
end Go.Proofs.YtmahgbhpdfbbjaaGreatDoor
