import Derived.Test.YthcekkeknonefaaGreatQEpJ
import Derived.Test.YthcekkeknonefaaGreatQEpH
import Derived.Deep.AppendLies
set_option linter.unusedVariables false
set_option linter.unusedSimpArgs false
namespace Go.Proofs.YthcekkeknonefaaGreat
open Go.RowKit
def RetDl(p:Dl×Int)(w:World)(e:Ending)(w':World):Prop:=∃ A n c A' n' c',e=.returned (.tuple #[.agg (p.1.arr (.slice A n c) (.slice A' n' c')),.int .i64 p.2])∧SlN w' A n c p.1.ad∧SlN w' A' n' c' p.1.rm∧Below w.heap.size w w'
def Frs(w:World)(A:Option Addr)(n:Nat):Prop:=0<n→∀ ad,A=some ad→w.heap.size≤ad.block
def RetDlF(p:Dl×Int)(w:World)(e:Ending)(w':World):Prop:=∃ A n c A' n' c',e=.returned (.tuple #[.agg (p.1.arr (.slice A n c) (.slice A' n' c')),.int .i64 p.2])∧SlN w' A n c p.1.ad∧SlN w' A' n' c' p.1.rm∧Frs w A n∧Frs w A' n'∧Below w.heap.size w w'
theorem RetDlF.out{p:Dl×Int}{w w':World}{e:Ending}(h:RetDlF p w e w'):RetDl p w e w':=
 let ⟨A,n,c,A',n',c',h1,h2,h3,_,_,h4⟩:=h
 ⟨A,n,c,A',n',c',h1,h2,h3,h4⟩
theorem Dl.one(d:Dl)(A:Option Addr)(n c:Nat)(A':Option Addr)(n' c':Nat):(d.arr (.slice A n c) (.slice A' n' c')).all (·.oneCell')=true:=by simp[Dl.arr,Value.oneCell']
theorem own_sln{w:World}{base:Nat}{v:Value}{n:Nat}{l:List ByteArray}(h:w.ownsRow base 22 1 v n (l.map Value.string)):∃ A c,v=.slice A n c∧SlN w A n c l∧(0<n→∀ a,A=some a→base≤a.block∧a.block<w.heap.size):=by
 obtain⟨_,A,c,rfl,hs⟩:=SlN.of_owns h;refine⟨A,c,rfl,hs,fun h0 a he=>?_⟩;obtain⟨g,cap,hv,h1,h2⟩:=h.form h0;cases hv;cases he;exact⟨h1,h2⟩
open Go.Maps Go.WideMaps
structure Oth (M:Nat) (w w':World):Prop where
 os:w'.os=w.os
 tape:w'.tape=w.tape
 output:w'.output=w.output
 size:w.heap.size≤w'.heap.size
 block:∀ k,k<w.heap.size→k≠M→w'.heap[k]? =w.heap[k]?
theorem Oth.refl(M:Nat)(w:World):Oth M w w:=⟨rfl,rfl,rfl,Nat.le_refl _,fun _ _ _=>rfl⟩
theorem Oth.trans{M:Nat}{a b c:World}(h:Oth M a b)(k:Oth M b c):Oth M a c:=
 ⟨k.os.trans h.os,k.tape.trans h.tape,k.output.trans h.output,Nat.le_trans h.size k.size,fun i hi hn=>(k.block i (Nat.lt_of_lt_of_le hi h.size) hn).trans (h.block i hi hn)⟩
theorem Oth.of_below{M B:Nat}{w w':World}(h:Below B w w')(hB:w.heap.size≤B):Oth M w w':=⟨h.os,h.tape,h.output,h.size,fun k hk _=>h.block k (Nat.lt_of_lt_of_le hk hB)⟩
theorem Oth.alloc{M:Nat}(w:World)(o:Obj):Oth M w (w.alloc o):=Oth.of_below ((Below.refl w.heap.size w).alloc (Nat.le_refl _) o) (Nat.le_refl _)
theorem Oth.grown{M:Nat}{w0 w w':World}{r:Option Nat}(h:Oth M w0 w)(hg:w.grownBy w' r)(hr:∀ k,r=some k→w0.heap.size≤k∨k=M):Oth M w0 w':=
 ⟨hg.os.trans h.os,hg.tape.trans h.tape,hg.output.trans h.output,Nat.le_trans h.size hg.size,fun k hk hn=>(hg.block k (Nat.lt_of_lt_of_le hk h.size) (fun e=>by rcases hr k e.symm with h' | h'<;>omega)).trans (h.block k hk hn)⟩
theorem Oth.setCell{M:Nat}{w0 w:World}(h:Oth M w0 w)(k:Nat)(u:Value):Oth M w0 (w.setCell ⟨M,k,none⟩ u):=by
 refine⟨h.os,h.tape,h.output,by simpa using h.size,fun i hi hn=>?_⟩;rw[heap_setCell_other _ _ _ _ (show i≠M from hn)];exact h.block i hi hn
theorem Oth.below{M:Nat}{w w':World}(h:Oth M w w')(hM:M≤w.heap.size):Below M w w':=⟨h.os,h.tape,h.output,h.size,fun k hk=>h.block k (by omega) (by omega)⟩
theorem Oth.box{M B:Nat}{w w':World}{cs:Array Value}{T:TypeId}(h:Oth M w w')(hb:BxC w B cs T)(hn:B≠M):BxC w' B cs T:=(h.block B hb.lt hn).trans hb
theorem Oth.map{M b n:Nat}{w w':World}{K:List ByteArray}{g:ByteArray→Int}(h:Oth M w w')(hb:MapZ w b n K g)(hn:b≠M):MapZ w' b n K g:=hb.of_block (h.block b hb.lt hn)
def occ:List ByteArray→ByteArray→Int
 | [],_=>0
 | y::l,x=>(if x=y then 1 else 0)+occ l x
theorem occ_append(l l':List ByteArray)(x:ByteArray):occ (l++l') x=occ l x+occ l' x:=by
 induction l with
 | nil=>simp[occ]
 | cons y l ih=>simp only[List.cons_append,occ,ih];omega
theorem occ_bound(l:List ByteArray)(x:ByteArray):0≤occ l x∧occ l x≤l.length:=by
 induction l with
 | nil=>simp[occ]
 | cons y l ih=>simp only[occ,List.length_cons];split<;>omega
theorem occ_out{l:List ByteArray}{x:ByteArray}(h:x∉l):occ l x=0:=by
 induction l with
 | nil=>rfl
 | cons y l ih =>
  simp only[List.mem_cons,not_or]at h;simp only[occ,if_neg h.1,ih h.2];rfl
theorem occ_ind{l:List ByteArray}(hnd:l.Nodup)(x:ByteArray):occ l x=ind l x:=by
 induction l with
 | nil=>rfl
 | cons y l ih =>
  obtain⟨h1,h2⟩:=List.nodup_cons.1 hnd;simp only[occ];by_cases e:x=y
  · subst e;rw[if_pos rfl,occ_out h1,ind_in List.mem_cons_self];rfl
  · rw[if_neg e,ih h2];rcases ind_cases l x with⟨h,e1⟩ | ⟨h,e1⟩
    · rw[e1,ind_in (List.mem_cons_of_mem _ h)];rfl
    · rw[e1,ind_out (by simp only[List.mem_cons,not_or];exact⟨e,h⟩)];rfl
def gad(s:Int)(g:ByteArray→Int)(l:List ByteArray)(x:ByteArray):Int:=g x+s * occ l x
def MS(w:World)(M:Nat)(K:List ByteArray)(g:ByteArray→Int):Prop:=MapZ w M K.length K g∧∀ x,-(K.length:Int)≤g x∧g x≤K.length
theorem MS.made(w:World):MS (w.alloc (.map #[] 0)) w.heap.size [] (fun _=>0):=⟨MapZ.made w,fun _=>by simp⟩
theorem Oth.ms{M b:Nat}{w w':World}{K:List ByteArray}{g:ByteArray→Int}(h:Oth M w w')(hb:MS w b K g)(hn:b≠M):MS w' b K g:=⟨h.map hb.1 hn,hb.2⟩
theorem MS.below{B b:Nat}{w w':World}{K:List ByteArray}{g:ByteArray→Int}(h:MS w b K g)(hb:Below B w w')(hB:w.heap.size≤B):MS w' b K g:=⟨h.1.kept hb hB,h.2⟩
theorem gad_step(s:Int)(g:ByteArray→Int){l:List ByteArray}{j:Nat}{y:ByteArray}(hy:l[j]? =some y):(fun u=>if u=y then gad s g (l.take j) y+s else gad s g (l.take j) u)=gad s g (l.take (j+1)):=by
 funext u
 unfold gad;rw[List.take_add_one,hy,Option.toList_some,occ_append];simp only[occ];by_cases e:u=y
 · subst e;rw[if_pos rfl,if_pos rfl];rw[Int.mul_add];simp;omega
 · rw[if_neg e,if_neg e];simp
theorem wfZ{c:Int}(h:-9223372036854775808≤c)(h':c≤9223372036854775807):(Lit.int .i64 c).wf=true:=by
 have h1:IntKind.i64.min = -9223372036854775808:=rfl;have h2:IntKind.i64.max=9223372036854775807:=rfl;simp[Lit.wf,h1,h2];omega
def KK(a b:Dl):Nat→List ByteArray
 | 0=>[]
 | 1=>[]++a.ad++a.rm
 | _+2=>[]++a.ad++a.rm++b.ad++b.rm
def GG(a b:Dl):Nat→ByteArray→Int
 | 0=>fun _=>0
 | 1=>gad (-1) (gad 1 (fun _=>0) a.ad) a.rm
 | _+2=>gad (-1) (gad 1 (gad (-1) (gad 1 (fun _=>0) a.ad) a.rm) b.ad) b.rm
theorem gad_bound{s:Int}(hs:s=1∨s = -1){K l:List ByteArray}{g:ByteArray→Int}(h:∀ x,-(K.length:Int)≤g x∧g x≤K.length):∀ x,-((K++l).length:Int)≤gad s g l x∧gad s g l x≤(K++l).length:=fun x=>by
 have h1:=h x;have h2:=occ_bound l x;unfold gad;rw[List.length_append];rcases hs with rfl | rfl<;>omega
theorem ms_start{w:World}{M:Nat}{K l:List ByteArray}{g:ByteArray→Int}(s:Int)(h:MS w M K g):MS w M (K++l.take 0) (gad s g (l.take 0)):=by
 have : gad s g (l.take 0)=g:=by funext x;unfold gad;simp[occ]
 rw[this];simpa using h
theorem SlN.oth{M:Nat}{w w':World}{A:Option Addr}{n c:Nat}{l:List ByteArray}(h:SlN w A n c l)(hM:0<n→∀ ad,A=some ad→ad.block<M)(ho:Oth M w w'):SlN w' A n c l:=
 h.of_blocks (fun h0 ad he=>ho.block _ (by subst he;exact h.lt h0) (Nat.ne_of_lt (hM h0 ad he)))
theorem gg_chg{a b:Dl}(ha:a.Good)(hb:b.Good)(x:ByteArray):GG a b 2 x=chg a b x:=by
 show gad (-1) (gad 1 (gad (-1) (gad 1 (fun _=>0) a.ad) a.rm) b.ad) b.rm x=_;unfold chg gad;rw[occ_ind ha.aad.nodup,occ_ind ha.arm.nodup,occ_ind hb.aad.nodup,occ_ind hb.arm.nodup];dsimp only;omega
theorem mem_KK{a b:Dl}(x:ByteArray):x∈KK a b 2↔x∈a.ad++a.rm++b.ad++b.rm:=by simp[KK]
theorem valid_KK{a b:Dl}(ha:a.Good)(hb:b.Good):∀ s∈KK a b 2,nvalid s=true:=fun s hs=>by
 rw[mem_KK]at hs;simp only[List.mem_append]at hs;rcases hs with((h | h) | h) | h
 · exact ha.vad s h
 · exact ha.vrm s h
 · exact hb.vad s h
 · exact hb.vrm s h
theorem own_keep{w w':World}{base n:Nat}{v:Value}{T:TypeId}{sz:Nat}{xs:List Value}(h:w.ownsRow base T sz v n xs)(hk:∀ k,v.ownBlock=some k→w'.heap[k]? =w.heap[k]?):w'.ownsRow base T sz v n xs:=by
 refine⟨h.1,?_⟩;rcases h.2 with h | ⟨g,cap,cur,hv,hb,hh,r⟩
 · exact .inl h
 · exact .inr ⟨g,cap,cur,hv,hb,(hk g (by rw[hv];rfl)).trans hh,r⟩
def jcs(f t:Int)(be af:ByteArray)(v1 v2:Value):Array Value:=#[.int .i64 f,.int .i64 t,v1,v2,.string be,.string af,.string ⟨#[]⟩,.string ⟨#[]⟩]
structure JS (w0 w:World) (B:Nat) (f t:Int) (be af:ByteArray) (v1 v2:Value) (f1 f2:List ByteArray):Prop where
 box:BxC w B (jcs f t be af v1 v2) 32
 r1:w.ownsRow w0.heap.size 22 1 v1 f1.length (f1.map Value.string)
 r2:w.ownsRow w0.heap.size 22 1 v2 f2.length (f2.map Value.string)
 ne:∀ k,v1.ownBlock=some k→v2.ownBlock≠some k
 oth:Oth B w0 w
 lt:B<w0.heap.size
theorem JS.own1{w0 w:World}{B:Nat}{f t:Int}{be af:ByteArray}{v1 v2:Value}{f1 f2:List ByteArray}(h:JS w0 w B f t be af v1 v2 f1 f2){k:Nat}(hk:v1.ownBlock=some k):w0.heap.size≤k∧k<w.heap.size:=by
 exact h.r1.lt k hk
theorem JS.own2{w0 w:World}{B:Nat}{f t:Int}{be af:ByteArray}{v1 v2:Value}{f1 f2:List ByteArray}(h:JS w0 w B f t be af v1 v2 f1 f2){k:Nat}(hk:v2.ownBlock=some k):w0.heap.size≤k∧k<w.heap.size:=by
 exact h.r2.lt k hk
theorem JS.box1{w0 w w2:World}{B:Nat}{f t:Int}{be af:ByteArray}{v1 v2:Value}{f1 f2:List ByteArray}{o:Obj}(h:JS w0 w B f t be af v1 v2 f1 f2)(hg:(w.alloc o).grownBy w2 v1.ownBlock):BxC w2 B (jcs f t be af v1 v2) 32:=by
 have hs:=h.oth.size;have hB:=h.lt;exact((hg.block B (by simp;omega) (fun e=>by have:=(h.own1 e.symm).1;omega)).trans (((Below.refl w.heap.size w).alloc (Nat.le_refl _) o).block B (by omega))).trans h.box
theorem JS.box2{w0 w w2:World}{B:Nat}{f t:Int}{be af:ByteArray}{v1 v2:Value}{f1 f2:List ByteArray}{o:Obj}(h:JS w0 w B f t be af v1 v2 f1 f2)(hg:(w.alloc o).grownBy w2 v2.ownBlock):BxC w2 B (jcs f t be af v1 v2) 32:=by
 have hs:=h.oth.size;have hB:=h.lt;exact((hg.block B (by simp;omega) (fun e=>by have:=(h.own2 e.symm).1;omega)).trans (((Below.refl w.heap.size w).alloc (Nat.le_refl _) o).block B (by omega))).trans h.box
theorem JS.step1{w0 w w2:World}{B g cap:Nat}{f t:Int}{be af x:ByteArray}{v1 v2:Value}{f1 f2:List ByteArray}{o:Obj}(h:JS w0 w B f t be af v1 v2 f1 f2)
 (hown:w2.ownsRow w0.heap.size 22 1 (.slice (some ⟨g,0,none⟩) (f1.length+1) cap) (f1.length+1) (f1.map Value.string++[.string x])) (hg:(w.alloc o).grownBy w2 v1.ownBlock) (hat:v1.ownBlock=some g∨g=(w.alloc o).heap.size) :
 JS w0 (w2.setCell ⟨B,2,none⟩ (.slice (some ⟨g,0,none⟩) (f1.length+1) cap)) B f t be af (.slice (some ⟨g,0,none⟩) (f1.length+1) cap) v2 (f1++[x]) f2:=by
 have hs:=h.oth.size;have hB:=h.lt;have hb1:∀ k,k<w.heap.size→v1.ownBlock≠some k→w2.heap[k]? =w.heap[k]?:=fun k hk hn=>(hg.block k (by simp;omega) (fun e=>hn e.symm)).trans (((Below.refl w.heap.size w).alloc (Nat.le_refl _) o).block k hk);have hbx:BxC w2 B (jcs f t be af v1 v2) 32:=(hb1 B (by omega) (fun e=>by have:=(h.own1 e).1;omega)).trans h.box;have hgB:w0.heap.size≤g:=by
  rcases hat with e | e
  · exact(h.own1 e).1
  · rw[e];simp;omega
 refine⟨by have:=hbx.set (k:=2) (.slice (some ⟨g,0,none⟩) (f1.length+1) cap);exact this,?_,?_,fun k hk=>?_,?_,h.lt⟩
 · rw[List.length_append,List.map_append];refine own_keep hown (fun k hk=>?_);have : g=k:=by simpa[Value.ownBlock]using hk
   exact heap_setCell_other _ _ _ _ (show k≠B by omega)
 · refine own_keep h.r2 (fun k hk=>?_);have:=h.own2 hk;rw[heap_setCell_other _ _ _ _ (show k≠B by omega)];exact hb1 k this.2 (fun e=>h.ne k e hk)
 · have hgk:g=k:=by simpa[Value.ownBlock]using hk
   subst hgk;intro e;rcases hat with e' | e'
   · exact h.ne g e' e
   · have:=(h.own2 e).2;rw[e']at this;simp at this;omega
 · exact((h.oth.trans (Oth.alloc w o)).grown hg (fun k hk=>.inl (h.own1 hk).1)).setCell 2 _
theorem JS.step2{w0 w w2:World}{B g cap:Nat}{f t:Int}{be af x:ByteArray}{v1 v2:Value}{f1 f2:List ByteArray}{o:Obj}(h:JS w0 w B f t be af v1 v2 f1 f2)
 (hown:w2.ownsRow w0.heap.size 22 1 (.slice (some ⟨g,0,none⟩) (f2.length+1) cap) (f2.length+1) (f2.map Value.string++[.string x])) (hg:(w.alloc o).grownBy w2 v2.ownBlock) (hat:v2.ownBlock=some g∨g=(w.alloc o).heap.size) :
 JS w0 (w2.setCell ⟨B,3,none⟩ (.slice (some ⟨g,0,none⟩) (f2.length+1) cap)) B f t be af v1 (.slice (some ⟨g,0,none⟩) (f2.length+1) cap) f1 (f2++[x]):=by
 have hs:=h.oth.size;have hB:=h.lt;have hb1:∀ k,k<w.heap.size→v2.ownBlock≠some k→w2.heap[k]? =w.heap[k]?:=fun k hk hn=>(hg.block k (by simp;omega) (fun e=>hn e.symm)).trans (((Below.refl w.heap.size w).alloc (Nat.le_refl _) o).block k hk);have hbx:BxC w2 B (jcs f t be af v1 v2) 32:=(hb1 B (by omega) (fun e=>by have:=(h.own2 e).1;omega)).trans h.box;have hgB:w0.heap.size≤g:=by
  rcases hat with e | e
  · exact(h.own2 e).1
  · rw[e];simp;omega
 refine⟨by have:=hbx.set (k:=3) (.slice (some ⟨g,0,none⟩) (f2.length+1) cap);exact this,?_,?_,fun k hk e=>?_,?_,h.lt⟩
 · refine own_keep h.r1 (fun k hk=>?_);have:=h.own1 hk;rw[heap_setCell_other _ _ _ _ (show k≠B by omega)];exact hb1 k this.2 (fun e=>h.ne k hk e)
 · rw[List.length_append,List.map_append];refine own_keep hown (fun k hk=>?_);have : g=k:=by simpa[Value.ownBlock]using hk
   exact heap_setCell_other _ _ _ _ (show k≠B by omega)
 · have hgk:g=k:=by simpa[Value.ownBlock]using e
   subst hgk;rcases hat with e' | e'
   · exact h.ne g hk e'
   · have:=(h.own1 hk).2;rw[e']at this;simp at this;omega
 · exact((h.oth.trans (Oth.alloc w o)).grown hg (fun k hk=>.inl (h.own2 hk).1)).setCell 3 _
theorem JS.start{w0:World}{B:Nat}{f t:Int}{be af:ByteArray}(h:BxC w0 B (jcs f t be af (.slice none 0 0) (.slice none 0 0)) 32):JS w0 w0 B f t be af (.slice none 0 0) (.slice none 0 0) [] []:=
 ⟨h,World.ownsRow_nil _ _ _ _,World.ownsRow_nil _ _ _ _,(fun k hk=>by cases hk),Oth.refl _ _,h.lt⟩
theorem filter_take{l:List ByteArray}{j:Nat}{x:ByteArray}(hx:l[j]? =some x)(p:ByteArray→Bool):(l.take (j+1)).filter p=(l.take j).filter p++(if p x=true then [x]else []):=by
 rw[List.take_add_one,hx,Option.toList_some,List.filter_append];congr 1;by_cases h:p x=true<;>simp[h]
end Go.Proofs.YthcekkeknonefaaGreat
