import Derived.Test.YtppbcopnfankcaaGreatQShC
import Derived.Test.YtppbcopnfankcaaGreatQLedM
set_option linter.unusedVariables false
set_option linter.unusedSimpArgs false
namespace Go.Proofs.YtppbcopnfankcaaGreat
def zah(n:Nat):Nat:=2 ^ Nat.log2 (n - 1)
theorem zeh{n:Nat}(h:2≤n):zah n<n:=by
 unfold zah;have:=Nat.log2_self_le (n:=n - 1) (by omega);omega
theorem zc0(n:Nat):1≤zah n:=Nat.one_le_two_pow
theorem znz{n j:Nat}(h1:2 ^ j<n)(h2:n≤2 * 2 ^ j):zah n=2 ^ j:=by
 unfold zah;have hp:1≤2 ^ j:=Nat.one_le_two_pow;have a:Nat.log2 (n - 1)<j+1:=(Nat.log2_lt (by omega)).2 (by rw[Nat.pow_succ];omega);have b:j≤Nat.log2 (n - 1):=(Nat.le_log2 (by omega)).2 (by omega);rw[show Nat.log2 (n - 1)=j from by omega]
def zpu(s:ByteArray):ByteArray:=bstr (shaL (0::s.data.toList))
def zpj(a b:ByteArray):ByteArray:=bstr (shaL (1::(a.data.toList++b.data.toList)))
def zb0:Nat→List ByteArray→ByteArray
 | 0,_=>bstr (shaL [])
 | f+1,l=>if l.length=0 then bstr (shaL [])else if l.length=1 then zpu (l.headD ⟨#[]⟩)else zpj (zb0 f (l.take (zah l.length))) (zb0 f (l.drop (zah l.length)))
theorem zpa(f:Nat)(l:List ByteArray):zb0 (f+1) l=if l.length=0 then bstr (shaL [])else if l.length=1 then zpu (l.headD ⟨#[]⟩)else zpj (zb0 f (l.take (zah l.length))) (zb0 f (l.drop (zah l.length))):=rfl
theorem q9:∀(f g:Nat) (l:List ByteArray),l.length≤f→l.length≤g→zb0 f l=zb0 g l
 | 0,0,_,_,_=>rfl
 | 0,g+1,l,h,_=>by
  unfold zb0;rw[if_pos (by omega)]
 | f+1,0,l,_,h=>by
  unfold zb0;rw[if_pos (by omega)]
 | f+1,g+1,l,h1,h2=>by
  unfold zb0;by_cases h0:l.length=0
  · rw[if_pos h0,if_pos h0]
  · rw[if_neg h0,if_neg h0];by_cases h3:l.length=1
    · rw[if_pos h3,if_pos h3]
    · rw[if_neg h3,if_neg h3];have:=zeh (n:=l.length) (by omega);have:=zc0 l.length;rw[q9 f g (l.take (zah l.length)) (by rw[List.length_take];omega) (by rw[List.length_take];omega),q9 f g (l.drop (zah l.length)) (by rw[List.length_drop];omega) (by rw[List.length_drop];omega)]
def qj(l:List ByteArray):ByteArray:=zb0 l.length l
theorem zct:qj []=bstr (shaL []):=rfl
theorem zkf(x:ByteArray):qj [x]=zpu x:=rfl
theorem zhg{l:List ByteArray}(h:2≤l.length):qj l=zpj (qj (l.take (zah l.length))) (qj (l.drop (zah l.length))):=by
 obtain⟨f,hf⟩:∃ f,l.length=f+1:=⟨l.length - 1,by omega⟩;have h1:=zeh h;have h2:=zc0 l.length;unfold qj;rw[show zb0 l.length l=zb0 (f+1) l from by rw[hf],zpa,if_neg (show ¬ l.length=0 by omega),if_neg (show ¬ l.length=1 by omega),←q9 (l.take (zah l.length)).length f _ nlr (by rw[List.length_take];omega),←q9 (l.drop (zah l.length)).length f _ nlr (by rw[List.length_drop];omega)]
open Go.RowKit
def zbm(l:List En):List ByteArray×Int:=match l.find? (fun e=>decide ((msgS e).2≠0))with
 | some e=>([],(msgS e).2)
 | none=>(l.map (fun e=>(msgS e).1),0)
theorem zk9{l:List En}{j:Nat}{e:En}(he:l[j]? =some e)(hb:(msgS e).2≠0)(hall:∀(i:Nat) x,i<j→l[i]? =some x→(msgS x).2=0):zbm l=([],(msgS e).2):=by
 have : l.find? (fun e=>decide ((msgS e).2≠0))=some e:=by
  rw[List.find?_eq_some_iff_getElem];obtain⟨hj,he⟩:=List.getElem?_eq_some_iff.1 he;exact⟨by simpa using hb,j,hj,he,fun i hi=>by
   have:=hall i l[i] hi (List.getElem?_eq_getElem _)
   simp[this]⟩
 unfold zbm;rw[this]
theorem zdh{l:List En}(hall:∀(i:Nat) x,l[i]? =some x→(msgS x).2=0):zbm l=(l.map (fun e=>(msgS e).1),0):=by
 have : l.find? (fun e=>decide ((msgS e).2≠0))=none:=(by rw[List.find?_eq_none];intro x hx;obtain⟨i,hi⟩:=List.getElem?_of_mem hx;simp[hall i x hi]);unfold zbm;rw[this]
theorem zk8{l:List En}(h:(zbm l).2=0):(zbm l).1=l.map (fun e=>(msgS e).1):=by
 unfold zbm at *;split at h
 · rename_i e he;have:=List.find?_some he;simp at this;exact absurd h this
 · rfl
theorem zh0(x:It):(encS x).1.size≤1000000:=by
 unfold encS;split
 · show (⟨#[]⟩:ByteArray).size≤_;decide
 · split
   · show (⟨#[]⟩:ByteArray).size≤_;decide
   · split
     · show (⟨#[]⟩:ByteArray).size≤_;decide
     · rw[zm];omega
theorem zla(e:En):(msgS e).1.size≤1000000:=by
 unfold msgS;split
 · show (⟨#[]⟩:ByteArray).size≤_;decide
 · split
   · show (⟨#[]⟩:ByteArray).size≤_;decide
   · exact zh0 _
abbrev itsH(n:Nat)(r:ByteArray):List It:=[.mk 1 ⟨#[]⟩ ⟨#[104,101,97,100]⟩ [],.mk 0 (bstr (encN n)) ⟨#[]⟩ [],.mk 1 ⟨#[]⟩ r []]
def itH(n:Nat)(r:ByteArray):It:=.mk 2 ⟨#[]⟩ ⟨#[]⟩ (itsH n r)
def hdS(n:Nat)(r:ByteArray):ByteArray:=(encS (itH n r)).1
theorem zdi{n:Nat}{r:ByteArray}(hn:n≤100000)(hr:r.size≤100):(itH n r).weight≤1000:=by
 have h1:(encN n).length≤8:=jt.2 (by omega);simp only[itH,It.weight,Its.weight,zm];have e1:(⟨#[]⟩:ByteArray).size=0:=rfl;have e2:(⟨#[104,101,97,100]⟩:ByteArray).size=4:=rfl;omega
theorem zy6{n:Nat}{r:ByteArray}(hn:n≤100000)(hr:r.size≤100):encS (itH n r)=(hdS n r,0):=by
 have hv:zc (bstr (encN n))=true:=(zj (n:=n)).2 (Nat.lt_of_le_of_lt hn (by decide));have e1:(itH n r).valid=true:=(by unfold itH It.valid;rw[if_neg (by decide),if_neg (by decide),if_pos rfl];simp only[itsH,Its.valid,It.valid,hv];rfl);have e2:(itH n r).depth=1:=rfl;have e3:(itH n r).bytes.length≤1000:=Nat.le_trans (It.bytes_le _) (zdi hn hr);have : (encS (itH n r)).2=0:=(by unfold encS;rw[if_neg (by rw[e1];decide),if_neg (by rw[e2];decide),if_neg (by omega)]);exact Prod.ext rfl this
theorem zny(n:Nat)(r:ByteArray):(hdS n r).size≤1000000:=zh0 _
theorem zyf{w:World}{T:TypeId}{fr:Nat×Nat}{b:Nat}{k0 k1 k2:Int}{n0 n1 n2 t0 t1 t2:ByteArray}
 (hb:w.heap[b]? =some (.cells #[.int .i64 k0,.string n0,.string t0,.slice none 0 0,.int .i64 k1,.string n1,.string t1,.slice none 0 0,.int .i64 k2,.string n2,.string t2,.slice none 0 0] T fr)) :
 SlAt w (fun _=>True) (some ⟨b,0,none⟩) 3 3 [.mk k0 n0 t0 [],.mk k1 n1 t1 [],.mk k2 n2 t2 []]:=by
 have hc:=fun k=>Lib.cell_of_heap hb (j:=k);refine⟨rfl,Nat.le_refl _,by omega,b,0,fun _=>⟨rfl,trivial⟩,?_⟩;refine⟨CellsAt.mk' (hc 0) (hc 1) (hc 2) (hc 3) (SlAt.nil _ _),CellsAt.mk' (hc 4) (hc 5) (hc 6) (hc 7) (SlAt.nil _ _),CellsAt.mk' (hc 8) (hc 9) (hc 10) (hc 11) (SlAt.nil _ _),trivial⟩
end Go.Proofs.YtppbcopnfankcaaGreat
