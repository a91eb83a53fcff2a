import Derived.Test.YtamhonjkgkmdbaaGreatQKyD
import Derived.Maps.OwnSet
import Derived.Maps.OwnOps
import Derived.Maps.Views
import Derived.StringKeys
set_option linter.unusedVariables false
set_option linter.unusedSimpArgs false
namespace Go.Proofs.YtamhonjkgkmdbaaGreat
open Go.RowKit
def stepV(p:Ver→Bool)(acc:Option Ver)(v:Ver):Option Ver:=if p v=true then(match acc with | none=>some v | some u=>if u.num<v.num then some v else some u)else acc
def bestV(p:Ver→Bool)(l:List Ver):Option Ver:=l.foldl (stepV p) none
theorem bestV_snoc(p:Ver→Bool)(l:List Ver)(v:Ver):bestV p (l++[v])=stepV p (bestV p l) v:=by
 unfold bestV;rw[List.foldl_append];rfl
theorem bestV_take{p:Ver→Bool}{l:List Ver}{k:Nat}{v:Ver}(h:l[k]? =some v):bestV p (l.take (k+1))=stepV p (bestV p (l.take k)) v:=by
 rw[List.take_add_one,h,Option.toList_some,bestV_snoc]
theorem bestV_filter(n q:Ver→Bool)(l:List Ver):bestV n (l.filter q)=bestV (fun x=>n x&&q x) l:=by
 unfold bestV;rw[List.foldl_filter];congr 1
 funext acc x
 unfold stepV;cases hq:q x<;>cases hn:n x<;>simp[hn,hq]
open Go.Maps Go.WideMaps
def bestI(p:Ver→Bool)(l:List Ver):Nat→Option Nat
 | 0=>none
 | k+1=>match l[k]? with
  | none=>bestI p l k
  | some v=>if p v=true then(match bestI p l k with
   | none=>some k
   | some i=>match l[i]? with
    | some u=>if u.num<v.num then some k else some i
    | none=>some i)else bestI p l k
theorem bestI_skip{p:Ver→Bool}{l:List Ver}{j:Nat}{v:Ver}(hv:l[j]? =some v)(hp:p v=false):bestI p l (j+1)=bestI p l j:=by
 rw[bestI,hv];simp[hp]
theorem bestI_first{p:Ver→Bool}{l:List Ver}{j:Nat}{v:Ver}(h:bestI p l j=none)(hv:l[j]? =some v)(hp:p v=true):bestI p l (j+1)=some j:=by
 rw[bestI,hv];simp[hp,h]
theorem bestI_more{p:Ver→Bool}{l:List Ver}{j a:Nat}{u v:Ver}(h:bestI p l j=some a)(hu:l[a]? =some u)(hv:l[j]? =some v)(hp:p v=true)(hn:u.num<v.num):bestI p l (j+1)=some j:=by
 rw[bestI,hv];simp[hp,h,hu,hn]
theorem bestI_less{p:Ver→Bool}{l:List Ver}{j a:Nat}{u v:Ver}(h:bestI p l j=some a)(hu:l[a]? =some u)(hv:l[j]? =some v)(hp:p v=true)(hn:¬ u.num<v.num):bestI p l (j+1)=some a:=by
 rw[bestI,hv];simp[hp,h,hu,hn]
theorem bestI_lt{p:Ver→Bool}{l:List Ver}:∀ {k i:Nat},bestI p l k=some i→i<k∧∃ u,l[i]? =some u∧p u=true
 | 0,i,h=>by cases h
 | k+1,i,h=>by
  rw[bestI]at h
  cases hk:l[k]? with
  | none=>rw[hk]at h;obtain⟨h1,h2⟩:=bestI_lt h;exact⟨by omega,h2⟩
  | some v =>
   rw[hk]at h;simp only at h;by_cases hp:p v=true
   · rw[if_pos hp]at h
     cases hl:bestI p l k with
     | none=>rw[hl]at h;cases h;exact⟨by omega,v,hk,hp⟩
     | some j =>
      rw[hl]at h;obtain⟨h1,u,h2,h3⟩:=bestI_lt hl;simp only[h2]at h;split at h
      · cases h;exact⟨by omega,v,hk,hp⟩
      · cases h;exact⟨by omega,u,h2,h3⟩
   · rw[if_neg hp]at h;obtain⟨h1,h2⟩:=bestI_lt h;exact⟨by omega,h2⟩
theorem bestV_I(p:Ver→Bool)(l:List Ver):∀ k,k≤l.length→bestV p (l.take k)=(bestI p l k).bind (fun i=>l[i]?)
 | 0,_=>rfl
 | k+1,hk=>by
  obtain⟨v,hv⟩:∃ v,l[k]? =some v:=⟨_,List.getElem?_eq_getElem (by omega)⟩;have ih:=bestV_I p l k (by omega);rw[bestV_take hv,ih];unfold stepV;by_cases hp:p v=true
  · rw[if_pos hp]
    cases hl:bestI p l k with
    | none=>rw[bestI_first hl hv hp];simp[hv]
    | some a =>
     obtain⟨_,u,hu,_⟩:=bestI_lt hl;by_cases hn:u.num<v.num
     · rw[bestI_more hl hu hv hp hn];simp[hu,hn,hv]
     · rw[bestI_less hl hu hv hp hn];simp[hu,hn]
  · rw[if_neg hp,bestI_skip hv (by simpa using hp)]
theorem bestV_all(p:Ver→Bool)(l:List Ver):bestV p l=(bestI p l l.length).bind (fun i=>l[i]?):=by
 rw[←bestV_I p l l.length (Nat.le_refl _),List.take_length]
theorem lawS:Keyed Tryz.prog 9:=string_keyed Tryz.underlying9
theorem zeroI(w:World):(zeroValue 3).run Tryz.prog w=.ok (.int .i64 0) w:=by kernel_rfl
theorem keyS{s:ByteArray}(h:s.size≤maxLen):keyOf Tryz.prog 9 (.string s)=some (.string s.data.toList):=keyOf_string_mk Tryz.underlying9 h
def MapI(w:World)(b n:Nat)(f:ByteArray→Option Nat):Prop:=∃ D:DataW Unit,w.ownsMap Tryz.prog 9 (plainElem (H:=Unit) Tryz.prog 3) b n D ∧
 ∀ s:ByteArray,Maps.has D (.string s.data.toList)=(f s).isSome∧∀ k,f s=some k→D.atKey (.string s.data.toList) (.lit (.int .i64 0))=.lit (.int .i64 (k:Int))
theorem MapI.made(w:World):MapI (w.alloc (.map #[] 0)) w.heap.size 0 (fun _=>none):=⟨_,World.ownsMap_made _ _ _ _,fun _=>⟨rfl,fun _ h=>by cases h⟩⟩
theorem MapI.lt{w:World}{b n:Nat}{f:ByteArray→Option Nat}(h:MapI w b n f):b<w.heap.size:=let ⟨_,h1,_⟩:=h;h1.lt
theorem MapI.of_block{w w':World}{b n:Nat}{f:ByteArray→Option Nat}(h:MapI w b n f)(e:w'.heap[b]? =w.heap[b]?):MapI w' b n f:=by
 obtain⟨D,⟨es,clock,h1,h2⟩,h3⟩:=h;exact⟨D,⟨es,clock,e.trans h1,h2⟩,h3⟩
theorem MapI.kept{B:Nat}{w w':World}{b n:Nat}{f:ByteArray→Option Nat}(h:MapI w b n f)(hb:Below B w w')(hB:w.heap.size≤B):MapI w' b n f:=
 h.of_block (hb.block b (Nat.lt_of_lt_of_le h.lt hB))
theorem MapI.mono{w:World}{b n n':Nat}{f:ByteArray→Option Nat}(h:MapI w b n f)(hn:n≤n'):MapI w b n' f:=by
 obtain⟨D,h1,h2⟩:=h;exact⟨D,h1.mono hn,h2⟩
theorem MapI.congr{w:World}{b n:Nat}{f g:ByteArray→Option Nat}(h:MapI w b n f)(he:∀ s,f s=g s):MapI w b n g:=by
 obtain⟨D,h1,h2⟩:=h;exact⟨D,h1,fun s=>by rw[←he s];exact h2 s⟩
theorem mapI_put{w':World}{b n:Nat}{f:ByteArray→Option Nat}{h:ByteArray}{k:Nat}{D:DataW Unit}(hf:∀ s:ByteArray,Maps.has D (.string s.data.toList)=(f s).isSome∧∀ k,f s=some k→D.atKey (.string s.data.toList) (.lit (.int .i64 0))=.lit (.int .i64 (k:Int)))(hm:IsMap D)
 (hown:w'.ownsMap Tryz.prog 9 (plainElem (H:=Unit) Tryz.prog 3) b (n+1) (D.put (.string h.data.toList) (.lit (.int .i64 (k:Int))))):MapI w' b (n+1) (fun u=>if h=u then some k else f u):=by
 have hk:WideAt.IsKeyLit (.string h.data.toList):=trivial;refine⟨_,hown,fun s=>?_⟩;dsimp only;by_cases e:h=s
 · subst e;rw[has_put_same hm hk,if_pos rfl];refine⟨rfl,fun j hj=>?_⟩;cases hj;exact atKey_put_same hm hk _ _
 · have hne:(Lit.string s.data.toList)≠(Lit.string h.data.toList):=fun hh=>e (by simp only[Lit.string.injEq]at hh;rw[←bstr_of h,←bstr_of s,hh]);rw[has_put_other hne,if_neg e];refine⟨(hf s).1,fun j hj=>?_⟩;rw[atKey_put_other hne];exact(hf s).2 j hj
def nameP(name:ByteArray)(v:Ver):Bool:=v.name.toList==name.toList
set_option maxRecDepth 100000
set_option maxHeartbeats 4000000
def idxI(o:Option Nat):Int:=match o with
 | some k=>k
 | none => -1
def lastI(l:List Ver)(name:ByteArray):Option Nat:=bestI (nameP name) l l.length
theorem r58_Last(l:List Ver)(A:Option Addr)(len cap:Nat)(name:ByteArray)(w:World)(hs:SlV w A len cap l)(hlen:len≤4096):Calls Tryz.prog 22 #[.slice A len cap,.string name] w (Ret (.int .i64 (idxI (lastI l name))) w):=by
 have HS:=Hq hs;have HLEN:=Hq hs.1;have hcap:=hs.2.1;have hcap2:=hs.2.2.1;clear hs;go_enter Tryz.func22,Tryz.ntmps22;go_wp2;go_loopw [5,6] (fun a i wr=>∃(j:Nat),j≤len∧i=.int .i64 j∧a=.int .i64 (idxI (bestI (nameP name) l j))∧Below w.heap.size w wr) (fun _ i _=>len - (intOf i).toNat);case atStart=>exact⟨0,Nat.zero_le _,rfl,rfl,Below.refl _ _⟩
 case round =>
  obtain⟨j,hj,rfl,rfl,hbb⟩:=hrel;have HB:=Hq hbb;have HSR:=Hq (HS.out.kept hbb (Nat.le_refl _));clear hbb;by_cases hlt:j<len
  · obtain⟨b,o,rfl⟩:=HS.out.head (by omega);obtain⟨v,he⟩:∃ v,l[j]? =some v:=⟨_,List.getElem?_eq_getElem (by rw[HLEN.out];exact hlt)⟩;obtain⟨A1,n1,c1,hvc,_⟩:=HSR.out.get? j he;have d0:wr.drew.cell? ⟨b,o+j * 18,none⟩=some (.string v.name):=hvc.open.1;have e1:wr.drew.cell? ⟨b,o+j * 18+1,none⟩=some (.int .i64 v.num):=hvc.open.2.1;have HE:=Hq he;clear hvc he
    cases hq:(v.name.toList==name.toList)with
    | false =>
     have HP:=Hq (show nameP name v=false from hq);clear e1;generalize hat:idxI (bestI (nameP name) l j)=at_;go_wp2;go_region;go_wp2;go_roundw;case rel=>exact⟨j+1,by omega,by go_num,by rw[bestI_skip HE.out HP.out,hat],HB.out.drew⟩
     case measure=>simp[intOf];omega
    | true =>
     have HP:=Hq (show nameP name v=true from hq)
     cases hi:bestI (nameP name) l j with
     | none =>
      have HI:=Hq hi;clear e1 hi;rw[show idxI none = -1 from rfl];go_wp2;go_region;go_wp2;go_roundw;case rel=>exact⟨j+1,by omega,by go_num,by rw[bestI_first HI.out HE.out HP.out];rfl,HB.out.drew⟩
      case measure=>simp[intOf];omega
     | some a =>
      obtain⟨ha,u,hu,_⟩:=bestI_lt hi;obtain⟨A2,n2,c2,hvc2,_⟩:=HSR.out.get? a hu;have g1:wr.drew.cell? ⟨b,o+a * 18+1,none⟩=some (.int .i64 u.num):=hvc2.open.2.1;have HI:=Hq hi;have HU:=Hq hu;have hal:a<len:=by omega
      have hneg:((a:Int)<0)=False:=eq_false (by omega);rw[show idxI (some a)=(a:Int)from rfl];clear hvc2 hi hu;by_cases hn:u.num<v.num
      · have hn':decide (u.num<v.num)=true:=decide_eq_true hn;have HNN:=Hq hn;clear hn;go_wp2;go_region;go_wp2;go_roundw;case rel=>exact⟨j+1,by omega,by go_num,by rw[bestI_more HI.out HU.out HE.out HP.out HNN.out];rfl,HB.out.drew⟩
        case measure=>simp[intOf];omega
      · have hn':decide (u.num<v.num)=false:=decide_eq_false hn;have HNN:=Hq hn;clear hn;go_wp2;go_region;go_wp2;go_roundw;case rel=>exact⟨j+1,by omega,by go_num,by rw[bestI_less HI.out HU.out HE.out HP.out (Int.not_lt.2 HNN.out)];rfl,HB.out.drew⟩
        case measure=>simp[intOf];omega
  · obtain rfl:j=len:=by omega
    have HL:=Hq (show bestI (nameP name) l j=lastI l name from by unfold lastI;rw[HLEN.out]);clear hlt hj;generalize hat:idxI (bestI (nameP name) l j)=at_;go_wp2;go_ret;exact⟨by rw[←hat,HL.out];rfl,HB.out⟩
end Go.Proofs.YtamhonjkgkmdbaaGreat
