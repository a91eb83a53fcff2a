import Derived.Test.YtppbcopnfankcaaGreatQFolB
set_option linter.unusedVariables false
set_option linter.unusedSimpArgs false
namespace Go.Proofs.YtppbcopnfankcaaGreat
open Go.RowKit
theorem zde(sb n m bi br:Nat)(I R:ByteArray→Bool)(e:En)(w:World)(hst:StAt w sb n m bi br I R)(hh:e.handle.size≤maxLen)(hsc:e.schema.size≤9223372036854775807)(hmm:m≤4611686018427387903):Calls Tryz.prog 18 #[.pointer (some ⟨sb,0,none⟩),e.val] w (Ret (.int .i64 (folF (msgS e).2 n m (I e.handle) (R e.handle) e.kind e.epoch)) w):=by
 obtain⟨q,h,s,p⟩:=e;have hk:=zns (e:=⟨q,h,s,p⟩);obtain⟨ms,f,hm⟩:∃ ms f,msgS ⟨q,h,s,p⟩=(ms,f):=⟨_,_,rfl⟩;simp only[hm]at hk⊢;by_cases hf:f=0
 · by_cases hn:4096≤n
   · rw[hf,zv0 hn];exact zj8 sb n m bi br I R q p h s w hst hh hsc ms f hm hf hn
   · have hn':n<4096:=by omega
     rw[hf];by_cases hp:p=(m:Int)+(if q=2 then 1 else 0)
     · rw[zn3 hn' hp];rcases hk hf with k | k | k
       · have k':q=0:=k;have hp':p=(m:Int):=by rw[hp,if_neg (by omega)];omega
         cases h0:I h with
         | true=>rw[if_pos ⟨k',rfl⟩];exact zid sb n m bi br I R q p h s w hst hh hsc ms f hm hf hn' hmm (neI (by omega)) (eqI k') (neI (by omega)) (jh hp') h0
         | false=>rw[if_neg (by simp),if_neg (by omega),if_neg (by omega)];exact zgs sb n m bi br I R q p h s w hst hh hsc ms f hm hf hn' hmm (neI (by omega)) (eqI k') (neI (by omega)) (jh hp') h0
       · have k':q=1:=k;have hp':p=(m:Int):=by rw[hp,if_neg (by omega)];omega
         rw[if_neg (by omega)]
         cases h0:I h with
         | false=>rw[if_pos ⟨k',rfl⟩];exact zic sb n m bi br I R q p h s w hst hh hsc ms f hm hf hn' hmm (neI (by omega)) (neI (by omega)) (eqI k') (jh hp') h0
         | true =>
          rw[if_neg (by simp)]
          cases h1:R h with
          | true=>rw[if_pos ⟨k',rfl⟩];exact zia sb n m bi br I R q p h s w hst hh hsc ms f hm hf hn' hmm (neI (by omega)) (neI (by omega)) (eqI k') (jh hp') h0 h1
          | false=>rw[if_neg (by simp)];exact zgr sb n m bi br I R q p h s w hst hh hsc ms f hm hf hn' hmm (neI (by omega)) (neI (by omega)) (eqI k') (jh hp') h0 h1
       · have k':q=2:=k;have hp':p=(m:Int)+1:=by rw[hp,if_pos k']
         rw[if_neg (by omega),if_neg (by omega),if_neg (by omega)];exact zgq sb n m bi br I R q p h s w hst hh hsc ms f hm hf hn' hmm (eqI k') (neI (by omega)) (neI (by omega)) (jh hp')
     · rw[zn4 hn' hp];rcases hk hf with k | k | k
       · have k':q=0:=k;rw[if_neg (by omega)]at hp;exact zie sb n m bi br I R q p h s w hst hh hsc ms f hm hf hn' hmm (neI (by omega)) (eqI k') (neI (by omega)) (bnT (by omega))
       · have k':q=1:=k;rw[if_neg (by omega)]at hp;exact zib sb n m bi br I R q p h s w hst hh hsc ms f hm hf hn' hmm (neI (by omega)) (neI (by omega)) (eqI k') (bnT (by omega))
       · have k':q=2:=k;rw[if_pos k']at hp;exact zh9 sb n m bi br I R q p h s w hst hh hsc ms f hm hf hn' hmm (eqI k') (neI (by omega)) (neI (by omega)) (bnT (by omega))
 · rw[zsf hf];exact zj9 sb n m bi br I R q p h s w hst hh hsc ms f hm (bnT hf)
end Go.Proofs.YtppbcopnfankcaaGreat
