/- Part 6 of a proof of what the last text states; no condition. -/
import Derived.Test.YtdecokaadekjnaaGreatW5
namespace Go.Proofs.YtdecokaadekjnaaGreat
open Go Go.RowKit T Classical
def wO (w:World)(v:Value)(l:List Tx):Prop:=
 (∃a cap,v= .slice a l.length cap)/\∀i (h:i< l.length),∃b off cap,v= .slice (some ⟨b,off,none⟩) l.length cap/\b< w.heap.size/\w.cell? ⟨b,off+i,none⟩=some (.string (ab l[i]))/\l[i].length<=maxLen
theorem wO.ex {w w':World}{v:Value}{l:List Tx}(h:wO w v l)(x:Ex w w'):wO w' v l:=⟨h.1,λi z=>by
 obtain⟨b,off,cap,G,H,I,h4⟩:=h.2 i z;have :=x.size;exact⟨b,off,cap,G,by omega,by rw [x.cell (a:=⟨b,_,none⟩) H];exact I,h4⟩⟩
theorem Iz {w:World}{v:Value}{l:List Tx}(h:wO w v l)(V:l.length<=maxLen){R:Int->World->Prop}(z:∀n:Int,(n< 0\/l.length<=1048576)->R n w):
  Calls Tryz.prog 30 #[v,.int .i64 1048576] w (an [.i] R):=by
 refine oD v 1048576 w R ?_;obtain⟨a,c,J⟩:=h.1;unfold maxLen at V;refine⟨a,_,c,J,by unfold aj;omega,λW=>z _ (.inl (by omega)),λG=>?_⟩;have G:l.length<=1048576:=by simp only [JE]at G;omega
 refine⟨λk i w'=>w'=w/\(0<=k/\k<=1048576)/\∃j:Nat,i=j/\j<=l.length,λ _ i _=>(l.length - i).toNat,⟨rfl,⟨by omega,by omega⟩,0,rfl,Ks _⟩,λk i w' Z=>?_⟩;obtain⟨rfl,⟨α,β⟩,j,rfl,hj⟩:=Z;refine⟨a,_,c,J,λH=>?_,λγ=>z _ (.inr G)⟩;have I:j< l.length:=by simp only [JD]at H;omega
 obtain⟨b,off,cap,h1,h2,h3,h4⟩:=h.2 j I;unfold maxLen at h4;refine⟨b,off,_,cap,h1,by omega,by omega,l[j],by rw [JI,Kc];exact h3,by unfold aj;omega,λW=>z _ (.inl (by omega)),λhq=>⟨by unfold aj;omega,⟨rfl,⟨?_,by omega⟩,j+1,by omega,by omega⟩,by show((l.length:Int) - ((j:Int)+1)).toNat< ((l.length:Int) - j).toNat;omega⟩⟩;simp only [JE]at hq;omega
theorem A6 {w:World}{v:Value}{l:List Tx}(h:wO w v l)(hl:l.length<=1048576){R:Value->World->Prop}(hR:∀v' w',Ex w w'->Own w.heap.size w' v' l->R v' w'):
  Calls Tryz.prog 32 #[v] w (an [.v] R):=by
 refine nX v w R ?_;obtain⟨a,c,W⟩:=h.1;refine⟨a,_,c,W,⟨by omega,rfl,by omega⟩,λb Z hb z=>?_⟩;have x6:Ex w Z:=z▸Ex.alloc w _;have o6:Own w.heap.size Z (.slice (some ⟨b,0,none⟩) l.length l.length) (List.replicate l.length []):=by
  subst hb z;refine⟨by simp,.inr ⟨_,l.length,(List.replicate l.length (.string ⟨#[]⟩)).toArray,by simp,JL _,?_,by simp,by unfold maxLen;omega,by simp,by simp [sv,ab]⟩⟩;unfold World.alloc;simp
 refine⟨λi w'=>∃j:Nat,i=j/\j<=l.length/\Ex w w'/\Own w.heap.size w' (.slice (some ⟨b,0,none⟩) l.length l.length) (l.take j++List.replicate (l.length - j) []),λi _=>(l.length - i).toNat,⟨0,rfl,Ks _,x6,by simpa using o6⟩,λi w' hI=>?_⟩;obtain⟨j,rfl,hj,x,G⟩:=hI;have el:((l.length:Int)).toNat=l.length:=JI _;refine⟨a,_,c,W,λJ=>?_,λV=>?_⟩
 ·have H:j< l.length:=by simp only [JD]at J;omega
  obtain⟨b1,off,cap,h1,h2,h3,_⟩:=(h.ex x).2 j H;refine⟨b1,off,_,cap,h1,by omega,by omega,l[j],by rw [JI,Kc];exact h3,b,0,_,_,rfl,by omega,by omega,?_⟩;dsimp only;rw [show 0+(j:Int).toNat* 1=j by omega];have hlen:(l.take j++List.replicate (l.length - j) []).length=l.length:=by rw [JJ,Kf,List.length_replicate];omega
  obtain⟨b2,o2,c2,e1,e2,e3⟩:=G.strs.at (i:=j) (by omega);simp only [Value.slice.injEq,KP,Addr.mk.injEq]at e1;obtain⟨⟨rfl,rfl,_⟩,_,_⟩:=e1;rw [J']at e3;have hf:w'.frozen? ⟨b,j,none⟩=false:=by
   rcases G.2 with⟨e,_⟩ | ⟨g,_,cur,e,_,hg,_⟩
   ·cases e
   ·simp only [Value.slice.injEq,KP,Addr.mk.injEq]at e;obtain⟨⟨rfl,_⟩,_,_⟩:=e;unfold World.frozen?;simp only [hg];simp
  refine⟨⟨⟨_,e3⟩,hf⟩,λw3 I=>⟨by unfold aj;omega,⟨j+1,by omega,by omega,?_,?_⟩,by show((l.length:Int) - ((j:Int)+1)).toNat< ((l.length:Int) - j).toNat;omega⟩⟩
  ·rw [I];exact Ex.own x (by omega) _
  ·have :=AK G I (by omega);have e:(l.take j++List.replicate (l.length - j) []).set j l[j]=l.take (j+1)++List.replicate (l.length - (j+1)) []:=by
    rw [List.set_append_right _ _ (by rw [Kf];omega),Kf,LU (by omega),MY,show l.length - j=(l.length - (j+1))+1 by omega,List.replicate_succ,List.set_cons_zero,JG H,Kg];rfl
   rwa [e]at this
 ·have e:j=l.length:=by simp only [JE]at V;omega
  subst e;rw [J3,MY,List.replicate_zero,Kb]at G;rw [el];exact hR _ w' x G
end Go.Proofs.YtdecokaadekjnaaGreat
