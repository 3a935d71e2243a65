import Derived.Test.YtanhdobabijmoaaGreatDoorBase18
import Derived.Shelf.Strings.Cut
import Derived.Shelf.Strings.SlTrimAscii
import Derived.Shelf.Strings.BuilderF
import Derived.WalkSmall
set_option linter.all false
namespace Go.aA
open Go
open Go.RowKit Go.Shelf Go.Proofs
theorem Qr(b:UInt8):∀s:List UInt8,Lib.cut s [b]=yk b s
 |[]=>by simp[Lib.cut,Lib.index,List.isPrefixOf,yk]
 |c::r=>by
  have ih:=Qr b r;have hge:=Lib.index_ge r [b];by_cases hc:c=b
  .subst hc;have hi:Lib.index (c::r) [c]=0:=by simp[Lib.index,List.isPrefixOf]
   simp[Lib.cut,hi,yk]
  .have hcb:(b == c)=false:=by simpa using λh=>hc h.symm
   have hi:Lib.index (c::r) [b]=if Lib.index r [b] == -1 then -1 else Lib.index r [b]+1:=by simp[Lib.index,List.isPrefixOf,hcb]
   simp only[yk,if_neg hc,<- ih];by_cases hm:Lib.index r [b] = -1
   .have hi':Lib.index (c::r) [b] = -1:=by rw[hi];simp[hm]
    simp[Lib.cut,hi',hm]
   .have h1:¬(Lib.index r [b] == -1)=true:=by simpa using hm
    obtain⟨i,hi2⟩:∃i:Nat,Lib.index r [b]=i:=⟨(Lib.index r [b]).toNat,by omega⟩;have hi':Lib.index (c::r) [b]=((i+1:Nat):Int):=by rw[hi,if_neg h1,hi2];omega
    simp only[Lib.cut,hi',hi2];have h0:(0:Int)<=((i+1:Nat):Int):=by omega
    have h0':(0:Int)<=(i:Int):=by omega
    rw[if_pos h0,if_pos h0'];simp
section
variable {P:Program} {ρ:Ren} {k:Nat}
theorem XQ(L:Lays.n145 P ρ)(hk:ρ.f 145=k){m:Nat}(hm:P.globalNamed "internal/bytealg.MaxLen" = some m)(hm':ρ.g 1=m)(h0:∃F c,P.funcs[k]?=some F/\F.name ≠ "runtime.NumGoroutine" /\ F.body=some c):xc P (iw P) 10 k:=by
 subst hk hm';intro args J r hr;simp only[Bo,Nat.reduceMod]at hr;split at hr<;>try cases hr
 all_goals try omega
 rename_i s b _;simp only[aB,ad]at hr;obtain⟨hb,rfl⟩:=hr;refine⟨_,_,rfl,uz.below h0 λbase g w vs hi hl=>?_⟩;obtain⟨x,y,rfl,hx,hy⟩:=Hx hl;obtain⟨s,rfl,rfl⟩:=zy hx;obtain⟨sep,rfl,hsep⟩:=zy hy;have hsz:s.size<=1000000:=by simpa using hb
 obtain⟨mx,hmx⟩:=hi.max hm;refine(Any.strings_Cut L s sep mx w (by omega) hmx).mono ?_;rintro e w' ⟨rfl,n,rfl⟩;refine⟨_,rfl,below_drewN (Below.refl _ _) n,?_⟩;rw[<- hsep,Qr];generalize yk b s.data.toList=c;exact .db _ _ (.cons _ _ _ _ (.str ⟨c.1.toArray⟩) (.cons _ _ _ _ (.str ⟨c.2.1.toArray⟩) (.cons _ _ _ _ (.bool c.2.2) .nil)))
theorem UU{CR:eP}(L:Lays.n160 P ρ)(hk:ρ.f 160=k)(h116:(P.info? (ρ.t 116)).map (λi=>(i.zero,i.size))=some (some (.agg (Array.replicate 256 (.bool false))),256))(h0:∃F c,P.funcs[k]?=some F/\F.name ≠ "runtime.NumGoroutine" /\ F.body=some c):xc P CR 11 k:=by
 subst hk;intro args J r hr;simp only[Bo,Nat.reduceMod]at hr;split at hr<;>try cases hr
 all_goals try omega
 rename_i s cs _;simp only[aB,ad]at hr;obtain⟨⟨hb,hcl,hcs⟩,rfl⟩:=hr;refine⟨_,_,rfl,uz.below h0 λbase g w vs hi hl=>?_⟩;obtain⟨x,y,rfl,hx,hy⟩:=Hx hl;obtain⟨s,rfl,rfl⟩:=zy hx;obtain⟨cut,rfl,rfl⟩:=zy hy;have hsz:s.size<=1000000:=by simpa using hb
 have hcz:cut.size<=1000000:=by simpa using hcl
 refine(Any.strings_Trim_laid L h116 s cut w (by omega) (by omega) (ascii_of_all hcs)).mono ?_;rintro e w' ⟨rfl,hw⟩;exact⟨_,rfl,hw,.str ⟨(GU cut.data.toList s.data.toList).toArray⟩⟩
theorem adh{CR:eP}{f:Nat}{T e:Nat}(hT:T<65536)(h0:∃F c,P.funcs[f]?=some F/\F.name ≠ "runtime.NumGoroutine" /\ F.body=some c)
  (h:∀(b:Nat) (v:Value) (bs:List UInt8) (w:World),B7 T e b v bs w->Calls P f #[.pointer (some ⟨b,0,none⟩)] w λr w'=>r=.returned (.int .i64 bs.length)/\w'=w):xc P CR (12+16*(T+65536*e)) f:=by
 intro args J r hr;have e1:(12+16*(T+65536*e))%16=12:=by omega
 have e2:(12+16*(T+65536*e)) / 16%65536=T:=by omega
 have e3:(12+16*(T+65536*e)) / 16 / 65536=e:=by omega
 simp only[Bo,e1,e2,e3]at hr;split at hr<;>try cases hr
 all_goals try omega
 rename_i l i _;split at hr
 case h_2=>cases hr
 rename_i t ee bs hc;simp only[aB,ad]at hr;obtain⟨⟨rfl,rfl,hb⟩,rfl⟩:=hr;refine⟨_,_,rfl,uz.below h0 λbase g w vs hi hl=>?_⟩;obtain⟨x,rfl,hx⟩:=Hw hl;obtain⟨b,v,rfl,hL,hB⟩:=LV hi hc hx;refine(h b v bs w hB).mono ?_;rintro e w' ⟨rfl,rfl⟩;exact⟨_,rfl,Below.refl _ _,.int _ _⟩
theorem UR{CR:eP}(L:Lays.n170 P ρ)(hk:ρ.f 170=k){T e:Nat}(hT:ρ.t 72=T)(he:ρ.t 5=e)(hlt:T<65536)(h0:∃F c,P.funcs[k]?=some F/\F.name ≠ "runtime.NumGoroutine" /\ F.body=some c):
  xc P CR (12+16*(T+65536*e)) k:=by
 subst hk hT he;refine adh hlt h0 λb v bs w hB=>?_
 obtain⟨⟨p,hbk,hp⟩,hown,hne⟩:=hB;have hA:Lib.BuilderAtF (ρ.t 72) (ρ.t 5) 0 b p (Lib.byteCells bs) w:=⟨Nat.zero_le _,_,hbk,by rw[Lib.byteCells_length];exact hown,hne⟩;have hF:Lib.IsBuilderF (ρ.t 72) (ρ.t 5) 0 b (Lib.byteCells bs) w:=by
  rcases hp with rfl | rfl
  .exact .inl hA
  .exact .inr hA
 have h:=Any.Builder_Len_f L 0 b _ w hF;rw[Lib.byteCells_length]at h;exact h
end
end Go.aA
