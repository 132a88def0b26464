import Derived.Test.YtnmpibjlnninjaaGreatDoorKS17
import Derived.RangeFuncNested
import Derived.RangeFuncCalls
import Derived.RangeFuncLeaves
import Derived.OrdersIn
import Derived.TacticsIn
import Derived.Lib.ConvBytes
namespace Go.Proofs.YtnmpibjlnninjaaGreatDoor
set_option linter.unusedVariables false
set_option linter.unusedSimpArgs false
set_option maxRecDepth 100000
set_option maxHeartbeats 90000000
section
open Go Go.RowKit
theorem jz {d:cU}{i:Int}{x:ByteArray}(hd:d.Down=false)(hf:d.Fuse = -1)(h0:0<=i)(h1:i<(d.Now.length:Int))(h2:x.size<=48) :
 aC d i x=(⟨d.Kept,d.Now.set i.toNat (full x),d.Wait++[⟨i,full x⟩],-1,false⟩,0):=by
 grind [iO,pQ]
def j2 (p n:Int):List Change->List Turn
  | []=>[]
  | c::l=>⟨p,full (eB 111 n (kM c).1)⟩::j2 (p+1) (n+1) l
theorem tK:∀ (l:List Change) (p n:Int),(j2 p n l).length=l.length
 | [],_,_=>rfl
 | c::l,p,n=>by simp [j2,tK l]
theorem Cz (lg:Lg):∀ (c:List Change) (d:cU) (i q:Nat),d.Down=false->d.Fuse = -1->lg.From+lg.Next+(i:Int)=(q:Int)->q+c.length<=d.Now.length->(∀x∈c,gY x=0) ->
 lv lg d c i=(⟨d.Kept,d.Now.take q++fC (lg.First+lg.Next+(i:Int)) c++d.Now.drop (q+c.length),d.Wait++j2 (q:Int) (lg.First+lg.Next+(i:Int)) c,-1,false⟩,0)
 | [],d,i,q,hd,hf,hq,hl,hc=>by
  unfold lv;obtain ⟨a,b,e,f,g⟩:=d;simp_all [fC,j2]
 | x::r,d,i,q,hd,hf,hq,hl,hc=>by
  have hx:=Dx (hc x (List.mem_cons_self ..))
  rw [List.length_cons] at hl
  have hw:=jz (d:=d) (i:=lg.From+lg.Next+(i:Int)) (x:=eB 111 (lg.First+lg.Next+(i:Int)) (kM x).1) hd hf ae ae (by grind [oV])
  have UU:(lg.From+lg.Next+(i:Int)).toNat=q:=ae
  rw [UU,hq] at hw
  unfold lv
  rw [hq,hw,if_pos rfl,Cz lg r _ (i+1) (q+1) rfl rfl ae aB (fun y hy=>hc y (List.mem_cons_of_mem _ hy))]
  have e1:(d.Now.set q (full (eB 111 (lg.First+lg.Next+(i:Int)) (kM x).1))).take (q+1)=d.Now.take q++[full (eB 111 (lg.First+lg.Next+(i:Int)) (kM x).1)]:=by
   rw [List.take_add_one,List.take_set_of_le (Nat.le_refl _),List.getElem?_set_self ae];rfl
  have e2:(d.Now.set q (full (eB 111 (lg.First+lg.Next+(i:Int)) (kM x).1))).drop (q+1+r.length)=d.Now.drop (q+(r.length+1)):=by
   grind [List.drop_set_of_lt]
  grind [fC,j2,List.length_cons,List.append_assoc,List.singleton_append]
def jL (n:Int)(c:List Change):List ByteArray:=fC n c++[full (eB 99 (n+(c.length:Int)) (cz (c.length:Int)))]
theorem wv (n:Int)(c:List Change):(jL n c).length=c.length+1:=by simp [jL,ij]
structure UV (n m:Nat)(lg:Lg)(d:cU):Prop where
  ok:gy n m d
  f0:0<=lg.From
  m0:0<=lg.Many
  fm:lg.From+lg.Many<=(n:Int)
  x0:0<=lg.Next
section
variable {n m:Nat} {lg:Lg} {d:cU} {c:List Change}
theorem mO (h:lX lg c=0):c.length<=62/\(c.length:Int)+1<=lg.Many-lg.Next /\ ∀x∈c,gY x=0:=by
 grind [lX,r5]
theorem Lq (h:UV n m lg d)(hd:d.Down=false)(hf:d.Fuse = -1)(ha:lX lg c=0) :
 ∃ (A B:List ByteArray) (b0:ByteArray) (T:List Turn),A=d.Now.take (lg.From+lg.Next).toNat/\d.Now.drop ((lg.From+lg.Next).toNat+c.length)=b0::B /\
  T=j2 (lg.From+lg.Next) (lg.First+lg.Next) c++(if lg.Next+(c.length:Int)+1<lg.Many then [⟨lg.From+(lg.Next+(c.length:Int)+1),full ⟨#[]⟩⟩] else []) /\
  dY lg d c=(⟨d.Kept,A++fC (lg.First+lg.Next) c++b0::(if lg.Next+(c.length:Int)+1<lg.Many then B.set 0 (full ⟨#[]⟩) else B),d.Wait++T,-1,false⟩,0):=by
 obtain ⟨a1,a2,a3⟩:=mO ha
 have h1:=h.f0;have h2:=h.m0;have h3:=h.fm;have h4:=h.x0;have h5:=h.ok.nl
 obtain ⟨q,hq⟩:∃q:Nat,lg.From+lg.Next=(q:Int):=⟨(lg.From+lg.Next).toNat,ae⟩
 have UU:(lg.From+lg.Next).toNat=q:=ae
 have hl:=Cz lg c d 0 q hd hf ae ae a3
 rw [show lg.First+lg.Next+((0:Nat):Int)=lg.First+lg.Next by omega] at hl
 have hdl:(d.Now.drop (q+c.length)).length=d.Now.length-(q+c.length):=List.length_drop
 obtain ⟨b0,B,hB⟩:∃b0 B,d.Now.drop (q+c.length)=b0::B:=by
  cases hh:d.Now.drop (q+c.length) with
  | nil=>grind
  | cons b0 B=>grind
 refine ⟨_,B,b0,_,rfl,aB,rfl,?_⟩
 rw [UU]
 have hA:(d.Now.take q++fC (lg.First+lg.Next) c).length=q+c.length:=by grind [List.length_append,List.length_take,ij]
 rw [hB] at hl
 unfold dY
 rw [hl,if_pos rfl,hq]
 by_cases hr:lg.Next+(c.length:Int)+1<lg.Many
 .
  rw [if_pos hr,if_pos hr,if_pos hr]
  have hn:(d.Now.take q++fC (lg.First+lg.Next) c++b0::B).length=d.Now.length:=by
   grind
  rw [jz rfl rfl ae aB aD]
  dsimp only
  have e:(lg.From+(lg.Next+(c.length:Int)+1)).toNat=q+c.length+1:=ae
  rw [e,List.set_append_right _ _ ae,hA,show q+c.length+1-(q+c.length)=0+1 by omega,List.set_cons_succ]
  grind
 grind
theorem CB (h:UV n m lg d)(hd:d.Down=false)(hf:d.Fuse = -1)(ha:lX lg c=0) :
 ∃ (r:List ByteArray) (e:cU),cW lg d c=(⟨lg.From,lg.Many,lg.First,lg.Next+(c.length:Int)+1⟩,e,0)/\e.Down=false/\e.Fuse = -1/\e.Kept=e.Now/\e.Wait=[] /\
  e.Now=d.Now.take (lg.From+lg.Next).toNat++jL (lg.First+lg.Next) c++r/\(lg.Next+(c.length:Int)+1<lg.Many -> ∃r',r=full ⟨#[]⟩::r')/\(∀s∈r,s=full ⟨#[]⟩∨s∈d.Now.drop (lg.From+lg.Next).toNat):=by
 obtain ⟨a1,a2,a3⟩:=mO ha
 have h1:=h.f0;have h2:=h.m0;have h3:=h.fm;have h4:=h.x0;have h5:=h.ok.nl
 obtain ⟨A,B,b0,T,hA,hB,hT,hL⟩:=Lq h hd hf ha
 have hAl:A.length=(lg.From+lg.Next).toNat:=aB
 have hdl:(b0::B).length=d.Now.length-((lg.From+lg.Next).toNat+c.length):=aB
 rw [List.length_cons] at hdl
 generalize hC:(if lg.Next+(c.length:Int)+1<lg.Many then B.set 0 (full ⟨#[]⟩) else B)=C at hL
 have ZZ:C.length=B.length:=aB
 have Yv:(A++fC (lg.First+lg.Next) c).length=(lg.From+lg.Next).toNat+c.length:=by grind [List.length_append,ij]
 have hb:tF lg d c=(⟨A++fC (lg.First+lg.Next) c++b0::C,A++fC (lg.First+lg.Next) c++b0::C,[],-1,false⟩,0):=by
  unfold tF;grind [lU]
 have hc:uO lg d c=(⟨A++fC (lg.First+lg.Next) c++b0::C,A++jL (lg.First+lg.Next) c++C,[⟨lg.From+(lg.Next+(c.length:Int)),full (eB 99 (lg.First+(lg.Next+(c.length:Int))) (cz (c.length:Int)))⟩],-1,false⟩,0):=by
  unfold uO
  rw [hb,jz rfl rfl ae aB (by grind [oV,jX])]
  dsimp only
  have e:(lg.From+(lg.Next+(c.length:Int))).toNat=(lg.From+lg.Next).toNat+c.length:=ae
  rw [e,List.set_append_right _ _ ae,Yv,Nat.sub_self,List.set_cons_zero]
  grind [jL,List.append_assoc,List.singleton_append]
 have hD:xx lg d c=(⟨A++jL (lg.First+lg.Next) c++C,A++jL (lg.First+lg.Next) c++C,[],-1,false⟩,0):=by
  unfold xx;grind [lU]
 refine ⟨C,_,H2 ha (by rw [hL]) (by rw [hb]) (by rw [hc]) (by rw [hD]),by rw [hD],by rw [hD],by rw [hD],by rw [hD],aB,fun hr=>?_,fun s hs=>?_⟩
 .
  rw [if_pos hr] at hC
  cases B with
  | nil=>grind
  | cons b1 B=>grind
 have hsB:∀s∈B,s∈d.Now.drop (lg.From+lg.Next).toNat:=fun s hs=>by
  have:s∈d.Now.drop ((lg.From+lg.Next).toNat+c.length):=aB
  rw [<- List.drop_drop] at this
  grind
 grind
theorem o9 {d:cU}{f k:Nat}(hd:d.Down=false)(hl:f+k<=d.Now.length):ra d (f:Int) k=(d.Now.drop f).take k:=by
 refine List.ext_getElem? fun j=>?_
 by_cases hj:j<k
 .
  rw [rZ hj,List.getElem?_take_of_lt hj,List.getElem?_drop]
  obtain ⟨x,hx⟩:∃x,d.Now[f+j]? = some x:=⟨_,List.getElem?_eq_getElem ae⟩
  rw [show (f:Int)+(j:Int)=((f+j:Nat):Int) by omega,zo hd hx,hx]
 grind [List.getElem?_eq_none,rh,List.length_take]
theorem Oz {W:List (List Change)}{u:Nat}(h:UV n m lg d)(hd:d.Down=false)(hf:d.Fuse = -1)(ha:lX lg c=0)(hx:lg.Next=(u:Int))(hs:scan (ra d lg.From lg.Many.toNat) lg.First=(W,u)) :
 scan (ra (cW lg d c).2.1 lg.From lg.Many.toNat) lg.First=(W++[c],u+c.length+1):=by
 obtain ⟨a1,a2,a3⟩:=mO ha
 have h1:=h.f0;have h2:=h.m0;have h3:=h.fm;have h5:=h.ok.nl
 obtain ⟨r,e,he,e1,e2,e3,e4,e5,e6,e7⟩:=CB h hd hf ha
 obtain ⟨f,hF⟩:∃f:Nat,lg.From=(f:Int):=⟨lg.From.toNat,ae⟩
 obtain ⟨k,hK⟩:∃k:Nat,lg.Many=(k:Int):=⟨lg.Many.toNat,ae⟩
 have hq:(lg.From+lg.Next).toNat=f+u:=ae
 rw [hq] at e5
 have hkt:lg.Many.toNat=k:=ae
 have htl:(d.Now.take (f+u)).length=f+u:=aB
 have hok:=xU (lg:=lg) (c:=c) h.ok
 rw [he] at hok
 have hel:e.Now.length=n:=hok.nl
 have hrl:f+u+(c.length+1)+r.length=n:=by
  grind [List.length_append,wv]
 rw [he]
 dsimp only
 rw [hkt,hF] at hs ⊢
 rw [o9 hd ae] at hs
 rw [o9 e1 ae]
 have hd1:e.Now.drop f=(d.Now.drop f).take u++(jL (lg.First+lg.Next) c++r):=by
  grind [List.append_assoc,List.drop_take]
 have Ze:((d.Now.drop f).take u).length=u:=aB
 have OA:(e.Now.drop f).take k=(d.Now.drop f).take u++(jL (lg.First+lg.Next) c++r.take (k-u-(c.length+1))):=by
  rw [hd1,List.take_append,Ze,List.take_of_length_le (l:=(d.Now.drop f).take u) ae,List.take_append,wv,List.take_of_length_le (l:=jL (lg.First+lg.Next) c) aB]
 have hcut:=zq (l:=(d.Now.drop f).take k) (l':=(e.Now.drop f).take k) (first:=lg.First) (by
  grind)
 rw [hcut,hs,OA]
 dsimp only
 rw [List.drop_append_of_le_length ae,List.drop_of_length_le ae,List.nil_append,hx]
 unfold jL
 rw [List.append_assoc,List.singleton_append]
 refine JL a3 ?_
 by_cases hb:lg.Next+(c.length:Int)+1<lg.Many
 .
  obtain ⟨r',hr'⟩:=e6 hb
  right
  obtain ⟨j,hj⟩:∃j,k-u-(c.length+1)=j+1:=⟨k-u-(c.length+1)-1,ae⟩
  grind [pR]
 grind
theorem Lr (ha:¬ lX lg c=0):cW lg d c=(lg,d,lX lg c):=by simp_all [cW,if_pos]
theorem Ls {l:List ByteArray}{first:Int}{W:List (List Change)}{u:Nat}(h:scan l first=(W,u)):u<=l.length:=by
 grind [JJ]
theorem QU {gF many first:Int}{u:Nat}{W:List (List Change)}(hO:gy n m d)(hd:d.Down=false)(hf:d.Fuse = -1)(hg:lg=⟨gF,many,first,(u:Int)⟩)(b1:0<=gF)(b2:1<=many)(b3:gF+many<=(n:Int))(hs:scan (ra d gF many.toNat) first=(W,u)) :
 (cW lg d c).2.2=lX lg c/\(cW lg d c).2.1.Down=false/\(cW lg d c).2.1.Fuse = -1 /\
 (lX lg c=0->(cW lg d c).1=⟨gF,many,first,((u+c.length+1:Nat):Int)⟩/\scan (ra (cW lg d c).2.1 gF many.toNat) first=(W++[c],u+c.length+1)/\u+c.length+1<=many.toNat) /\
 (¬ lX lg c=0->(cW lg d c).1=lg/\(cW lg d c).2.1=d):=by
 have hL:UV n m lg d:=by rw [hg];exact ⟨hO,b1,aB,b3,aB⟩
 have e1:lg.From=gF:=by rw [hg]
 have e2:lg.Many=many:=by rw [hg]
 have e3:lg.First=first:=by rw [hg]
 have e4:lg.Next=(u:Int):=by rw [hg]
 by_cases ha:lX lg c=0
 .
  obtain ⟨a1,a2,a3⟩:=mO ha
  grind [Oz,CB]
 grind [Lr]
theorem Ad:∀ (l:List ByteArray) (n:Int) (out:List (List Change)) (deed:List Change) (used pos:Nat),(iP l n out deed used pos).1.length<=out.length+l.length
 | [],n,out,deed,used,pos=>by unfold iP;simp
 | s::r,n,out,deed,used,pos=>by
  unfold iP
  split
  .
   have:=Ad r (n+1) (out++[deed]) [] (pos+1) (pos+1)
   simp only [List.length_append,List.length_cons,List.length_nil] at this ⊢;omega
  split
  .
   have:=Ad r (n+1) out (deed++[(tA (sH s)).1]) used (pos+1)
   rw [List.length_cons];omega
  dsimp only;omega
end
end
section
open Go Go.RowKit
section
variable {n m:Nat} {lg:Lg} {d:cU} {c:List Change}
theorem wA {a:cU}:¬ ((a,(10:Int)):cU×Int).2=0:=ae
theorem CC (hd:d.Down=false)(hf : -1<=d.Fuse):(∃g,-1<=g/\bP d=(⟨d.Kept,d.Now,d.Wait,g,false⟩,0))∨bP d=(⟨d.Kept,d.Now,d.Wait,-1,true⟩,10):=by
 grind [tE,uK]
theorem p7 {i:Int}{x:ByteArray}(hd:d.Down=false)(hf : -1<=d.Fuse)(h0:0<=i)(h1:i<(d.Now.length:Int))(h2:x.size<=48) :
 (∃g,-1<=g/\aC d i x=(⟨d.Kept,d.Now.set i.toNat (full x),d.Wait++[⟨i,full x⟩],g,false⟩,0))∨aC d i x=(⟨d.Kept,d.Now,d.Wait,-1,true⟩,10):=by
 rcases CC hd hf with ⟨g,hg,h⟩ | h
 .grind [iO]
 right;rw [zn h0 h1 h2 aB,h]
theorem tL (hd:d.Down=false)(hf : -1<=d.Fuse):(∃g,-1<=g/\au d=(⟨d.Now,d.Now,[],g,false⟩,0))∨au d=(⟨d.Kept,d.Now,d.Wait,-1,true⟩,10):=by
 unfold au
 rcases CC hd hf with ⟨g,hg,h⟩ | h
 .grind
 grind
theorem Gn (lg:Lg):∀ (c:List Change) (d:cU) (i q:Nat),d.Down=false -> -1<=d.Fuse->lg.From+lg.Next+(i:Int)=(q:Int)->q+c.length<=d.Now.length->(∀x∈c,gY x=0) ->
 (∃g,-1<=g/\lv lg d c i=(⟨d.Kept,d.Now.take q++fC (lg.First+lg.Next+(i:Int)) c++d.Now.drop (q+c.length),d.Wait++j2 (q:Int) (lg.First+lg.Next+(i:Int)) c,g,false⟩,0)) ∨
 (∃e,lv lg d c i=(e,10)/\e.Down=true/\e.Kept=d.Kept /\ ∃j,e.Wait=d.Wait++(j2 (q:Int) (lg.First+lg.Next+(i:Int)) c).take j)
 | [],d,i,q,hd,hf,hq,hl,hc=>by
  left;refine ⟨d.Fuse,hf,?_⟩
  unfold lv;obtain ⟨a,b,e,f,g⟩:=d;simp_all [fC,j2]
 | x::r,d,i,q,hd,hf,hq,hl,hc=>by
  have hx:=Dx (hc x (List.mem_cons_self ..))
  rw [List.length_cons] at hl
  have hw:=p7 (d:=d) (i:=lg.From+lg.Next+(i:Int)) (x:=eB 111 (lg.First+lg.Next+(i:Int)) (kM x).1) hd hf ae ae (by grind [oV])
  have UU:(lg.From+lg.Next+(i:Int)).toNat=q:=ae
  rw [UU,hq] at hw
  unfold lv
  rw [hq]
  rcases hw with ⟨g,hg,hw⟩ | hw
  .
   rw [hw,if_pos rfl]
   have e3:lg.First+lg.Next+((i+1:Nat):Int)=lg.First+lg.Next+(i:Int)+1:=ae
   have e4:((q+1:Nat):Int)=(q:Int)+1:=ae
   rcases Gn lg r ⟨d.Kept,d.Now.set q (full (eB 111 (lg.First+lg.Next+(i:Int)) (kM x).1)),d.Wait++[⟨(q:Int),full (eB 111 (lg.First+lg.Next+(i:Int)) (kM x).1)⟩],g,false⟩ (i+1) (q+1) rfl hg ae aB (fun y hy=>hc y (List.mem_cons_of_mem _ hy)) with ⟨g',hg',h⟩ | ⟨e,he,h1,h2,j,h3⟩
   .
    left;refine ⟨g',hg',?_⟩
    rw [h]
    have e1:(d.Now.set q (full (eB 111 (lg.First+lg.Next+(i:Int)) (kM x).1))).take (q+1)=d.Now.take q++[full (eB 111 (lg.First+lg.Next+(i:Int)) (kM x).1)]:=by
     rw [List.take_add_one,List.take_set_of_le (Nat.le_refl _),List.getElem?_set_self ae];rfl
    have e2:(d.Now.set q (full (eB 111 (lg.First+lg.Next+(i:Int)) (kM x).1))).drop (q+1+r.length)=d.Now.drop (q+(r.length+1)):=by
     grind [List.drop_set_of_lt]
    grind [fC,j2,List.length_cons,List.append_assoc,List.singleton_append]
   right;refine ⟨e,he,h1,h2,j+1,?_⟩
   grind [j2,List.append_assoc,List.singleton_append]
  simp_all
def tM (lg:Lg)(c:List Change):List Turn:=j2 (lg.From+lg.Next) (lg.First+lg.Next) c++(if lg.Next+(c.length:Int)+1<lg.Many then [⟨lg.From+(lg.Next+(c.length:Int)+1),full ⟨#[]⟩⟩] else [])
theorem OB (h:UV n m lg d)(hd:d.Down=false)(hf : -1<=d.Fuse)(ha:lX lg c=0) :
 ∃ (B:List ByteArray) (b0:ByteArray),d.Now.drop ((lg.From+lg.Next).toNat+c.length)=b0::B /\
  ((∃g,-1<=g/\dY lg d c=(⟨d.Kept,d.Now.take (lg.From+lg.Next).toNat++fC (lg.First+lg.Next) c++b0::(if lg.Next+(c.length:Int)+1<lg.Many then B.set 0 (full ⟨#[]⟩) else B),d.Wait++tM lg c,g,false⟩,0)) ∨
   (∃e,dY lg d c=(e,10)/\e.Down=true/\e.Kept=d.Kept /\ ∃j,e.Wait=d.Wait++(tM lg c).take j)):=by
 obtain ⟨a1,a2,a3⟩:=mO ha
 have h1:=h.f0;have h2:=h.m0;have h3:=h.fm;have h4:=h.x0;have h5:=h.ok.nl
 obtain ⟨q,hq⟩:∃q:Nat,lg.From+lg.Next=(q:Int):=⟨(lg.From+lg.Next).toNat,ae⟩
 have hle:q+c.length<=d.Now.length:=ae
 have UU:(lg.From+lg.Next).toNat=q:=ae
 have hl:=Gn lg c d 0 q hd hf ae ae a3
 rw [show lg.First+lg.Next+((0:Nat):Int)=lg.First+lg.Next by omega] at hl
 have hdl:(d.Now.drop (q+c.length)).length=d.Now.length-(q+c.length):=List.length_drop
 obtain ⟨b0,B,hB⟩:∃b0 B,d.Now.drop (q+c.length)=b0::B:=by
  cases hh:d.Now.drop (q+c.length) with
  | nil=>grind
  | cons b0 B=>grind
 refine ⟨B,b0,aB,?_⟩
 rw [UU]
 have hA:(d.Now.take q++fC (lg.First+lg.Next) c).length=q+c.length:=by grind [List.length_append,List.length_take,ij]
 rw [hB] at hl
 have hn:(d.Now.take q++fC (lg.First+lg.Next) c++b0::B).length=d.Now.length:=by
  grind
 unfold dY tM
 rw [hq]
 rcases hl with ⟨g,hg,hl⟩ | ⟨e,he,e1,e2,j,e3⟩
 .
  rw [hl,if_pos rfl]
  by_cases hr:lg.Next+(c.length:Int)+1<lg.Many
  .
   rw [if_pos hr,if_pos hr,if_pos hr]
   rcases p7 (d:=⟨d.Kept,d.Now.take q++fC (lg.First+lg.Next) c++b0::B,d.Wait++j2 (q:Int) (lg.First+lg.Next) c,g,false⟩) (i:=lg.From+(lg.Next+(c.length:Int)+1)) (x:=⟨#[]⟩) rfl hg ae aB aD with ⟨g',hg',hw⟩ | hw
   .
    left;refine ⟨g',hg',?_⟩
    rw [hw]
    dsimp only
    have e:(lg.From+(lg.Next+(c.length:Int)+1)).toNat=q+c.length+1:=by
     omega
    rw [e,List.set_append_right _ _ ae,hA,show q+c.length+1-(q+c.length)=0+1 by omega,List.set_cons_succ]
    grind
   right
   rw [hw]
   exact ⟨_,rfl,rfl,rfl,c.length,by grind [tK,List.take_of_length_le]⟩
  grind
 right
 rw [he,if_neg wA]
 refine ⟨e,rfl,e1,e2,min j c.length,?_⟩
 grind [tK,Nat.min_le_right,Nat.min_eq_left,Nat.min_eq_right,List.take_of_length_le]
structure TL (n:Nat)(lg:Lg)(d:cU)(W:List (List Change))(u:Nat):Prop where
  ok:UV n 0 lg d
  down:d.Down=false
  fuse : -1<=d.Fuse
  kn:d.Kept=d.Now
  wait:d.Wait=[]
  nx:lg.Next=(u:Int)
  sc:scan ((d.Now.drop lg.From.toNat).take lg.Many.toNat) lg.First=(W,u)
  tail:∀s∈d.Now.drop (lg.From.toNat+u),¬ bO s 0=99
theorem QV (d:cU)(f:Int)(k:Nat)(first:Int):fT d f k first<=k:=by
 have:=JJ (ra d f k) first
 rw [rh] at this;exact this
theorem QW {d:cU}{f:Int}{k:Nat}{first:Int}:(lW d f k first).length<=k:=by
 grind [ra,lW,scan,Ad,rh]
theorem QX {l:List kJ}{d:cU}{f:Int}{k:Nat}{first:Int}(h:l.map kJ.L=lW d f k first):l.length<=k:=by
 grind [QW,List.length_map]
end
end
section
open Go Go.RowKit
attribute [local irreducible] Run Rg Rq Qt Qa Stp Dg Do Dm cD
theorem Lt (cY:Nat)(aR:Value)(OC:Nat)(OD:Nat)(st:jK)(w:World)(XG:(aj.box cY [.pointer (some ⟨OC,0,none⟩),iV st.Epoch,iV st.Side,iV st.Size,iV st.First,.pointer (some ⟨OD,0,none⟩),aR] 132).ok w)(IJ:Sl w aR (st.Rows:List Change))(hl:st.Rows.length<=100000):Calls Tryz.prog 31 #[.pointer (some ⟨cY,0,none⟩)] w fun e w' => ∃u,e = .returned u/\Own w.heap.size 115 w' u st.Rows/\Ext w w':=by
 refine R.enter [] [(0,.pointer (some ⟨cY,0,none⟩))] Tryz.func31 O O O O<|R.qH IJ<|R.oN (r:=aj.box cY [.pointer (some ⟨OC,0,none⟩),iV st.Epoch,iV st.Side,iV st.Size,iV st.First,.pointer (some ⟨OD,0,none⟩),aR] 132) XG (jQ XG)<|U ?_
 refine R.q (q.AL 0 O O jv O) O<|R.s O (s.aT [] [1] _ _ _ O O O SD O O (fun w own hw H=>qu aR st.Rows w own H ae) O) fun z1=>U ?_
 exact R.ro 0 O Tryz.results31 O O ck
def mj (d:cU):Nat->dP
  | 0=>⟨0,0,0,0⟩
  | k+1=>o8 (mj d k) (cG (cx d (k:Int)).1)
theorem Gp (d:cU):∀k,0<=(mj d k).Epoch/\(mj d k).Epoch<4294967296/\0<=(mj d k).Side/\(mj d k).Side<=1/\0<=(mj d k).Size/\(mj d k).Size<=2400/\0<=(mj d k).First/\(mj d k).First<4294967296/\(¬ (mj d k).Epoch=0->1<=(mj d k).First)
 | 0=>by simp [mj]
 | k+1=>by
  unfold mj o8;split
  .exact zV _
  exact Gp d k
theorem XH {d:cU}(h:ki d=0):¬ d.Now.length<166/\¬ (headD d).Epoch=0/\(fJ (sT d)).2=true:=by
 unfold ki at h
 split at h
 .cases h
 split at h
 .cases h
 split at h
 .exact ⟨af,af,af⟩
 cases h
theorem Gq:∀ (k:Nat) (t:ByteArray) (l:List Change),(qx k t l).1.length<=l.length+t.size
 | 0,t,l=>by rw [qx];show l.length<=_;omega
 | k+1,t,l=>by
  rw [qx]
  split
  .dsimp only;omega
  split
  .simp
  rename_i h1 h2
  split
  .
   have:=Gq k (t.extract (rz t) t.size) (cm l [zW t])
   have ha:=lr [zW t] l
   rw [List.length_singleton] at ha
   rw [ByteArray.size_extract] at this
   have:3<=rz t:=by unfold rz;omega
   omega
  simp
theorem IK (t:ByteArray):(fJ t).1.length<=t.size:=by
 have:=Gq (t.size+1) t []
 simpa [fJ] using this
theorem Ae {M:Nat}:∀ (l:List ByteArray) (n:Int) (out:List (List Change)) (deed:List Change) (used pos:Nat),(∀c∈out,c.length<=M)->deed.length+l.length<=M -> ∀c∈(iP l n out deed used pos).1,c.length<=M
 | [],n,out,deed,used,pos,h,hd=>h
 | s::r,n,out,deed,used,pos,h,hd=>by
  rw [List.length_cons] at hd
  rw [iP]
  split
  .
   refine Ae r _ _ _ _ _ (fun c hc=>?_) az
   rcases List.mem_append.1 hc with hc|hc
   .exact h c hc
   rw [List.mem_singleton.1 hc];omega
  split
  .exact Ae r _ _ _ _ _ h az
  exact h
theorem IL {d:cU}{f:Int}{k:Nat}{first:Int}:∀c∈lW d f k first,c.length<=k:=by
 unfold lW scan
 exact Ae _ _ _ _ _ _ bW (by rw [rh];simp)
theorem Af {M:Nat}:∀ (W:List (List Change)) (rows:List Change),(∀c∈W,c.length<=M)->(kG rows W).length<=rows.length+M*W.length
 | [],rows,h=>by simp [kG]
 | c::W,rows,h=>by
  have h1:=Af W (cm rows c) (fun x hx=>h x (List.mem_cons_of_mem _ hx))
  have h2:=lr c rows
  have h3:=h c (List.mem_cons_self ..)
  show (kG (cm rows c) W).length<=_
  rw [List.length_cons,Nat.mul_add,Nat.mul_one]
  omega
attribute [local irreducible] fT lW fJ
theorem CF (aI:Nat)(aE aG aF:Value)(dk:cU)(w:World)(own:List Nat)(H:HN w own [aj.box aI [aE,aG,aF,iV dk.Fuse,.bool dk.Down] 120,aj.row 9 aE dk.Kept,aj.row 9 aG dk.Now,aj.row 196 aF dk.Wait] [])(hd:dk.Down=false)(ho:ki dk=0)(hD:gy dk.Now.length 90000 dk/\dk.Now.length<=200):RC Tryz.prog 29 #[.pointer (some ⟨aI,0,none⟩)] H (fun z:Value×Value×Value×Nat×Value×Nat => .tuple #[.pointer (some ⟨z.2.2.2.1,0,none⟩),.nilIface]) (fun z=>[aj.box aI [z.1,z.2.1,z.2.2.1,iV dk.Fuse,.bool dk.Down] 120,aj.row 9 z.1 dk.Kept,aj.row 9 z.2.1 dk.Now,aj.row 196 z.2.2.1 dk.Wait,aj.box z.2.2.2.1 [.pointer (some ⟨aI,0,none⟩),iV (bM dk).c.Epoch,iV (bM dk).c.Side,iV (bM dk).c.Size,iV (bM dk).c.First,.pointer (some ⟨z.2.2.2.2.2,0,none⟩),z.2.2.2.2.1] 132,aj.box z.2.2.2.2.2 [.pointer (some ⟨aI,0,none⟩),iV (bM dk).L.From,iV (bM dk).L.Many,iV (bM dk).L.First,iV (bM dk).L.Next] 193]) (fun z=>[aj.ls z.2.2.2.2.1 (bM dk).c.Rows]):=by
 have fc:=H.cap 1 rfl;have fe:=H.dr 1 rfl
 have fV:=H.cap 2 rfl;have fW:=H.dr 2 rfl
 have ff:=H.cap 3 rfl;have fh:=H.dr 3 rfl
 obtain ⟨o1,o2,o3⟩:=XH ho
 refine R.bE (n:=144) (vs:=[.pointer (some ⟨aI,0,none⟩)]) (B:=[aj.box aI [aE,aG,aF,iV dk.Fuse,.bool dk.Down] 120,aj.row 9 aE dk.Kept,aj.row 9 aG dk.Now,aj.row 196 aF dk.Wait,aj.held w own]) [(0,.pointer (some ⟨aI,0,none⟩))] Tryz.func29 O O O O H<|U ?_
 refine R.c (q.call SC O O (fun w hw=>(cv (congrArg Value.bool hd) (Cq aI aE aG aF dk w (hw.b 0 O) (hw.row 1 O) (hw.row 2 O) (hw.row 3 O) )))) O<|U ?_
 refine R.c (q.call xd O O (fun w hw=>(gM aI aE aG aF dk w (hw.b 0 O) (hw.row 1 O) (hw.row 2 O) (hw.row 3 O) ))) O<|U ?_
 refine R.s O (s.box (cs:=[.pointer (some ⟨aI,0,none⟩),iV 0,iV 0,iV 0,iV 0,.pointer none,nS]) O O O) fun b1=>U ?_
 refine R.loop (fun g_:Nat×dP=>[(0,.pointer (some ⟨aI,0,none⟩)),(4,.pointer (some ⟨b1,0,none⟩)),(30,iV (g_.1:Int))]) (fun g_=>[aj.box b1 [.pointer (some ⟨aI,0,none⟩),iV g_.2.Epoch,iV g_.2.Side,iV g_.2.Size,iV g_.2.First,.pointer none,nS] 132,aj.box aI [aE,aG,aF,iV dk.Fuse,.bool dk.Down] 120,aj.row 9 aE dk.Kept,aj.row 9 aG dk.Now,aj.row 196 aF dk.Wait,aj.held w own]) (fun g_=>[]) (fun g_=>g_.1<=2/\g_.2=mj dk g_.1) (fun g_=>2-g_.1) (0,(⟨0,0,0,0⟩:dP)) O (by exact ⟨ae,rfl⟩) ⟨rfl,rfl,rfl,trivial⟩ (fun _=>Wd.pick nE [] O O O) ?_
 rintro ⟨i,hh⟩ ⟨hi,HK⟩
 dsimp only at *
 have hin:=Gp dk i;rw [<- HK] at hin
 refine U ?_
 by_cases h1:i<2
 .
  refine U ?_
  have hrd:=zw hD.1 hd (i:=(i:Int)) ae ae;obtain ⟨hrd,hsz⟩:=hrd;have hin2:=zV (cx dk (i:Int)).1
  refine U ?_
  refine R.c (q.call NK O O (fun w hw=>(wj aI aE aG aF dk (i:Int) w (hw.b 1 O) (hw.row 2 O) (hw.row 3 O) (hw.row 4 O) ))) O<|U ?_
  refine R.s (B':=(fun _u:Unit=>[aj.box b1 [.pointer (some ⟨aI,0,none⟩),iV hh.Epoch,iV hh.Side,iV hh.Size,iV hh.First,.pointer none,nS] 132,aj.box aI [aE,aG,aF,iV dk.Fuse,.bool dk.Down] 120,aj.row 9 aE dk.Kept,aj.row 9 aG dk.Now,aj.row 196 aF dk.Wait,aj.held w own])) (F':=(fun _u:Unit=>[])) O (s.aT (B0:=[]) (Br:=[aj.box b1 [.pointer (some ⟨aI,0,none⟩),iV hh.Epoch,iV hh.Side,iV hh.Size,iV hh.First,.pointer none,nS] 132,aj.box aI [aE,aG,aF,iV dk.Fuse,.bool dk.Down] 120,aj.row 9 aE dk.Kept,aj.row 9 aG dk.Now,aj.row 196 aF dk.Wait,aj.held w own]) (F0:=[]) nE [] (fun _u:Unit => .agg #[iV (cG (cx dk (i:Int)).1).Epoch,iV (cG (cx dk (i:Int)).1).Side,iV (cG (cx dk (i:Int)).1).Size,iV (cG (cx dk (i:Int)).1).First]) (fun _u:Unit=>[]) (fun _u:Unit=>[]) O O O Xh O O (fun w own hw H=>IG (cx dk (i:Int)).1 w own H ae) O) fun _=>?_
  refine R.s O (s.alloc (cs:=[iV 0,iV 0,iV 0,iV 0]) jw O O) fun b2=>?_
  refine R.s O (s.st (us:=[iV (cG (cx dk (i:Int)).1).Epoch,iV (cG (cx dk (i:Int)).1).Side,iV (cG (cx dk (i:Int)).1).Size,iV (cG (cx dk (i:Int)).1).First]) (cs':=[iV (cG (cx dk (i:Int)).1).Epoch,iV (cG (cx dk (i:Int)).1).Side,iV (cG (cx dk (i:Int)).1).Size,iV (cG (cx dk (i:Int)).1).First]) 0 _ O O O O (.inl bA) O O O O) fun _=>U ?_
  by_cases h2:hh.Epoch<(cG (cx dk (i:Int)).1).Epoch
  .
   refine R.dA O mixed ai<|U ?_
   refine R.s O (s.st (us:=[iV (cG (cx dk (i:Int)).1).Epoch,iV (cG (cx dk (i:Int)).1).Side,iV (cG (cx dk (i:Int)).1).Size,iV (cG (cx dk (i:Int)).1).First]) (cs':=[.pointer (some ⟨aI,0,none⟩),iV (cG (cx dk (i:Int)).1).Epoch,iV (cG (cx dk (i:Int)).1).Side,iV (cG (cx dk (i:Int)).1).Size,iV (cG (cx dk (i:Int)).1).First,.pointer none,nS]) 1 _ O O O O (.inl bA) O O O O) fun _=>U ?_
   refine R.q (q.add (r:=((i+1:Nat):Int)) O O (wr ae)) O<|U ?_
   refine R.back (i+1,cG (cx dk (i:Int)).1) O (by (exact ⟨ae,by show _=o8 (mj dk i) (cG (cx dk (i:Int)).1);rw [<- HK];unfold o8;rw [if_pos af]⟩)) aO ⟨rfl,rfl,rfl,trivial⟩ (Vw Ez [] O O O)
  refine R.dA O mixed ai<|U ?_
  refine R.q (q.add (r:=((i+1:Nat):Int)) O O (wr ae)) O<|U ?_
  refine R.back (i+1,hh) O (by (exact ⟨ae,by show _=o8 (mj dk i) (cG (cx dk (i:Int)).1);rw [<- HK];unfold o8;rw [if_neg af]⟩)) aO ⟨rfl,rfl,rfl,trivial⟩ (Vw Ez [] O O O)
 refine U ?_
 have Zf:hh=headD dk:=by rw [HK,show i=2 by omega];rfl
 have o2b:¬ hh.Epoch=0:=by rw [Zf];exact o2
 refine U ?_
 refine R.loop (fun g_:Nat×ByteArray=>[(0,.pointer (some ⟨aI,0,none⟩)),(4,.pointer (some ⟨b1,0,none⟩)),(9,.string g_.2),(64,iV (g_.1:Int))]) (fun g_=>[aj.box b1 [.pointer (some ⟨aI,0,none⟩),iV hh.Epoch,iV hh.Side,iV hh.Size,iV hh.First,.pointer none,nS] 132,aj.box aI [aE,aG,aF,iV dk.Fuse,.bool dk.Down] 120,aj.row 9 aE dk.Kept,aj.row 9 aG dk.Now,aj.row 196 aF dk.Wait,aj.held w own]) (fun g_=>[]) (fun g_=>g_.1<=50/\g_.2=cJ dk (2+hh.Side*50) g_.1/\g_.2.size=48*g_.1) (fun g_=>50-g_.1) (0,(⟨#[]⟩:ByteArray)) O (by exact ⟨ae,rfl,rfl⟩) ⟨rfl,rfl,rfl,rfl,trivial⟩ (fun _=>Wd.pick nE [] O O O) ?_
 rintro ⟨j,tx⟩ ⟨hj,HT,hts⟩
 dsimp only at *
 refine U ?_
 by_cases h3:j<50
 .
  refine U ?_
  have hrd:=zw hD.1 hd (i:=2+hh.Side*50+(j:Int)) ae ae;obtain ⟨hrd,hsz⟩:=hrd
  refine U ?_
  refine R.q (q.mul (r:=hh.Side*50) O O (wr ae)) O ?_
  refine R.q (q.add (r:=2+(hh.Side*50)) O O (wr ae)) O<|U ?_
  refine R.q (q.add (r:=(2+(hh.Side*50))+(j:Int)) O O (wr ae)) O ?_
  refine R.c (q.call NK O O (fun w hw=>(wj aI aE aG aF dk ((2+(hh.Side*50))+(j:Int)) w (hw.b 1 O) (hw.row 2 O) (hw.row 3 O) (hw.row 4 O) ))) O<|U ?_
  refine R.q (q.cat O O ae) O<|U ?_
  refine R.q (q.add (r:=((j+1:Nat):Int)) O O (wr ae)) O<|U ?_
  refine R.back (j+1,(tx++(cx dk ((2+(hh.Side*50))+(j:Int))).1)) O (by (exact ⟨ae,by show _=cJ dk (2+hh.Side*50) j++_;rw [<- HT],by rw [ByteArray.size_append];omega⟩)) aO ⟨rfl,rfl,rfl,rfl,trivial⟩ (Vw nE [] O O O)
 refine U ?_
 have hth:tx.extract 0 hh.Size.toNat=sT dk:=by rw [HT,Zf,show j=50 by omega];rfl
 have hpb:(fJ (tx.extract 0 hh.Size.toNat)).2=true:=by rw [hth];exact o3
 refine U ?_
 refine R.q (q.sTo (i:=hh.Size.toNat) O O Tryz.underlying9 ae ae) O ?_
 refine R.s (B':=(fun jZ:Value=>[aj.row 115 jZ (fJ (tx.extract 0 hh.Size.toNat)).1,aj.box b1 [.pointer (some ⟨aI,0,none⟩),iV hh.Epoch,iV hh.Side,iV hh.Size,iV hh.First,.pointer none,nS] 132,aj.box aI [aE,aG,aF,iV dk.Fuse,.bool dk.Down] 120,aj.row 9 aE dk.Kept,aj.row 9 aG dk.Now,aj.row 196 aF dk.Wait,aj.held w own])) (F':=(fun jZ:Value=>[])) O (s.aT (B0:=[]) (Br:=[aj.box b1 [.pointer (some ⟨aI,0,none⟩),iV hh.Epoch,iV hh.Side,iV hh.Size,iV hh.First,.pointer none,nS] 132,aj.box aI [aE,aG,aF,iV dk.Fuse,.bool dk.Down] 120,aj.row 9 aE dk.Kept,aj.row 9 aG dk.Now,aj.row 196 aF dk.Wait,aj.held w own]) (F0:=[]) nE [] (fun jZ:Value => .tuple #[jZ,.bool (fJ (tx.extract 0 hh.Size.toNat)).2]) (fun jZ:Value=>[aj.row 115 jZ (fJ (tx.extract 0 hh.Size.toNat)).1]) (fun jZ:Value=>[]) O O O Xi O O (fun w own hw H=>Lp (tx.extract 0 hh.Size.toNat) w own H me) O) fun z1=>U ?_
 refine R.q (q.not O) O<|U ?_
 refine R.cond O O (fun h4=>?_) (fun h4=>?_)
 .exact absurd h4 (by rw [hpb];decide)
 refine R.eA (fuel:=17) [0,1,6] O O mixed O ?_
 refine D.l [0,1,4,5,6,7,8] [0,1,6] [] O<|U ?_
 refine D.one (i:=2) O ?_
 refine Do.s (s.c (q.call xd O O (fun w hw=>(gM aI aE aG aF dk w (hw.b 2 O) (hw.row 3 O) (hw.row 4 O) (hw.row 5 O) ))) O) (fun _=>(Vw [0,1,6] [] O O O)) O fun _=>?_
 refine D.l [3] [0,1,6] [] O ?_
 refine Dm.yy O O (q.sub (r:=((dk.Now.length-102:Nat):Int)) O O (wr ae)) O<|U ?_
 refine D.one (i:=9) O ?_
 refine Do.s (B':=(fun g_:Value×Value×Value×Nat×Value×List kJ=>[aj.box aI [g_.1,g_.2.1,g_.2.2.1,iV dk.Fuse,.bool dk.Down] 120,aj.row 9 g_.1 dk.Kept,aj.row 9 g_.2.1 dk.Now,aj.row 196 g_.2.2.1 dk.Wait,aj.box g_.2.2.2.1 [.pointer (some ⟨aI,0,none⟩),iV (⟨102,(((dk.Now.length-102):Nat):Int),hh.First,(fT dk 102 (Int.toNat (((dk.Now.length-102):Nat):Int)) hh.First:Int)⟩:Lg).From,iV (⟨102,(((dk.Now.length-102):Nat):Int),hh.First,(fT dk 102 (Int.toNat (((dk.Now.length-102):Nat):Int)) hh.First:Int)⟩:Lg).Many,iV (⟨102,(((dk.Now.length-102):Nat):Int),hh.First,(fT dk 102 (Int.toNat (((dk.Now.length-102):Nat):Int)) hh.First:Int)⟩:Lg).First,iV (⟨102,(((dk.Now.length-102):Nat):Int),hh.First,(fT dk 102 (Int.toNat (((dk.Now.length-102):Nat):Int)) hh.First:Int)⟩:Lg).Next] 193,aj.row 115 z1 (fJ (tx.extract 0 hh.Size.toNat)).1,aj.box b1 [.pointer (some ⟨aI,0,none⟩),iV hh.Epoch,iV hh.Side,iV hh.Size,iV hh.First,.pointer none,nS] 132,aj.held w own])) (F':=(fun g_=>[aj.ls g_.2.2.2.2.1 g_.2.2.2.2.2,aj.sP (g_.2.2.2.2.2:List kJ) (lW dk 102 (Int.toNat (((dk.Now.length-102):Nat):Int)) hh.First)])) (s.aT (B0:=[aj.box aI [aE,aG,aF,iV dk.Fuse,.bool dk.Down] 120,aj.row 9 aE dk.Kept,aj.row 9 aG dk.Now,aj.row 196 aF dk.Wait]) (Br:=[aj.row 115 z1 (fJ (tx.extract 0 hh.Size.toNat)).1,aj.box b1 [.pointer (some ⟨aI,0,none⟩),iV hh.Epoch,iV hh.Side,iV hh.Size,iV hh.First,.pointer none,nS] 132,aj.held w own]) (F0:=[]) [2,3,4,5,0,1,6] [] (fun g_:Value×Value×Value×Nat×Value×List kJ => .tuple #[.pointer (some ⟨g_.2.2.2.1,0,none⟩),g_.2.2.2.2.1,.nilIface]) (fun g_=>[aj.box aI [g_.1,g_.2.1,g_.2.2.1,iV dk.Fuse,.bool dk.Down] 120,aj.row 9 g_.1 dk.Kept,aj.row 9 g_.2.1 dk.Now,aj.row 196 g_.2.2.1 dk.Wait,aj.box g_.2.2.2.1 [.pointer (some ⟨aI,0,none⟩),iV (⟨102,(((dk.Now.length-102):Nat):Int),hh.First,(fT dk 102 (Int.toNat (((dk.Now.length-102):Nat):Int)) hh.First:Int)⟩:Lg).From,iV (⟨102,(((dk.Now.length-102):Nat):Int),hh.First,(fT dk 102 (Int.toNat (((dk.Now.length-102):Nat):Int)) hh.First:Int)⟩:Lg).Many,iV (⟨102,(((dk.Now.length-102):Nat):Int),hh.First,(fT dk 102 (Int.toNat (((dk.Now.length-102):Nat):Int)) hh.First:Int)⟩:Lg).First,iV (⟨102,(((dk.Now.length-102):Nat):Int),hh.First,(fT dk 102 (Int.toNat (((dk.Now.length-102):Nat):Int)) hh.First:Int)⟩:Lg).Next] 193]) (fun g_=>[aj.ls g_.2.2.2.2.1 g_.2.2.2.2.2,aj.sP (g_.2.2.2.2.2:List kJ) (lW dk 102 (Int.toNat (((dk.Now.length-102):Nat):Int)) hh.First)]) O O O SB O O (fun w own hw H=>Gj aI aE aG aF dk 102 (((dk.Now.length-102):Nat):Int) hh.First w own H (by refine ⟨aD,?_,?_,?_,?_⟩ <;> omega) hd (⟨hD.1,ae⟩)) O) (fun _=>(Vw [5,6,7] [] O O O)) O ?_
 rintro ⟨z8,z9,l7,mh,z12,o6⟩
 dsimp only
 refine D.l [10,11,12,13,14,15,16] [5,6,7] [] O<|U ?_
 refine D.done<|U ?_
 refine R.s O (s.st (us:=[.pointer (some ⟨mh,0,none⟩)]) (cs':=[.pointer (some ⟨aI,0,none⟩),iV hh.Epoch,iV hh.Side,iV hh.Size,iV hh.First,.pointer (some ⟨mh,0,none⟩),nS]) 6 _ O O O O (.inr ⟨m8,rfl⟩) O O O O) fun _=>?_
 refine Rg.WA (F':=[aj.nJ (o6:List kJ),aj.ls z12 o6]) 1 O O fun hE1=>U ?_
 refine R.s O (s.dE (us:=[z1]) (cs':=[.pointer (some ⟨aI,0,none⟩),iV hh.Epoch,iV hh.Side,iV hh.Size,iV hh.First,.pointer (some ⟨mh,0,none⟩),z1]) 6 _ O O O (fun w hw=>Sl.bF (hw.row 5 O)) (.inr ⟨jv,rfl⟩) (fun w hw=>(aJ (Sl.one (hw.row 5 O)) bq)) O O O) fun _=>U ?_
 refine R.mp (B':=[aj.box aI [z8,z9,l7,iV dk.Fuse,.bool dk.Down] 120,aj.row 9 z8 dk.Kept,aj.row 9 z9 dk.Now,aj.row 196 l7 dk.Wait,aj.box mh [.pointer (some ⟨aI,0,none⟩),iV 102,iV (((dk.Now.length-102):Nat):Int),iV hh.First,iV (fT dk 102 (Int.toNat (((dk.Now.length-102):Nat):Int)) hh.First:Int)] 193,aj.box b1 [.pointer (some ⟨aI,0,none⟩),iV hh.Epoch,iV hh.Side,iV hh.Size,iV hh.First,.pointer (some ⟨mh,0,none⟩),z1] 132,aj.held w own]) (fun _ hw=>hw.bu 5 _ O O) ?_
 refine R.loop (fun g_:Nat×Value×(List Change)=>[(4,.pointer (some ⟨b1,0,none⟩)),(127,z12),(128,iV (o6.length:Int)),(129,iV (g_.1:Int))]) (fun g_=>[aj.box aI [z8,z9,l7,iV dk.Fuse,.bool dk.Down] 120,aj.row 9 z8 dk.Kept,aj.row 9 z9 dk.Now,aj.row 196 l7 dk.Wait,aj.box mh [.pointer (some ⟨aI,0,none⟩),iV 102,iV (((dk.Now.length-102):Nat):Int),iV hh.First,iV (fT dk 102 (Int.toNat (((dk.Now.length-102):Nat):Int)) hh.First:Int)] 193,aj.box b1 [.pointer (some ⟨aI,0,none⟩),iV hh.Epoch,iV hh.Side,iV hh.Size,iV hh.First,.pointer (some ⟨mh,0,none⟩),g_.2.1] 132,aj.held w own]) (fun g_=>[aj.ls g_.2.1 g_.2.2,aj.ls z1 (fJ (tx.extract 0 hh.Size.toNat)).1,aj.nJ (o6:List kJ),aj.ls z12 o6]) (fun g_=>g_.1<=o6.length/\g_.2.2=kG (fJ (sT dk)).1 ((o6.map kJ.L).take g_.1)) (fun g_=>o6.length-g_.1) (0,z1,(fJ (tx.extract 0 hh.Size.toNat)).1) O (by exact ⟨ae,by rw [hth];rfl⟩) ⟨rfl,rfl,rfl,rfl,trivial⟩ (fun _=>Wd.pick kj [0,0,1,2] O O O) ?_
 rintro ⟨k,vr,rr⟩ ⟨hk,HR⟩
 dsimp only at *
 have hWl:=QX hE1;have hWs:∀c∈o6.map kJ.L,c.length<=98:=fun c hc=>by rw [hE1] at hc;have:=IL c hc;omega
 have hrl:rr.length<=12004:=by have h1:=Af (M:=98) ((o6.map kJ.L).take k) (fJ (sT dk)).1 (fun c hc=>hWs c (List.mem_of_mem_take hc));have h2:=IK (sT dk);have h3:(sT dk).size<=2400:=(by rw [<- hth,ByteArray.size_extract];omega);rw [List.length_take,List.length_map] at h1;rw [HR];omega
 refine U ?_
 by_cases h5:k<o6.length
 .
  refine U ?_
  obtain ⟨x1,hx1⟩:∃z,o6[k]? = some z:=⟨_,List.getElem?_eq_getElem ae⟩
  refine R.q (q.idx (i:=k) (cb 3 O) O O JZ O hx1) O ?_
  refine R.q (q.gh (cb 3 O) hx1 O jv O) O<|U ?_
  have hxl:=hWs x1.L (List.mem_map_of_mem (List.mem_of_getElem? hx1))
  refine U ?_
  refine R.s (B':=(fun jZ:Value=>[aj.row 115 jZ (cm rr x1.L),aj.box aI [z8,z9,l7,iV dk.Fuse,.bool dk.Down] 120,aj.row 9 z8 dk.Kept,aj.row 9 z9 dk.Now,aj.row 196 l7 dk.Wait,aj.box mh [.pointer (some ⟨aI,0,none⟩),iV 102,iV (((dk.Now.length-102):Nat):Int),iV hh.First,iV (fT dk 102 (Int.toNat (((dk.Now.length-102):Nat):Int)) hh.First:Int)] 193,aj.box b1 [.pointer (some ⟨aI,0,none⟩),iV hh.Epoch,iV hh.Side,iV hh.Size,iV hh.First,.pointer (some ⟨mh,0,none⟩),vr] 132,aj.held w own])) (F':=(fun jZ:Value=>[aj.ls x1.cv x1.L,aj.ls vr rr,aj.ls z1 (fJ (tx.extract 0 hh.Size.toNat)).1,aj.nJ (o6:List kJ),aj.ls z12 o6])) O (s.pre (B2:=[aj.box aI [z8,z9,l7,iV dk.Fuse,.bool dk.Down] 120,aj.row 9 z8 dk.Kept,aj.row 9 z9 dk.Now,aj.row 196 l7 dk.Wait,aj.box mh [.pointer (some ⟨aI,0,none⟩),iV 102,iV (((dk.Now.length-102):Nat):Int),iV hh.First,iV (fT dk 102 (Int.toNat (((dk.Now.length-102):Nat):Int)) hh.First:Int)] 193,aj.box b1 [.pointer (some ⟨aI,0,none⟩),iV hh.Epoch,iV hh.Side,iV hh.Size,iV hh.First,.pointer (some ⟨mh,0,none⟩),vr] 132,aj.held w own]) (F2:=[aj.ls x1.cv x1.L,aj.ls vr rr,aj.ls z1 (fJ (tx.extract 0 hh.Size.toNat)).1,aj.nJ (o6:List kJ),aj.ls z12 o6]) (fun _ hw=>hw.TD (x:=x1) 2 O (List.mem_of_getElem? hx1)) (s.aT (B0:=[]) (Br:=[aj.box aI [z8,z9,l7,iV dk.Fuse,.bool dk.Down] 120,aj.row 9 z8 dk.Kept,aj.row 9 z9 dk.Now,aj.row 196 l7 dk.Wait,aj.box mh [.pointer (some ⟨aI,0,none⟩),iV 102,iV (((dk.Now.length-102):Nat):Int),iV hh.First,iV (fT dk 102 (Int.toNat (((dk.Now.length-102):Nat):Int)) hh.First:Int)] 193,aj.box b1 [.pointer (some ⟨aI,0,none⟩),iV hh.Epoch,iV hh.Side,iV hh.Size,iV hh.First,.pointer (some ⟨mh,0,none⟩),vr] 132,aj.held w own]) (F0:=[aj.ls vr rr,aj.ls x1.cv x1.L]) kj [1,0] (fun jZ:Value=>jZ) (fun jZ:Value=>[aj.row 115 jZ (cm rr x1.L)]) (fun jZ:Value=>[]) O O O NL O O (fun w own hw H=>pZ vr rr x1.cv x1.L w own H ae) O)) fun xX=>U ?_
  refine R.s O (s.dE (us:=[xX]) (cs':=[.pointer (some ⟨aI,0,none⟩),iV hh.Epoch,iV hh.Side,iV hh.Size,iV hh.First,.pointer (some ⟨mh,0,none⟩),xX]) 6 _ O O O (fun w hw=>Sl.bF (hw.row 0 O)) (.inr ⟨jv,rfl⟩) (fun w hw=>(aJ (Sl.one (hw.row 0 O)) bq)) O O O) fun _=>U ?_
  refine R.q (q.add (r:=((k+1:Nat):Int)) O O (wr ae)) O<|U ?_
  refine R.mp (B':=[aj.box aI [z8,z9,l7,iV dk.Fuse,.bool dk.Down] 120,aj.row 9 z8 dk.Kept,aj.row 9 z9 dk.Now,aj.row 196 l7 dk.Wait,aj.box mh [.pointer (some ⟨aI,0,none⟩),iV 102,iV (((dk.Now.length-102):Nat):Int),iV hh.First,iV (fT dk 102 (Int.toNat (((dk.Now.length-102):Nat):Int)) hh.First:Int)] 193,aj.box b1 [.pointer (some ⟨aI,0,none⟩),iV hh.Epoch,iV hh.Side,iV hh.Size,iV hh.First,.pointer (some ⟨mh,0,none⟩),xX] 132,aj.held w own]) (fun _ hw=>hw.bu 0 _ O O) ?_
  refine R.back (k+1,xX,cm rr x1.L) O (by (exact ⟨ae,by rw [Gk (c:=x1.L) (by rw [List.getElem?_map,hx1];rfl),<- HR]⟩)) aO ⟨rfl,rfl,rfl,rfl,trivial⟩ (Vw kj [0,3,4,5] O O O)
 refine U ?_
 have hz:(dk,(bM dk).c,(bM dk).L)=(dk,(⟨hh.Epoch,hh.Side,hh.Size,hh.First,rr⟩:jK),(⟨102,(((dk.Now.length-102):Nat):Int),hh.First,(fT dk 102 (Int.toNat (((dk.Now.length-102):Nat):Int)) hh.First:Int)⟩:Lg)):=by (rw [HR,List.take_of_length_le (by rw [List.length_map];omega),hE1,Zf,show ((dk.Now.length-102:Nat):Int)=(dk.Now.length:Int)-102 by omega];rfl)
 have hz0:(bM dk).c=(⟨hh.Epoch,hh.Side,hh.Size,hh.First,rr⟩:jK):=congrArg (fun t_=>t_.2.1) hz
 rw [hz0]
 have hz1:(bM dk).L=(⟨102,(((dk.Now.length-102):Nat):Int),hh.First,(fT dk 102 (Int.toNat (((dk.Now.length-102):Nat):Int)) hh.First:Int)⟩:Lg):=congrArg (fun t_=>t_.2.2) hz
 rw [hz1]
 exact R.w2 (z8,z9,l7,b1,vr,mh) [0,1,2,3,5,4,6] [0] O Tryz.results29 (RV.tmp O) (RV.tmp O) O O O (cq O O)
end
section
open Go Go.RowKit
def IP:Option Nat->Fence
  | none=>Fence.wide
  | some l=>Fence.wide.inRound l
theorem IQ (r:Option Nat)(f:FuncId):(IP r).fn f:=by cases r <;> exact trivial
theorem wB (r:Option Nat):(IP r).depth.isSome=true->1<=9:=fun _=>by decide
theorem Lu {r:Option Nat}{m:Nat}{P:Program}{f:FuncId}{args:Array Value}{w:World}{R:Ending->World->Prop}(h:Calls P f args w R):CallsIn (IP r) m P f args w R:=by
 cases r with
 | none=>exact callsIn_wide.2 h
 | some l=>exact CallsIn.inRound l (callsIn_wide.2 h)
theorem OE {r:Option Nat}{m:Nat}{P:Program}{row:String}{args:Array Value}{w:World}{R:Value->World->Prop}(h:Rows P row args w R):RowsIn (IP r) m P row args w R:=by
 have key:RowsIn Fence.wide m P row args w R:=fun c cs _=>let ⟨v,w',q,s⟩:=h c cs;⟨v,w',q,stepsIn_wide.2 s⟩
 cases r with
 | none=>exact key
 | some l=>exact key
def oH (a:Act)(ds:List Deferred):Act:={ a with defers:=a.defers++ds }
theorem ox (a:Act)(ds:List Deferred)(dst:Option Nat)(v:Value):(oH a ds).put dst v=oH (a.put dst v) ds:=by cases dst <;> rfl
theorem Gr (a:Act)(ds:List Deferred):(oH a ds).eval=a.eval:=rfl
section
variable {P:Program} {r:Option Nat} {ds:List Deferred}
def ndef (o:Oper):Bool:=match o.op with | .defer _=>false|_=>true
theorem QY {o:Oper}(h:ndef o=true):∀c,o.op ≠ .defer c:=fun c e=>by grind [ndef]
theorem OG {o:Oper}{a:Act}{w:World}{K K':Act->World->Prop}{Q Q':Exit->Act->World->Prop}(hnd:ndef o=true)(hK:∀a w,K a w->K' (oH a ds) w)(hQ:∀e a w,Q e a w->Q' e (oH a ds) w)
 (h:o.wp P a w K Q):o.wpIn (IP r) 9 P (oH a ds) w K' Q':=by
 refine ⟨fun f _=>IQ r f,?_⟩
 rw [Oper.semAt_eq _ _ _ (QY hnd),Gr]
 unfold Oper.wp at h
 generalize (execOp a.eval o).run P w=x at *
 cases x with
 | ok y w' =>
  cases y <;> simp only [Oper.upon] at h <;> simp only [Oper.uponIn]
  case value v=>grind [ox]
  case skip=>grind [ox]
  case defer d =>
   have e:({ oH a ds with defers:=d::(oH a ds).defers }:Act)=oH { a with defers:=d::a.defers } ds:=rfl
   grind [ox]
  case enter f args =>
   refine ⟨wB r,(Lu h).mono fun en w'' he=>?_⟩
   cases en with
   | returned v=>grind [ox]
   | panicked c=>grind
   | outgrown=>obtain ⟨a',w',hq⟩:=he;exact ⟨_,_,hQ _ _ _ hq⟩
  case row row args =>
   exact ⟨wB r,(OE h).mono fun v w'' he=>by grind [ox]⟩
 | halt x w' =>
  cases x <;> simp only [Oper.upon] at h <;> simp only [Oper.uponIn]
  grind
theorem Kd {ops:Array Oper}{Q Q':Exit->Act->World->Prop}(hQ:∀e a w,Q e a w->Q' e (oH a ds) w)(hO:∀a w,¬ Q .outgrown a w):∀ (rest:List Oper) (a:Act) (w:World),rest.all ndef=true->wpList P ops Q rest a w->wpListIn (IP r) 9 P ops Q' rest (oH a ds) w
 | [],a,w,_,h=>hQ _ _ _ h
 | o::rest,a,w,hn,h=>by
  rw [List.all_cons,Bool.and_eq_true] at hn
  have ih:∀a w,wpList P ops Q rest a w->wpListIn (IP r) 9 P ops Q' rest (oH a ds) w:=fun a w=>Kd hQ hO rest a w hn.2
  unfold wpList at h
  unfold wpListIn
  by_cases hw:Region.wanted o (yielded ops a.tmps)=true
  .
   rw [if_pos hw] at h
   rw [if_pos (show Region.wanted o (yielded ops (oH a ds).tmps)=true from hw)]
   rcases h with h|⟨_,a',w',h⟩
   .grind [OG]
   grind
  rw [if_neg hw] at h
  rw [if_neg (show ¬ Region.wanted o (yielded ops (oH a ds).tmps)=true from hw),ox]
  grind [IQ]
theorem OH {ops:Array Oper}{Q Q':Exit->Act->World->Prop}(hn:ops.toList.all ndef=true)(hQ:∀e a w,Q e a w->Q' e (oH a ds) w)(hO:∀a w,¬ Q .outgrown a w) :
 ∀ (fuel:Nat) (ls:Array Bool) (a:Act) (w:World),wpAny P .any ops Q fuel ls a w->wpAnyIn (IP r) 9 P .any ops Q' fuel ls (oH a ds) w
 | 0,ls,a,w,h=>⟨h.1,hQ _ _ _ h.2⟩
 | fuel+1,ls,a,w,h=>by
  refine ⟨fun h0=>hQ _ _ _ (h.1 h0),fun i hi=>?_⟩
  have h1:=h.2 i hi
  have ih:∀a w,wpAny P .any ops Q fuel (ls.setIfInBounds i true) a w->wpAnyIn (IP r) 9 P .any ops Q' fuel (ls.setIfInBounds i true) (oH a ds) w:=fun a w=>OH hn hQ hO fuel (ls.setIfInBounds i true) a w
  unfold wpOp at h1
  unfold wpOpIn
  cases ho:ops[i]? with
  | none=>grind
  | some o =>
   rw [ho] at h1
   dsimp only at h1 ⊢
   have hno:ndef o=true:=List.all_eq_true.1 hn o (Array.mem_toList_iff.2 (Array.mem_of_getElem? ho))
   by_cases hw:Region.wanted o (yielded ops a.tmps)=true
   .
    rw [if_pos hw] at h1
    rw [if_pos (show Region.wanted o (yielded ops (oH a ds).tmps)=true from hw)]
    rcases h1 with h1|⟨_,a',w',h1⟩
    .grind [OG]
    grind
   rw [if_neg hw] at h1
   rw [if_neg (show ¬ Region.wanted o (yielded ops (oH a ds).tmps)=true from hw),ox]
   grind [IQ]
end
def mb (r:Option Nat)(P:Program)(Q:Exit->Act->World->Prop):List It->Exit->Act->World->Prop
  | [],e,a,w=>Q e a w
  | .c x::k,.normal,a,w=>x.wpIn (IP r) 9 P (mb r P Q k) a w
  | .c _::k,e,a,w=>mb r P Q k e a w
  | .b id::k,.exit id',a,w=>bif Nat.beq id' id then mb r P Q k .normal a w else mb r P Q k (.exit id') a w
  | .b _::k,e,a,w=>mb r P Q k e a w
  | .back I::k,.normal,a,w=>I a w
  | .back _::k,e,a,w=>mb r P Q k e a w
section
variable {P:Program} {r:Option Nat} {ds:List Deferred} {Q:Exit->Act->World->Prop}
theorem OI {x y:Code}{k:List It}{a:Act}{w:World}(h:mb r P Q (.c x :: .c y::k) .normal a w):mb r P Q (.c (.seq x y)::k) .normal a w :=
 wpIn_seq (wpIn_mono h (fun e a w q=>by cases e <;> exact q))
theorem IU {id:Nat}{x:Code}{k:List It}{a:Act}{w:World}(h:mb r P Q (.c x :: .b id::k) .normal a w):mb r P Q (.c (.block id x)::k) .normal a w :=
 wpIn_block (wpIn_mono h (fun e a w q=>by
  cases e with
  | exit id' =>
   simp only [mb] at q
   by_cases hid:id'=id
   .simp_all [Exit.inBlock]
   have e':Nat.beq id' id=false:=Bool.eq_false_iff.2 (fun h=>hid (Nat.eq_of_beq_eq_true h))
   grind [Exit.inBlock]
  | _=>exact q))
theorem si {id:Nat}:∀ {k k':List It} {a:Act} {w:World},kS id k=some k'->mb r P Q k' .normal a w->mb r P Q k (.exit id) a w
 | [],k',a,w,h,hq=>by simp [kS] at h
 | .c _::k,k',a,w,h,hq=>si (k:=k) (by simpa [kS] using h) hq
 | .back _::k,k',a,w,h,hq=>si (k:=k) (by simpa [kS] using h) hq
 | .b id'::k,k',a,w,h,hq=>by
  simp only [kS] at h
  simp only [mb]
  cases hb:Nat.beq id id' with
  | true=>rw [hb] at h;simp at h;subst h;exact hq
  | false=>rw [hb] at h;simp at h;exact si h hq
theorem fj:∀ (f:Nat) {k:List It} {a:Act} {w:World},mb r P Q (norm f k) .normal a w->mb r P Q k .normal a w
 | 0,k,a,w,h=>h
 | f+1,k,a,w,h=>by
  unfold norm at h
  split at h
  .exact OI (fj f h)
  .exact wpIn_skip (fj f h)
  .exact wpIn_label (fj f h)
  .exact IU (fj f h)
  .
   have:=fj f h
   exact this
  .
   split at h
   .rename_i hx;exact wpIn_exit (si hx (fj f h))
   exact h
  exact h
theorem uV:∀ {k:List It} {a:Act} {w:World},Q .ret a w->mb r P Q k .ret a w
 | [],a,w,h=>h
 | .c _::k,a,w,h=>uV (k:=k) h
 | .b _::k,a,w,h=>uV (k:=k) h
 | .back _::k,a,w,h=>uV (k:=k) h
theorem rA (hO:∀a w,¬ Q .outgrown a w):∀ (k:List It) (a:Act) (w:World),¬ mb r P Q k .outgrown a w
 | [],a,w=>hO a w
 | .c _::k,a,w=>rA hO k a w
 | .b _::k,a,w=>rA hO k a w
 | .back _::k,a,w=>rA hO k a w
theorem nj:∀ (k:List It) (e:Exit) (a:Act) (w:World),mb none P Q k e a w->qz P Q k e a w
 | [],e,a,w,h=>h
 | .c x::k,e,a,w,h=>by
  cases e with
  | normal=>exact wp_mono (wpIn_wide.1 h) (fun e a w q=>nj k e a w q)
  | _=>exact nj k _ a w h
 | .b id::k,e,a,w,h=>by
  cases e with
  | exit id' =>
   simp only [mb] at h
   simp only [qz]
   cases hb:Nat.beq id' id with
   | true=>rw [hb] at h;exact nj k _ a w h
   | false=>rw [hb] at h;exact nj k _ a w h
  | _=>exact nj k _ a w h
 | .back I::k,e,a,w,h=>by
  cases e with
  | normal=>exact h
  | _=>exact nj k _ a w h
end
def lZ (r:Option Nat)(ds:List Deferred)(P:Program)(n:Nat)(we:World)(X:List Nat)(Q:Exit->Act->World->Prop)(k:List It)(L:Fm)(B F:List aj):Prop :=
  ∀a w,Fr n L a->Wd we X B F w->mb r P Q k .normal (oH a ds) w
def qI (r:Option Nat)(ds:List Deferred)(P:Program)(Q:Exit->Act->World->Prop)(k:List It):Exit->Act->World->Prop:=fun e a w=>mb r P Q k e (oH a ds) w
section
variable {P:Program} {r:Option Nat} {ds:List Deferred} {n:Nat} {we:World} {X:List Nat} {Q:Exit->Act->World->Prop} {k k':List It} {L L':Fm} {B F:List aj} {ops rest:List Oper}
theorem I.nil (h:lZ r ds P n we X Q k L B F):Run P n we X (qI r ds P Q k) [] L B F:=fun a w ha hw=>h a w ha hw
theorem I.reg {id:Nat}(h:norm 200 k = .c (.region id ops.toArray false)::k')(hn:ops.all ndef=true)(hO:∀a w,¬ Q .outgrown a w)(hr:Rg P n we X (qI r ds P Q k') ops ops [] L B F):lZ r ds P n we X Q k L B F :=
 fun a w ha hw=>fj 200 (h▸wpIn_region_lit (Kd (Q:=qz P (qI r ds P Q k') []) (fun e a w q=>q) (fun a w q=>rA hO k' _ _ q) ops a w hn (hr a w ha hw)))
theorem I.Hh {id fuel:Nat}(S:World->Prop)(h:norm 200 k = .c (.region id ops.toArray true)::k')(hn:ops.all ndef=true)(hO:∀a w,¬ Q .outgrown a w)(hm:P.follows .mixedOrders=true)(hl:ops.length=fuel)
 (hr:Dg S P n we X (qI r ds P Q k') ops fuel (Array.replicate fuel false) [] L B F):lZ r ds P n we X Q k L B F:=by
 intro a w ha hw
 refine fj 200 (h ▸ ?_)
 refine wpIn_region_any hm ?_
 have h1:=wpAny_of_held _ _ _ _ (hr a _ ha (hw.grow (mH.draw w)))
 grind [NoPanic,qz,qI,mb,oH,OH,NoPanic.imp,rA]
theorem I.nV {c:Operand}{x y:Code}(h:norm 200 k = .c (.cond c x y)::k')(hc:ev L c=some (.bool true))(hr:lZ r ds P n we X Q (.c x::k') L B F):lZ r ds P n we X Q k L B F :=
 fun a w ha hw=>fj 200 (h▸wpIn_cond_true (ha.ev hc) (hr a w ha hw))
theorem I.mg {c:Operand}{x y:Code}(h:norm 200 k = .c (.cond c x y)::k')(hc:ev L c=some (.bool false))(hr:lZ r ds P n we X Q (.c y::k') L B F):lZ r ds P n we X Q k L B F :=
 fun a w ha hw=>fj 200 (h▸wpIn_cond_false (ha.ev hc) (hr a w ha hw))
theorem I.mp {B' F':List aj}(hm:∀w,Wd we X B F w->Wd we X B' F' w)(h:lZ r ds P n we X Q k L B' F'):lZ r ds P n we X Q k L B F:=fun a w ha hw=>h a w ha (hm w hw)
theorem I.ret (h:norm 200 k = .c .ret::k')(hq:∀a w,Fr n L a->Wd we X B F w->Q .ret (oH a ds) w):lZ r ds P n we X Q k L B F :=
 fun a w ha hw=>fj 200 (h▸wpIn_ret (uV (hq a w ha hw)))
theorem I.end (h:norm 200 k=[])(hq:∀a w,Fr n L a->Wd we X B F w->Q .normal (oH a ds) w):lZ r ds P n we X Q k L B F :=
 fun a w ha hw=>fj 200 (h▸hq a w ha hw)
end
end
section
open Go Go.RowKit
def aj.dy (l:Nat)(o:Obj):aj:=⟨[l],fun w=>w.heap[l]? = some o,fun w w' h ho=>(h l (List.mem_singleton.2 rfl)).trans ho⟩
theorem IV {w:World}{l:Nat}{o o':Obj}:mH [l] w (w.putObj l o') :=
 ⟨rfl,rfl,rfl,Nat.le_of_eq World.putObj_size.symm,fun k hk hn=>World.putObj_heap_other (fun e=>hn aB)⟩
section
variable {we w:World} {X:List Nat} {B F:List aj}
theorem Wd.IW {i l:Nat}{o:Obj}(hw:Wd we X B F w)(hi:B[i]? = some (aj.dy l o)):w.heap[l]? = some o:=hw.b i hi
theorem Wd.OJ {i l:Nat}{o:Obj}(o':Obj)(hw:Wd we X B F w)(hi:B[i]? = some (aj.dy l o)):Wd we X (B.set i (aj.dy l o')) F (w.putObj l o'):=by
 have h:=hw.IW hi
 have hlt:l<w.heap.size:=(Array.getElem?_eq_some_iff.1 h).1
 refine hw.turn hi (IV (o:=o)) (World.putObj_heap_same hlt) (by simp [aj.dy]) fun k hk=>?_
 have e:k=l:=List.mem_singleton.1 hk
 subst e
 exact ⟨tT,.inl (List.mem_singleton.2 rfl)⟩
theorem Lv (w:World)(o:Obj):mH [] w (w.alloc o):=by
 refine ⟨rfl,rfl,rfl,bW,fun k hk _=>?_⟩
 show (w.heap.push o)[k]? = _
 grind
theorem Wd.Z0 (hw:Wd we X B F w)(o:Obj):Wd we X (aj.dy w.heap.size o::B) F (w.alloc o):=by
 have h1:=hw.grow (Lv w o)
 refine h1.new (r:=aj.dy w.heap.size o) (World.alloc_heap_new w o) (by simp [aj.dy]) fun k hk=>?_
 have e:k=w.heap.size:=List.mem_singleton.1 hk
 subst e
 refine ⟨bW,hw.upd.size,fun hb=>?_,fun hb=>?_⟩
 .have:=(hw.own _ hb).1;omega
 have:=(hw.mR _ hb).1;omega
end
section
variable {P:Program} {r:Option Nat} {ds:List Deferred} {n:Nat} {we:World} {X:List Nat} {Q:Exit->Act->World->Prop} {k k':List It} {L L':Fm} {B F:List aj} {ops rest:List Oper}
variable {d:Nat} {op:Op} {ty:TypeId} {pos:String} {eC:Array Edge} {g:Option (Nat×Bool)} {v:Value}
def SR (r:Option Nat)(ds:List Deferred)(P:Program)(n:Nat)(we:World)(X:List Nat)(Q:Exit->Act->World->Prop)(ops rest:List Oper)(k:List It)(L:Fm)(B F:List aj):Prop :=
  ∀a w,Fr n L a->Wd we X B F w->wpListIn (IP r) 9 P ops.toArray (mb r P Q k) rest (oH a ds) w
theorem I.Zg {id:Nat}(h:norm 200 k = .c (.region id ops.toArray false)::k')(hr:SR r ds P n we X Q ops ops k' L B F):lZ r ds P n we X Q k L B F :=
 fun a w ha hw=>fj 200 (h▸wpIn_region_lit (hr a w ha hw))
theorem I.XI (h:lZ r ds P n we X Q k L B F):SR r ds P n we X Q ops [] k L B F:=fun a w ha hw=>wpListIn_nil (h a w ha hw)
theorem I.s {β:Type}{o:Oper}{L':β->Fm}{B' F':β->List aj}(hn:ndef o=true)(hg:gd ops L o.guard=some true)(hs:Stp P n we X L B F o L' B' F')(h:∀z,SR r ds P n we X Q ops rest k (L' z) (B' z) (F' z)):SR r ds P n we X Q ops (o::rest) k L B F:=by
 intro a w ha hw
 refine wpListIn_step fun K hK=>?_
 rw [if_pos (show Region.wanted o (yielded ops.toArray (oH a ds).tmps)=true from ez (o:=o) (a:=a) ha hg)]
 refine OG (K:=fun a w => ∃z,Fr n (L' z) a/\Wd we X (B' z) (F' z) w) (Q:=fun _ _ _=>False) hn ?_ ?_ (hs _ _ a w ha hw fun z a w ha hw=>⟨z,ha,hw⟩)
 .rintro a w ⟨z,ha,hw⟩;exact hK _ _ (h z a w ha hw)
 grind
theorem q.stp (hq:Qt P n we X L B F op ty v)(hd:Nat.blt d n=true):Stp P n we X L B F ⟨some d,op,ty,pos,eC,g⟩ (fun _:Unit=>(d,v)::L) (fun _=>B) (fun _=>F):=by
 intro K Q' a w ha hw hK
 unfold Oper.wp
 rw [hq _ _ _ _ a w ha hw,Oper.upon_value]
 exact hK () _ _ (ha.put d v hd) hw
theorem I.q (hq:Qt P n we X L B F op ty v)(hd:Nat.blt d n=true)(hn:ndef ⟨some d,op,ty,pos,eC,none⟩=true)(h:SR r ds P n we X Q ops rest k ((d,v)::L) B F):SR r ds P n we X Q ops (⟨some d,op,ty,pos,eC,none⟩::rest) k L B F :=
 I.s hn rfl (q.stp hq hd) fun _=>h
theorem I.y {β:Type}{l i:Nat}{rc:Loop}{c x:Operand}{xv:Value}{ts:Array TypeId}(hi:B[i]? = some (aj.dy l (.loop rc)))(hp:rc.params.size=1)(hc:ev L c=some (.func (.yield l) #[] #[]))(hx:ev L x=some xv)
 (V:β->Bool) (PV:β->Prop) (B' F':β->List aj)
 (UW:∀w,Wd we X B F w->RoundIn Fence.wide 8 P l rc.fn ((rc.params.zip #[xv]).foldl (fun tmps (t,a)=>tmps.setIfInBounds t a) rc.tmps) rc.assign rc.body w (fun e w' => ∃z,e = .returned (.bool (V z))/\PV z/\Wd we X (B' z) (F' z) w'))
 (hd:Nat.blt d n=true) (h:∀z,PV z->SR none ds P n we X Q ops rest k ((d,.bool (V z))::L) (B' z) (F' z)) :
 SR none ds P n we X Q ops (⟨some d,.call { callee:= .value c,args:= #[x],argTypes:=ts },ty,pos,eC,none⟩::rest) k L B F:=by
 intro a w ha hw
 refine wpListIn_plain rfl fun K hK=>⟨fun f _=>trivial,?_⟩
 have hrun:(Oper.semAt (IP none).round (oH a ds).eval ⟨some d,.call { callee:= .value c,args:= #[x],argTypes:=ts },ty,pos,eC,none⟩).run P w = .ok (.round l rc.fn ((rc.params.zip #[xv]).foldl (fun tmps (t,a)=>tmps.setIfInBounds t a) rc.tmps) rc.assign rc.body) w:=by
  rw [Oper.semAt_eq _ _ _ (fun c h=>by cases h),Gr]
  simp [execOp,resolve,ha.ev hc,Deferred.ofValue,invoke,ha.ev hx,run_yield (P:=P) (args:= #[xv]) (hw.IW hi) aB]
 rw [hrun,Oper.uponIn_round]
 refine ⟨wB none,RoundIn.mono (UW w hw) fun e w' he=>?_⟩
 obtain ⟨z,rfl,hp,hz⟩:=he
 show K ((oH a ds).put (some d) (.bool (V z))) w'
 rw [ox]
 exact hK _ _ (h z hp _ w' (ha.put d _ hd) hz)
def Z1 {ι:Type}(ds:List Deferred)(n:Nat)(we:World)(X:List Nat)(LI:ι->Fm)(BI FI:ι->List aj)(PI:ι->Prop)(μ:ι->Nat)(m:Nat)(a:Act)(w:World):Prop :=
  ∃a0,a=oH a0 ds/\Hd n we X LI BI FI PI μ m a0 w
theorem I.back {ι:Type}{LI:ι->Fm}{BI FI:ι->List aj}{PI:ι->Prop}{μ:ι->Nat}{m:Nat}(i:ι)(h:norm 200 k = .back (Z1 ds n we X LI BI FI PI μ m)::k')(hP:PI i)(hm:μ i<m)(hL:CP (LI i) L)(hB:∀w,Wd we X B F w->Wd we X (BI i) (FI i) w):lZ r ds P n we X Q k L B F :=
 fun a w ha hw=>fj 200 (by rw [h];exact ⟨a,rfl,i,hP,hm,ha.sub hL,hB w hw⟩)
theorem Lw {c:Code}{Q:Exit->Act->World->Prop}{a:Act}{w:World}(I:Nat->Act->World->Prop)(m:Nat)(h₀:I m a w)
 (round:∀m a w,I m a w->c.wpIn Fence.wide 9 P (Exit.then (fun a' w' => ∃m',m'<m/\I m' a' w') Q) a w):(Code.loop c).wpIn Fence.wide 9 P Q a w :=
 wpIn_wide.2 (EI I m h₀ fun m a w h=>wpIn_wide.1 (round m a w h))
theorem I.loop {ι:Type}(LI:ι->Fm)(BI FI:ι->List aj)(PI:ι->Prop)(μ:ι->Nat)(i:ι){c:Code}(h:norm 200 k = .c (.loop c)::k')(hP:PI i)(hL:CP (LI i) L)(hB:∀w,Wd we X B F w->Wd we X (BI i) (FI i) w)
 (round:∀i,PI i->lZ none ds P n we X Q (.c c :: .back (Z1 ds n we X LI BI FI PI μ (μ i))::k') (LI i) (BI i) (FI i)):lZ none ds P n we X Q k L B F:=by
 intro a w ha hw
 refine fj 200 (h ▸ ?_)
 refine Lw (fun m a w => ∃a0,a=oH a0 ds /\ ∃i,PI i/\μ i=m/\Fr n (LI i) a0/\Wd we X (BI i) (FI i) w) (μ i) ⟨a,rfl,i,hP,rfl,ha.sub hL,hB w hw⟩ ?_
 rintro m a w ⟨a0,rfl,i,hP,rfl,ha,hw⟩
 refine wpIn_mono (round i hP a0 w ha hw) (fun e a w q=>?_)
 cases e with
 | normal =>
  obtain ⟨a1,rfl,j,h1,h2,h3,h4⟩:=q
  exact ⟨μ j,h2,a1,rfl,j,h1,rfl,h3,h4⟩
 | _=>exact q
theorem OL (r:Option Nat)(m:Nat):(IP r).room m:=by
 intro d hd;cases r <;> cases hd
theorem Gs {c:Code}{m:Nat}{a:Act}{w:World}(h:c.wpIn (IP r) 9 P Q a w):c.wpIn (IP r) m P Q a w:=fun b k cs h1 h2 _=>h b k cs h1 h2 (OL r _)
def qA (n:Nat)(L:Fm)(we:World)(X:List Nat)(B F:List aj):Exit->Act->World->Prop
  | .normal,a,w=>Fr n L a/\Wd we X B F w
  | _,_,_=>False
theorem I.assigned {L1:Fm}(h:norm 200 k=[])(hL:CP L1 L):lZ r [] P n we X (qA n L1 we X B F) k L B F :=
 fun a w ha hw=>fj 200 (by
  rw [h]
  have e:oH a []=a:=by unfold oH;simp
  show qA n L1 we X B F .normal (oH a []) w
  rw [e];exact ⟨ha.sub hL,hw⟩)
theorem I.round {l i:Nat}{fn:FuncId}{tmps:Array Value}{assign body:Code}{w:World}{R:Ending->World->Prop}{rc:Loop}{L0 L1:Fm}(hi:B[i]? = some (aj.dy l (.loop rc)))(hs:rc.state = .ready)(hf:Fr n L0 { tmps:=tmps,defers:=[] })(hw:Wd we X B F w)
 (ha:lZ (some l) [] P n we X (qA n L1 we X B F) [.c assign] L0 B F) (hb:lZ (some l) [] P n we X (roundPost P l R) [.c body] L1 (B.set i (aj.dy l (.loop { rc with state:= .busy }))) F) :
 RoundIn Fence.wide 8 P l fn tmps assign body w R:=by
 refine roundIn_of_wpIn trivial (Gs (r:=some l) ?_)
 have h1:=ha _ w hf hw
 refine wpIn_mono h1 fun e a w q=>?_
 cases e with
 | normal =>
  obtain ⟨hfa,Z2⟩:=q
  refine ⟨_,run_beginRound (Z2.IW hi) hs,Gs (r:=some l) ?_⟩
  have h2:=hb a _ hfa (Z2.OJ (.loop { rc with state:= .busy }) hi)
  have e:oH a []=a:=by unfold oH;simp
  rw [e] at h2
  exact h2
 | _=>exact q.elim
section
variable {β:Type} {V:β->Bool} {PV:β->Prop} {B1 F1:β->List aj}
theorem I.rgo {l i:Nat}{rc:Loop}(z:β)(hP:PV z)(h:norm 200 k=[])(hi:B[i]? = some (aj.dy l (.loop rc)))(hV:V z=true)(hB:∀w,Wd we X (B.set i (aj.dy l (.loop { rc with state:= .ready,pending:=none }))) F w->Wd we X (B1 z) (F1 z) w) :
 lZ r [] P n we X (roundPost P l fun e w' => ∃z,e = .returned (.bool (V z))/\PV z/\Wd we X (B1 z) (F1 z) w') k L B F :=
 I.end h fun a w ha hw=>⟨_,_,run_endRound none (hw.IW hi),z,aB,hP,hB _ (hw.OJ _ hi)⟩
theorem I.Zh {l i:Nat}{rc:Loop}(z:β)(hP:PV z)(h:norm 200 k = .c .ret::k')(hi:B[i]? = some (aj.dy l (.loop rc)))(hV:V z=false)(hB:∀w,Wd we X (B.set i (aj.dy l (.loop { rc with state:= .done,pending:=some .ret }))) F w->Wd we X (B1 z) (F1 z) w) :
 lZ r [] P n we X (roundPost P l fun e w' => ∃z,e = .returned (.bool (V z))/\PV z/\Wd we X (B1 z) (F1 z) w') k L B F :=
 I.ret h fun a w ha hw=>⟨_,_,run_endRound (some .ret) (hw.IW hi),z,aB,hP,hB _ (hw.OJ _ hi)⟩
end
def coll (D:Nat):List Deferred:=[{ target:= .collected D,args:= #[] }]
def Ba (RC:Loop)(stop:Bool):Loop:=bif stop then { RC with state:= .done,pending:=some .ret } else { RC with state:= .ready,pending:=none }
theorem R.range {β:Type}{g:Operand}{ps:Array Tmp}{assign body:Code}{gf:Nat}{lb:Array Value}(h:norm 200 k = .c (.rangeFunc g ps assign body)::k')(hg:ev L g=some (.func (.func gf) #[] lb))
 (eg:∀args w,(callFunc gf args).run P w = .ok (.enter gf args) w) (stop:β->Bool) (PJ:β->Prop) (Bz Fz:Nat->β->List aj)
 (hcall:∀ (RC:Loop) (a:Act) (D:Nat) (w1:World),we.heap.size<=D->Fr n L a->RC.tmps=a.tmps->RC.params=ps->RC.assign=assign->RC.body=body->Wd we X (aj.dy (D+1) (.loop (Ba RC false))::aj.dy D (.deferred (some []))::B) F w1 ->
  CallsIn Fence.wide (9-1) P gf (#[.func (.yield (D+1)) #[] #[]]++lb) w1 fun e w3 => ∃v z,e = .returned v/\PJ z/\Wd we X (aj.dy (D+1) (.loop (Ba RC (stop z)))::Bz D z) (Fz D z) w3)
 (hend:∀D z,we.heap.size<=D->PJ z->stop z=false->lZ none (coll D) P n we X Q k' L (Bz D z) (Fz D z))
 (hstop:∀D z,we.heap.size<=D->PJ z->stop z=true->lZ none (coll D) P n we X Q (.c .ret::k') L (Bz D z) (Fz D z)):Run P n we X Q k L B F:=by
 intro a w ha hw
 refine dH 200 (h ▸ ?_)
 suffices hx:(Code.rangeFunc g ps assign body).wpIn Fence.wide 9 P (mb none P Q k') a w from wp_mono (wpIn_wide.1 hx) (fun e a w q=>nj k' e a w q)
 refine wpIn_rangeFunc fun fn _=>?_
 have hw2:=(hw.Z0 (.deferred (some []))).Z0 (.loop { state:= .ready,pending:=none,fn,tmps:=a.tmps,params:=ps,assign,body,defers:=w.heap.size })
 have hsz:(w.alloc (.deferred (some []))).heap.size=w.heap.size+1:=World.size_alloc _ _
 rw [hsz] at hw2
 have e0:=run_enterLoop_outer (P:=P) (w:=w) fn a.tmps ps assign body
 generalize (w.alloc (.deferred (some []))).alloc (.loop { state:= .ready,pending:=none,fn,tmps:=a.tmps,params:=ps,assign,body,defers:=w.heap.size })=W1 at hw2 e0
 have hc:=hcall { state:= .ready,pending:=none,fn,tmps:=a.tmps,params:=ps,assign,body,defers:=w.heap.size } a w.heap.size W1 hw.upd.size ha rfl rfl rfl rfl hw2
 refine ⟨w.heap.size+1,coll w.heap.size,W1,{ target:= .fn (.func gf) lb,args:= #[.func (.yield (w.heap.size+1)) #[] #[]] },W1,gf,#[.func (.yield (w.heap.size+1)) #[] #[]]++lb,W1,e0,?_,fun _ _=>trivial,?_,fun _=>by decide,?_⟩
 .simp only [resolve,ha.ev hg];simp [go_sem]
 .grind [invoke]
 refine CallsIn.mono hc (fun e w3 he=>?_)
 obtain ⟨v,z,rfl,Z3,hz⟩:=he
 have e2:oH a (coll w.heap.size) = { a with defers:=coll w.heap.size++a.defers }:=by unfold oH;rw [ha.defers];rfl
 have hq1:=hend w.heap.size z hw.upd.size Z3
 have hq2:=hstop w.heap.size z hw.upd.size Z3
 generalize hrc:Ba { state:= .ready,pending:=none,fn:=fn,tmps:=a.tmps,params:=ps,assign:=assign,body:=body,defers:=w.heap.size } (stop z)=rc at hz
 have hb:rc.state ≠ .busy:=by rw [<- hrc];cases stop z <;> (intro hh;cases hh)
 have hpd:rc.pending=bif stop z then some .ret else none:=by rw [<- hrc];cases stop z <;> rfl
 have e1:=run_endLoop (P:=P) (hz.IW (i:=0) rfl) hb
 have hz2:=hz.OJ (i:=0) (.loop { rc with state:= .exhausted }) rfl
 have hz3:Wd we X (Bz w.heap.size z) (Fz w.heap.size z) (w3.putObj (w.heap.size+1) (.loop { rc with state:= .exhausted })) :=
  ⟨hz2.upd,fun r hr=>hz2.okB r (List.mem_cons_of_mem _ hr),hz2.okF,(List.nodup_append.1 hz2.sep).2.1,fun k hk=>hz2.own k (List.mem_append.2 (.inr hk)),fun k hk=>⟨(hz2.mR k hk).1,fun hh=>(hz2.mR k hk).2 (List.mem_append.2 (.inr hh))⟩⟩
 cases hJ:stop z with
 | false =>
  have hq:rc.pending=none:=aB
  have h2:=hq1 hJ a _ ha hz3
  rw [e2] at h2
  refine ⟨rc.pending,_,e1,?_⟩
  grind
 | true =>
  have hq:rc.pending=some .ret:=aB
  have h2:=hq2 hJ a _ ha hz3
  rw [e2] at h2
  refine ⟨rc.pending,_,e1,?_⟩
  rw [hq] at h2 ⊢
  exact h2
theorem Wd.sub {w:World}(hw:Wd we X B F w):Wd w (blks B) B F w:=⟨mH.refl _ _,hw.okB,hw.okF,hw.sep,fun k hk=>⟨(hw.own k hk).1,fun _=>hk⟩,hw.mR⟩
theorem Wd.over {w w':World}{B1 F1:List aj}(hw:Wd we X B F w)(h:Wd w (blks B) B1 F1 w'):Wd we X B1 F1 w' :=
 ⟨⟨h.upd.os.trans hw.upd.os,h.upd.tape.trans hw.upd.tape,h.upd.output.trans hw.upd.output,Nat.le_trans hw.upd.size h.upd.size,fun k hk hn=>(h.upd.block k (Nat.lt_of_lt_of_le hk hw.upd.size) fun hb=>hn ((hw.own k hb).2 hk)).trans (hw.upd.block k hk hn)⟩,
  h.okB,h.okF,h.sep,fun k hk=>⟨(h.own k hk).1,fun hk2=>(hw.own k ((h.own k hk).2 (Nat.lt_of_lt_of_le hk2 hw.upd.size))).2 hk2⟩,h.mR⟩
theorem R.UX {f:FuncId}{fn:Func}{c:Code}{vs:List Value}{w:World}{R:Ending->World->Prop}(L:Fm)(hf:P.funcs[f]? = some fn)(hb:fn.body=some c)(hn:fn.ntmps=n)
 (hle:Nat.ble vs.length n=true) (hL:Tc 0 vs=L) (h0:Wd w X B F w) (h:Run P n w X (bodyPostM Fence.wide 9 P fn R) [.c c] L B F):Calls P f vs.toArray w R:=by
 have hle':vs.length<=n:=Nat.le_of_ble_eq_true hle
 suffices hx:c.wp P (bodyPostM Fence.wide 9 P fn R) { tmps:=vs.toArray++Array.replicate (fn.ntmps-vs.toArray.size) undef,defers:=[] } w from callsIn_wide.1 (callsIn_of_wp_marks (n:=9) hf hb trivial (wpIn_wide.2 hx))
 refine wp_mono (h _ w ⟨?_,rfl,fun i v hv=>?_⟩ h0) (fun e a w q=>by cases e <;> exact q)
 .simp [hn];omega
 rw [<- hL] at hv
 obtain ⟨h1,h2⟩:=ym vs 0 i v hv
 simp only [Nat.sub_zero] at h2
 have hi:i<vs.length:=(List.getElem?_eq_some_iff.1 h2).1
 show (vs.toArray++Array.replicate (fn.ntmps-vs.toArray.size) undef)[i]? = some v
 rw [Array.getElem?_append_left (by simpa using hi)]
 simpa using h2
theorem I.bE {f:FuncId}{fn:Func}{c:Code}{vs:List Value}{w:World}{R:Ending->World->Prop}(L:Fm)(hf:P.funcs[f]? = some fn)(hb:fn.body=some c)(hn:fn.ntmps=n)
 (hle:Nat.ble vs.length n=true) (hL:Tc 0 vs=L) (h0:Wd w X B F w) (h:lZ none [] P n w X (bodyPost P fn R) [.c c] L B F):CallsIn Fence.wide (9-1) P f vs.toArray w R:=by
 have hle':vs.length<=n:=Nat.le_of_ble_eq_true hle
 suffices hx:c.wpIn Fence.wide 9 P (bodyPost P fn R) { tmps:=vs.toArray++Array.replicate (fn.ntmps-vs.toArray.size) undef,defers:=[] } w from callsIn_wide.2 (calls_of_wp hf hb (wpIn_wide.1 hx))
 have h1:=h { tmps:=vs.toArray++Array.replicate (fn.ntmps-vs.toArray.size) undef,defers:=[] } w ⟨?_,rfl,fun i v hv=>?_⟩ h0
 .assumption
 .grind
 rw [<- hL] at hv
 obtain ⟨h1,h2⟩:=ym vs 0 i v hv
 grind
section
variable {fn:Func} {β:Type} {B1 F1:β->List aj} {V:β->Value} {r1:ResultVar} {v1:Value}
theorem I.w0 {PJ:β->Prop}(z:β)(hP:PJ z)(is js:List Nat)(h:norm 200 k=[] ∨ ∃k',norm 200 k = .c .ret::k')(hr:fn.results = #[])(hp:dJ B is=some (B1 z))(ha':hG is=true)(hj:dJ F js=some (F1 z))(e:V z = .tuple #[]) :
 lZ none [] P n we X (bodyPost P fn fun en w' => ∃z,en = .returned (V z)/\PJ z/\Wd we X (B1 z) (F1 z) w') k L B F:=by
 have e0:∀a:Act,oH a []=a:=fun a=>by unfold oH;simp
 rcases h with h|⟨k',h⟩
 .exact I.end h fun a w ha hw=>by rw [e0];exact bodyPost_end (results_none hr _ _ _) ha.defers ⟨z,by rw [e],hP,hw.Mn is js hp hj ha'⟩
 exact I.ret h fun a w ha hw=>by rw [e0];exact bodyPost_ret (results_none hr _ _ _) ha.defers ⟨z,by rw [e],hP,hw.Mn is js hp hj ha'⟩
theorem I.XJ {D i:Nat}(z:β)(is js:List Nat)(h:norm 200 k = .c .ret::k')(hr:fn.results = #[r1])(hB:B[i]? = some (aj.dy D (.deferred (some []))))(h1:RV P n we X L (B.set i (aj.dy D (.deferred none))) F r1 v1)
 (hp:dJ (B.set i (aj.dy D (.deferred none))) is=some (B1 z)) (ha':hG is=true) (hj:dJ F js=some (F1 z)) (e:v1=V z) :
 lZ none (coll D) P n we X (bodyPostM Fence.wide 9 P fn fun en w' => ∃z,en = .returned (V z)/\Wd we X (B1 z) (F1 z) w') k L B F :=
 I.ret h fun a w ha hw=>by
  have hw':=hw.OJ (.deferred none) hB
  have hds:(oH a (coll D)).defers=coll D:=by unfold oH;rw [ha.defers];rfl
  show LeavesInM Fence.wide 9 P fn a.tmps _ (oH a (coll D)).defers .returning w
  rw [hds]
  show FrameMode.returning ≠ .run/\_
  refine And.intro (fun hh=>by grind) (Or.inl ⟨D,_,rfl,run_takeDeferred (hw.IW hB),v1,?_,z,by rw [e],hw'.Mn is js hp hj ha'⟩)
  have e1:=h1 a _ ha hw'
  rw [lO,hr,show (#[r1]:Array ResultVar)=[r1].toArray from rfl]
  simp_all
end
end
end
section
open Go Go.RowKit
section
variable {α:Type} [Enc α] {w:World} {v:Value} {l:List α}
theorem Sl.G8 (h:Sl w v l){i j q:Nat}(hij:i<=j)(hj:j<=q)(hq:q<=l.length):Sl w (YtnmpibjlnninjaaGreatDoor.G8 v i j q (Enc.k α)) ((l.drop i).take (j-i)):=by
 obtain ⟨A,c,rfl,h1,h2,h3⟩:=h
 have hl:((l.drop i).take (j-i)).length=j-i:=aB
 refine ⟨if q=i then A else A.map (·.add (i*Enc.k α)),q-i,by simp only [YtnmpibjlnninjaaGreatDoor.G8,hl],ae,ae,fun m x hx=>?_⟩
 have hm:m<j-i:=by
  grind
 rw [List.getElem?_take_of_lt hm,List.getElem?_drop] at hx
 obtain ⟨b,off,rfl,hb,hc⟩:=h3 (i+m) x hx
 rw [if_neg ae]
 refine ⟨b,off+i*Enc.k α,by simp [Addr.add],hb,fun n u hu=>?_⟩
 grind
end
section
variable {P:Program} {n:Nat} {we:World} {X:List Nat} {L:Fm} {B F:List aj} {x:Operand} {xT yT ty e:TypeId} {d:Nat} {pos:String} {eC:Array Edge} {g:Option (Nat×Bool)}
theorem s.s2b {s:ByteArray}(hx:ev L x=some (.string s))(h1:P.underlying xT=some .string)(h2:P.underlying yT=some (.slice e))(h3:P.underlying e=some (.int .u8))(hlen:s.size<=1000000)(hd:Nat.blt d n=true) :
 Stp P n we X L B F ⟨some d,.convert xT yT x,ty,pos,eC,g⟩ (fun z:Value=>(d,z)::L) (fun _=>B) (fun z=>aj.ls z (s.data.toList:List UInt8)::F):=by
 intro K Q' a w ha hw hK
 have h:=Lib.run_convert_string_bytes (P:=P) w xT yT e s h1 h2 h3
 unfold Oper.wp
 have hrun:(execOp a.eval ⟨some d,.convert xT yT x,ty,pos,eC,g⟩).run P w = .ok (.value (.slice (some ⟨w.heap.size,0,none⟩) s.size (grownCap w s.size 0 e))) (Lib.bytesWorld w e s):=by
  simp [execOp,ha.ev hx,h]
 rw [hrun,Oper.upon_value]
 have hsz:=Lib.bytesWorld_size w e s
 have hl:s.data.toList.length=s.size:=ck
 have hup:mH [] w (Lib.bytesWorld w e s):=⟨rfl,rfl,rfl,ae,fun k hk _=>Lib.bytesWorld_at_old w e s k hk⟩
 have hw2:=hw.grow hup
 refine hK _ _ _ (ha.put d _ hd) (hw2.fact (r:=aj.ls _ (s.data.toList:List UInt8)) ?_ fun k hk=>?_)
 .
  refine ⟨some ⟨w.heap.size,0,none⟩,grownCap w s.size 0 e,ck,by grind [grownCap_ge],grownCap_le_maxLen w s.size 0 e (by grind [maxLen]),fun i b hb=>?_⟩
  have hi:i<s.size:=aB
  refine ⟨w.heap.size,0,rfl,ae,fun j u hu=>?_⟩
  have hu' : [Value.int .u8 (b.toNat:Int)][j]? = some u:=hu
  simp_all [Enc.k,List.getElem?_eq_some_iff,Lib.bytesWorld_cell,List.getD_eq_getElem?_getD]
 have hkk:k=w.heap.size:=by
  grind [aj.ls,fk]
 subst hkk
 exact ⟨ae,fun hb=>by have:=(hw.own _ hb).1;omega⟩
theorem p8 (m:Int):(cD m).cells=[cD m].toArray:=by unfold cD;split <;> rfl
theorem uW (m:Int):([cD m].all fun x=>x.oneCell')=true:=by unfold cD;split <;> rfl
theorem Fr.yield {a:Act}{ps:Array Tmp}{t:Tmp}{xv:Value}{T:Array Value}(ha:Fr n L a)(hT:T=a.tmps)(hp:ps = #[t])(hd:Nat.blt t n=true) :
 Fr n ((t,xv)::L) { tmps:=(ps.zip #[xv]).foldl (fun tmps (t,a)=>tmps.setIfInBounds t a) T,defers:=[] }:=by
 have h:=ha.put t xv hd
 have e:a.put (some t) xv = { tmps:=(ps.zip #[xv]).foldl (fun tmps (t,a)=>tmps.setIfInBounds t a) T,defers:=[] }:=by
  subst hp;subst hT
  have:=ha.defers
  simp_all [Act.put]
 grind
end
end
end Go.Proofs.YtnmpibjlnninjaaGreatDoor
