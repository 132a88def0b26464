import Derived.Test.YtnmpibjlnninjaaGreatDoorCT15
import Derived.RangeFuncNested
import Derived.RangeFuncCalls
import Derived.RangeFuncLeaves
import Derived.OrdersIn
import Derived.TacticsIn
import Derived.Lib.ConvBytes
namespace Go.Proofs.YtnmpibjlnninjaaGreatDoor
set_option linter.unusedVariables false
set_option linter.unusedSimpArgs false
set_option maxRecDepth 100000
set_option maxHeartbeats 90000000
section
open Go Go.RowKit
theorem j0 {d:cq}{i:Int}{x:ByteArray}(hd:d.Down=false)(hf:d.Fuse = -1)(h0:0<=i)(h1:i<(d.Now.length:Int))(h2:x.size<=48) :
 aU d i x=(⟨d.Kept,d.Now.set i.toNat (full x),d.Wait++[⟨i,full x⟩],-1,false⟩,0):=by
 grind [ju,qF]
def kO (p n:Int):List Change->List Turn
  | []=>[]
  | c::l=>⟨p,full (eK 111 n (lI c).1)⟩::kO (p+1) (n+1) l
theorem uP:∀ (l:List Change) (p n:Int),(kO p n l).length=l.length
 | [],_,_=>rfl
 | c::l,p,n=>by simp [kO,uP l]
theorem Ds (lg:Lg):∀ (c:List Change) (d:cq) (i q:Nat),d.Down=false->d.Fuse = -1->lg.From+lg.Next+(i:Int)=(q:Int)->q+c.length<=d.Now.length->(∀x∈c,iT x=0) ->
 lZ lg d c i=(⟨d.Kept,d.Now.take q++fy (lg.First+lg.Next+(i:Int)) c++d.Now.drop (q+c.length),d.Wait++kO (q:Int) (lg.First+lg.Next+(i:Int)) c,-1,false⟩,0)
 | [],d,i,q,hd,hf,hq,hl,hc=>by
  unfold lZ;obtain ⟨a,b,e,f,g⟩:=d;simp_all [fy,kO]
 | x::r,d,i,q,hd,hf,hq,hl,hc=>by
  have hx:=EH (hc x (List.mem_cons_self ..))
  rw [List.length_cons] at hl
  have hw:=j0 (d:=d) (i:=lg.From+lg.Next+(i:Int)) (x:=eK 111 (lg.First+lg.Next+(i:Int)) (lI x).1) hd hf ae ae (by grind [pQ])
  have WI:(lg.From+lg.Next+(i:Int)).toNat=q:=ae
  rw [WI,hq] at hw
  unfold lZ
  rw [hq,hw,if_pos rfl,Ds lg r _ (i+1) (q+1) rfl rfl ae az (fun y hy=>hc y (List.mem_cons_of_mem _ hy))]
  have e1:(d.Now.set q (full (eK 111 (lg.First+lg.Next+(i:Int)) (lI x).1))).take (q+1)=d.Now.take q++[full (eK 111 (lg.First+lg.Next+(i:Int)) (lI x).1)]:=by
   rw [List.take_add_one,List.take_set_of_le (Nat.le_refl _),List.getElem?_set_self ae];rfl
  have e2:(d.Now.set q (full (eK 111 (lg.First+lg.Next+(i:Int)) (lI x).1))).drop (q+1+r.length)=d.Now.drop (q+(r.length+1)):=by
   grind [List.drop_set_of_lt]
  grind [fy,kO,List.length_cons,List.append_assoc,List.singleton_append]
def kj (n:Int)(c:List Change):List ByteArray:=fy n c++[full (eK 99 (n+(c.length:Int)) (cB (c.length:Int)))]
theorem xm (n:Int)(c:List Change):(kj n c).length=c.length+1:=by simp [kj,iN]
structure WJ (n m:Nat)(lg:Lg)(d:cq):Prop where
  ok:gw n m d
  f0:0<=lg.From
  m0:0<=lg.Many
  fm:lg.From+lg.Many<=(n:Int)
  x0:0<=lg.Next
section
variable {n m:Nat} {lg:Lg} {d:cq} {c:List Change}
theorem nJ (h:mJ lg c=0):c.length<=62/\(c.length:Int)+1<=lg.Many-lg.Next /\ ∀x∈c,iT x=0:=by
 grind [mJ,tj]
theorem Mf (h:WJ n m lg d)(hd:d.Down=false)(hf:d.Fuse = -1)(ha:mJ lg c=0) :
 ∃ (A B:List ByteArray) (b0:ByteArray) (T:List Turn),A=d.Now.take (lg.From+lg.Next).toNat/\d.Now.drop ((lg.From+lg.Next).toNat+c.length)=b0::B /\
  T=kO (lg.From+lg.Next) (lg.First+lg.Next) c++(if lg.Next+(c.length:Int)+1<lg.Many then [⟨lg.From+(lg.Next+(c.length:Int)+1),full ⟨#[]⟩⟩] else []) /\
  eC lg d c=(⟨d.Kept,A++fy (lg.First+lg.Next) c++b0::(if lg.Next+(c.length:Int)+1<lg.Many then B.set 0 (full ⟨#[]⟩) else B),d.Wait++T,-1,false⟩,0):=by
 obtain ⟨a1,a2,a3⟩:=nJ ha
 have h1:=h.f0;have h2:=h.m0;have h3:=h.fm;have h4:=h.x0;have h5:=h.ok.nl
 obtain ⟨q,hq⟩:∃q:Nat,lg.From+lg.Next=(q:Int):=⟨(lg.From+lg.Next).toNat,ae⟩
 have WI:(lg.From+lg.Next).toNat=q:=ae
 have hl:=Ds lg c d 0 q hd hf ae ae a3
 rw [show lg.First+lg.Next+((0:Nat):Int)=lg.First+lg.Next by omega] at hl
 have hdl:(d.Now.drop (q+c.length)).length=d.Now.length-(q+c.length):=List.length_drop
 obtain ⟨b0,B,hB⟩:∃b0 B,d.Now.drop (q+c.length)=b0::B:=by
  cases hh:d.Now.drop (q+c.length) with
  | nil=>grind
  | cons b0 B=>grind
 refine ⟨_,B,b0,_,rfl,az,rfl,?_⟩
 rw [WI]
 have hA:(d.Now.take q++fy (lg.First+lg.Next) c).length=q+c.length:=by grind [List.length_append,List.length_take,iN]
 rw [hB] at hl
 unfold eC
 rw [hl,if_pos rfl,hq]
 by_cases hr:lg.Next+(c.length:Int)+1<lg.Many
 .
  rw [if_pos hr,if_pos hr,if_pos hr]
  have hn:(d.Now.take q++fy (lg.First+lg.Next) c++b0::B).length=d.Now.length:=by
   grind
  rw [j0 rfl rfl ae az aC]
  dsimp only
  have e:(lg.From+(lg.Next+(c.length:Int)+1)).toNat=q+c.length+1:=ae
  rw [e,List.set_append_right _ _ ae,hA,show q+c.length+1-(q+c.length)=0+1 by omega,List.set_cons_succ]
  grind
 grind
theorem Dt (h:WJ n m lg d)(hd:d.Down=false)(hf:d.Fuse = -1)(ha:mJ lg c=0) :
 ∃ (r:List ByteArray) (e:cq),cQ lg d c=(⟨lg.From,lg.Many,lg.First,lg.Next+(c.length:Int)+1⟩,e,0)/\e.Down=false/\e.Fuse = -1/\e.Kept=e.Now/\e.Wait=[] /\
  e.Now=d.Now.take (lg.From+lg.Next).toNat++kj (lg.First+lg.Next) c++r/\(lg.Next+(c.length:Int)+1<lg.Many -> ∃r',r=full ⟨#[]⟩::r')/\(∀s∈r,s=full ⟨#[]⟩∨s∈d.Now.drop (lg.From+lg.Next).toNat):=by
 obtain ⟨a1,a2,a3⟩:=nJ ha
 have h1:=h.f0;have h2:=h.m0;have h3:=h.fm;have h4:=h.x0;have h5:=h.ok.nl
 obtain ⟨A,B,b0,T,hA,hB,hT,hL⟩:=Mf h hd hf ha
 have hAl:A.length=(lg.From+lg.Next).toNat:=az
 have hdl:(b0::B).length=d.Now.length-((lg.From+lg.Next).toNat+c.length):=az
 rw [List.length_cons] at hdl
 generalize hC:(if lg.Next+(c.length:Int)+1<lg.Many then B.set 0 (full ⟨#[]⟩) else B)=C at hL
 have hCl:C.length=B.length:=az
 have hAO:(A++fy (lg.First+lg.Next) c).length=(lg.From+lg.Next).toNat+c.length:=by grind [List.length_append,iN]
 have hb:uN lg d c=(⟨A++fy (lg.First+lg.Next) c++b0::C,A++fy (lg.First+lg.Next) c++b0::C,[],-1,false⟩,0):=by
  unfold uN;grind [mG]
 have hc:vX lg d c=(⟨A++fy (lg.First+lg.Next) c++b0::C,A++kj (lg.First+lg.Next) c++C,[⟨lg.From+(lg.Next+(c.length:Int)),full (eK 99 (lg.First+(lg.Next+(c.length:Int))) (cB (c.length:Int)))⟩],-1,false⟩,0):=by
  unfold vX
  rw [hb,j0 rfl rfl ae az (by grind [pQ,kG])]
  dsimp only
  have e:(lg.From+(lg.Next+(c.length:Int))).toNat=(lg.From+lg.Next).toNat+c.length:=ae
  rw [e,List.set_append_right _ _ ae,hAO,Nat.sub_self,List.set_cons_zero]
  grind [kj,List.append_assoc,List.singleton_append]
 have hD:yw lg d c=(⟨A++kj (lg.First+lg.Next) c++C,A++kj (lg.First+lg.Next) c++C,[],-1,false⟩,0):=by
  unfold yw;grind [mG]
 refine ⟨C,_,I4 ha (by rw [hL]) (by rw [hb]) (by rw [hc]) (by rw [hD]),by rw [hD],by rw [hD],by rw [hD],by rw [hD],az,fun hr=>?_,fun s hs=>?_⟩
 .
  rw [if_pos hr] at hC
  cases B with
  | nil=>grind
  | cons b1 B=>grind
 have hsB:∀s∈B,s∈d.Now.drop (lg.From+lg.Next).toNat:=fun s hs=>by
  have:s∈d.Now.drop ((lg.From+lg.Next).toNat+c.length):=az
  rw [<- List.drop_drop] at this
  grind
 grind
theorem pZ {d:cq}{f k:Nat}(hd:d.Down=false)(hl:f+k<=d.Now.length):sA d (f:Int) k=(d.Now.drop f).take k:=by
 refine List.ext_getElem? fun j=>?_
 by_cases hj:j<k
 .
  rw [tg hj,List.getElem?_take_of_lt hj,List.getElem?_drop]
  obtain ⟨x,hx⟩:∃x,d.Now[f+j]? = some x:=⟨_,List.getElem?_eq_getElem ae⟩
  rw [show (f:Int)+(j:Int)=((f+j:Nat):Int) by omega,Au hd hx,hx]
 grind [List.getElem?_eq_none,sB,List.length_take]
theorem Pv {W:List (List Change)}{u:Nat}(h:WJ n m lg d)(hd:d.Down=false)(hf:d.Fuse = -1)(ha:mJ lg c=0)(hx:lg.Next=(u:Int))(hs:scan (sA d lg.From lg.Many.toNat) lg.First=(W,u)) :
 scan (sA (cQ lg d c).2.1 lg.From lg.Many.toNat) lg.First=(W++[c],u+c.length+1):=by
 obtain ⟨a1,a2,a3⟩:=nJ ha
 have h1:=h.f0;have h2:=h.m0;have h3:=h.fm;have h5:=h.ok.nl
 obtain ⟨r,e,he,e1,e2,e3,e4,e5,e6,e7⟩:=Dt h hd hf ha
 obtain ⟨f,hF⟩:∃f:Nat,lg.From=(f:Int):=⟨lg.From.toNat,ae⟩
 obtain ⟨k,hK⟩:∃k:Nat,lg.Many=(k:Int):=⟨lg.Many.toNat,ae⟩
 have hq:(lg.From+lg.Next).toNat=f+u:=ae
 rw [hq] at e5
 have hkt:lg.Many.toNat=k:=ae
 have htl:(d.Now.take (f+u)).length=f+u:=az
 have hok:=yU (lg:=lg) (c:=c) h.ok
 rw [he] at hok
 have hel:e.Now.length=n:=hok.nl
 have hrl:f+u+(c.length+1)+r.length=n:=by
  grind [List.length_append,xm]
 rw [he]
 dsimp only
 rw [hkt,hF] at hs ⊢
 rw [pZ hd ae] at hs
 rw [pZ e1 ae]
 have hd1:e.Now.drop f=(d.Now.drop f).take u++(kj (lg.First+lg.Next) c++r):=by
  grind [List.append_assoc,List.drop_take]
 have hul:((d.Now.drop f).take u).length=u:=az
 have Pw:(e.Now.drop f).take k=(d.Now.drop f).take u++(kj (lg.First+lg.Next) c++r.take (k-u-(c.length+1))):=by
  rw [hd1,List.take_append,hul,List.take_of_length_le (l:=(d.Now.drop f).take u) ae,List.take_append,xm,List.take_of_length_le (l:=kj (lg.First+lg.Next) c) az]
 have hcut:=Aw (l:=(d.Now.drop f).take k) (l':=(e.Now.drop f).take k) (first:=lg.First) (by
  grind)
 rw [hcut,hs,Pw]
 dsimp only
 rw [List.drop_append_of_le_length ae,List.drop_of_length_le ae,List.nil_append,hx]
 unfold kj
 rw [List.append_assoc,List.singleton_append]
 refine Ky a3 ?_
 by_cases hb:lg.Next+(c.length:Int)+1<lg.Many
 .
  obtain ⟨r',hr'⟩:=e6 hb
  right
  obtain ⟨j,hj⟩:∃j,k-u-(c.length+1)=j+1:=⟨k-u-(c.length+1)-1,ae⟩
  grind [qG]
 grind
theorem Mg (ha:¬ mJ lg c=0):cQ lg d c=(lg,d,mJ lg c):=by simp_all [cQ,if_pos]
theorem Mh {l:List ByteArray}{first:Int}{W:List (List Change)}{u:Nat}(h:scan l first=(W,u)):u<=l.length:=by
 grind [Kw]
theorem Sr {gS many first:Int}{u:Nat}{W:List (List Change)}(hO:gw n m d)(hd:d.Down=false)(hf:d.Fuse = -1)(hg:lg=⟨gS,many,first,(u:Int)⟩)(b1:0<=gS)(b2:1<=many)(b3:gS+many<=(n:Int))(hs:scan (sA d gS many.toNat) first=(W,u)) :
 (cQ lg d c).2.2=mJ lg c/\(cQ lg d c).2.1.Down=false/\(cQ lg d c).2.1.Fuse = -1 /\
 (mJ lg c=0->(cQ lg d c).1=⟨gS,many,first,((u+c.length+1:Nat):Int)⟩/\scan (sA (cQ lg d c).2.1 gS many.toNat) first=(W++[c],u+c.length+1)/\u+c.length+1<=many.toNat) /\
 (¬ mJ lg c=0->(cQ lg d c).1=lg/\(cQ lg d c).2.1=d):=by
 have hL:WJ n m lg d:=by rw [hg];exact ⟨hO,b1,az,b3,az⟩
 have e1:lg.From=gS:=by rw [hg]
 have e2:lg.Many=many:=by rw [hg]
 have e3:lg.First=first:=by rw [hg]
 have e4:lg.Next=(u:Int):=by rw [hg]
 by_cases ha:mJ lg c=0
 .
  obtain ⟨a1,a2,a3⟩:=nJ ha
  grind [Pv,Dt]
 grind [Mg]
theorem Bh:∀ (l:List ByteArray) (n:Int) (out:List (List Change)) (deed:List Change) (used pos:Nat),(jv l n out deed used pos).1.length<=out.length+l.length
 | [],n,out,deed,used,pos=>by unfold jv;simp
 | s::r,n,out,deed,used,pos=>by
  unfold jv
  split
  .
   have:=Bh r (n+1) (out++[deed]) [] (pos+1) (pos+1)
   simp only [List.length_append,List.length_cons,List.length_nil] at this ⊢;omega
  split
  .
   have:=Bh r (n+1) out (deed++[(uJ (su s)).1]) used (pos+1)
   rw [List.length_cons];omega
  dsimp only;omega
end
end
section
open Go Go.RowKit
section
variable {n m:Nat} {lg:Lg} {d:cq} {c:List Change}
theorem xn {a:cq}:¬ ((a,(10:Int)):cq×Int).2=0:=ae
theorem Du (hd:d.Down=false)(hf : -1<=d.Fuse):(∃g,-1<=g/\bN d=(⟨d.Kept,d.Now,d.Wait,g,false⟩,0))∨bN d=(⟨d.Kept,d.Now,d.Wait,-1,true⟩,10):=by
 grind [uM,vU]
theorem qO {i:Int}{x:ByteArray}(hd:d.Down=false)(hf : -1<=d.Fuse)(h0:0<=i)(h1:i<(d.Now.length:Int))(h2:x.size<=48) :
 (∃g,-1<=g/\aU d i x=(⟨d.Kept,d.Now.set i.toNat (full x),d.Wait++[⟨i,full x⟩],g,false⟩,0))∨aU d i x=(⟨d.Kept,d.Now,d.Wait,-1,true⟩,10):=by
 rcases Du hd hf with ⟨g,hg,h⟩ | h
 .grind [ju]
 right;rw [Aq h0 h1 h2 az,h]
theorem uQ (hd:d.Down=false)(hf : -1<=d.Fuse):(∃g,-1<=g/\aQ d=(⟨d.Now,d.Now,[],g,false⟩,0))∨aQ d=(⟨d.Kept,d.Now,d.Wait,-1,true⟩,10):=by
 unfold aQ
 rcases Du hd hf with ⟨g,hg,h⟩ | h
 .grind
 grind
theorem Hf (lg:Lg):∀ (c:List Change) (d:cq) (i q:Nat),d.Down=false -> -1<=d.Fuse->lg.From+lg.Next+(i:Int)=(q:Int)->q+c.length<=d.Now.length->(∀x∈c,iT x=0) ->
 (∃g,-1<=g/\lZ lg d c i=(⟨d.Kept,d.Now.take q++fy (lg.First+lg.Next+(i:Int)) c++d.Now.drop (q+c.length),d.Wait++kO (q:Int) (lg.First+lg.Next+(i:Int)) c,g,false⟩,0)) ∨
 (∃e,lZ lg d c i=(e,10)/\e.Down=true/\e.Kept=d.Kept /\ ∃j,e.Wait=d.Wait++(kO (q:Int) (lg.First+lg.Next+(i:Int)) c).take j)
 | [],d,i,q,hd,hf,hq,hl,hc=>by
  left;refine ⟨d.Fuse,hf,?_⟩
  unfold lZ;obtain ⟨a,b,e,f,g⟩:=d;simp_all [fy,kO]
 | x::r,d,i,q,hd,hf,hq,hl,hc=>by
  have hx:=EH (hc x (List.mem_cons_self ..))
  rw [List.length_cons] at hl
  have hw:=qO (d:=d) (i:=lg.From+lg.Next+(i:Int)) (x:=eK 111 (lg.First+lg.Next+(i:Int)) (lI x).1) hd hf ae ae (by grind [pQ])
  have WI:(lg.From+lg.Next+(i:Int)).toNat=q:=ae
  rw [WI,hq] at hw
  unfold lZ
  rw [hq]
  rcases hw with ⟨g,hg,hw⟩ | hw
  .
   rw [hw,if_pos rfl]
   have e3:lg.First+lg.Next+((i+1:Nat):Int)=lg.First+lg.Next+(i:Int)+1:=ae
   have e4:((q+1:Nat):Int)=(q:Int)+1:=ae
   rcases Hf lg r ⟨d.Kept,d.Now.set q (full (eK 111 (lg.First+lg.Next+(i:Int)) (lI x).1)),d.Wait++[⟨(q:Int),full (eK 111 (lg.First+lg.Next+(i:Int)) (lI x).1)⟩],g,false⟩ (i+1) (q+1) rfl hg ae az (fun y hy=>hc y (List.mem_cons_of_mem _ hy)) with ⟨g',hg',h⟩ | ⟨e,he,h1,h2,j,h3⟩
   .
    left;refine ⟨g',hg',?_⟩
    rw [h]
    have e1:(d.Now.set q (full (eK 111 (lg.First+lg.Next+(i:Int)) (lI x).1))).take (q+1)=d.Now.take q++[full (eK 111 (lg.First+lg.Next+(i:Int)) (lI x).1)]:=by
     rw [List.take_add_one,List.take_set_of_le (Nat.le_refl _),List.getElem?_set_self ae];rfl
    have e2:(d.Now.set q (full (eK 111 (lg.First+lg.Next+(i:Int)) (lI x).1))).drop (q+1+r.length)=d.Now.drop (q+(r.length+1)):=by
     grind [List.drop_set_of_lt]
    grind [fy,kO,List.length_cons,List.append_assoc,List.singleton_append]
   right;refine ⟨e,he,h1,h2,j+1,?_⟩
   grind [kO,List.append_assoc,List.singleton_append]
  simp_all
def uR (lg:Lg)(c:List Change):List Turn:=kO (lg.From+lg.Next) (lg.First+lg.Next) c++(if lg.Next+(c.length:Int)+1<lg.Many then [⟨lg.From+(lg.Next+(c.length:Int)+1),full ⟨#[]⟩⟩] else [])
theorem Px (h:WJ n m lg d)(hd:d.Down=false)(hf : -1<=d.Fuse)(ha:mJ lg c=0) :
 ∃ (B:List ByteArray) (b0:ByteArray),d.Now.drop ((lg.From+lg.Next).toNat+c.length)=b0::B /\
  ((∃g,-1<=g/\eC lg d c=(⟨d.Kept,d.Now.take (lg.From+lg.Next).toNat++fy (lg.First+lg.Next) c++b0::(if lg.Next+(c.length:Int)+1<lg.Many then B.set 0 (full ⟨#[]⟩) else B),d.Wait++uR lg c,g,false⟩,0)) ∨
   (∃e,eC lg d c=(e,10)/\e.Down=true/\e.Kept=d.Kept /\ ∃j,e.Wait=d.Wait++(uR lg c).take j)):=by
 obtain ⟨a1,a2,a3⟩:=nJ ha
 have h1:=h.f0;have h2:=h.m0;have h3:=h.fm;have h4:=h.x0;have h5:=h.ok.nl
 obtain ⟨q,hq⟩:∃q:Nat,lg.From+lg.Next=(q:Int):=⟨(lg.From+lg.Next).toNat,ae⟩
 have hle:q+c.length<=d.Now.length:=ae
 have WI:(lg.From+lg.Next).toNat=q:=ae
 have hl:=Hf lg c d 0 q hd hf ae ae a3
 rw [show lg.First+lg.Next+((0:Nat):Int)=lg.First+lg.Next by omega] at hl
 have hdl:(d.Now.drop (q+c.length)).length=d.Now.length-(q+c.length):=List.length_drop
 obtain ⟨b0,B,hB⟩:∃b0 B,d.Now.drop (q+c.length)=b0::B:=by
  cases hh:d.Now.drop (q+c.length) with
  | nil=>grind
  | cons b0 B=>grind
 refine ⟨B,b0,az,?_⟩
 rw [WI]
 have hA:(d.Now.take q++fy (lg.First+lg.Next) c).length=q+c.length:=by grind [List.length_append,List.length_take,iN]
 rw [hB] at hl
 have hn:(d.Now.take q++fy (lg.First+lg.Next) c++b0::B).length=d.Now.length:=by
  grind
 unfold eC uR
 rw [hq]
 rcases hl with ⟨g,hg,hl⟩ | ⟨e,he,e1,e2,j,e3⟩
 .
  rw [hl,if_pos rfl]
  by_cases hr:lg.Next+(c.length:Int)+1<lg.Many
  .
   rw [if_pos hr,if_pos hr,if_pos hr]
   rcases qO (d:=⟨d.Kept,d.Now.take q++fy (lg.First+lg.Next) c++b0::B,d.Wait++kO (q:Int) (lg.First+lg.Next) c,g,false⟩) (i:=lg.From+(lg.Next+(c.length:Int)+1)) (x:=⟨#[]⟩) rfl hg ae az aC with ⟨g',hg',hw⟩ | hw
   .
    left;refine ⟨g',hg',?_⟩
    rw [hw]
    dsimp only
    have e:(lg.From+(lg.Next+(c.length:Int)+1)).toNat=q+c.length+1:=by
     omega
    rw [e,List.set_append_right _ _ ae,hA,show q+c.length+1-(q+c.length)=0+1 by omega,List.set_cons_succ]
    grind
   right
   rw [hw]
   exact ⟨_,rfl,rfl,rfl,c.length,by grind [uP,List.take_of_length_le]⟩
  grind
 right
 rw [he,if_neg xn]
 refine ⟨e,rfl,e1,e2,min j c.length,?_⟩
 grind [uP,Nat.min_le_right,Nat.min_eq_left,Nat.min_eq_right,List.take_of_length_le]
structure TL (n:Nat)(lg:Lg)(d:cq)(W:List (List Change))(u:Nat):Prop where
  ok:WJ n 0 lg d
  down:d.Down=false
  fuse : -1<=d.Fuse
  kn:d.Kept=d.Now
  wait:d.Wait=[]
  nx:lg.Next=(u:Int)
  sc:scan ((d.Now.drop lg.From.toNat).take lg.Many.toNat) lg.First=(W,u)
  tail:∀s∈d.Now.drop (lg.From.toNat+u),¬ bC s 0=99
theorem Ss (d:cq)(f:Int)(k:Nat)(first:Int):fT d f k first<=k:=by
 have:=Kw (sA d f k) first
 rw [sB] at this;exact this
theorem Sv {d:cq}{f:Int}{k:Nat}{first:Int}:(mI d f k first).length<=k:=by
 grind [sA,mI,scan,Bh,sB]
theorem Sw {l:List lr}{d:cq}{f:Int}{k:Nat}{first:Int}(h:l.map lr.L=mI d f k first):l.length<=k:=by
 grind [Sv,List.length_map]
end
end
section
open Go Go.RowKit
attribute [local irreducible] Run Rg Rq Qt Qa Stp Dg Do Dm bQ
theorem Mi (bB:Nat)(aE:Value)(Py:Nat)(Pz:Nat)(st:fu)(w:World)(Zv:(ag.box bB [pV Py,iV st.Epoch,iV st.Side,iV st.Size,iV st.First,pV Pz,aE] 132).ok w)(Jn:Sl w aE (st.Rows:List Change))(hl:st.Rows.length<=100000):Calls Tryz.prog 31 #[pV bB] w fun e w' => ∃u,e = .returned u/\Own w.heap.size 115 w' u st.Rows/\Ext w w':=by
 refine R.enter [] [(0,pV bB)] Tryz.func31 O O O O<|R.uz Jn<|R.pH (r:=ag.box bB [pV Py,iV st.Epoch,iV st.Side,iV st.Size,iV st.First,pV Pz,aE] 132) Zv (kz Zv)<|U ?_
 refine R.q (q.BS 0 O O KH O) O<|R.s O (s.aH [] [1] _ _ _ O O O Uk O O (fun w own hw H=>ry aE st.Rows w own H ae) O) fun z1=>U ?_
 exact R.ro 0 O Tryz.results31 O O eH
def m7 (d:cq):Nat->BW
  | 0=>⟨0,0,0,0⟩
  | k+1=>pY (m7 d k) (dJ (cW d (k:Int)).1)
theorem Hg (d:cq):∀k,0<=(m7 d k).Epoch/\(m7 d k).Epoch<4294967296/\0<=(m7 d k).Side/\(m7 d k).Side<=1/\0<=(m7 d k).Size/\(m7 d k).Size<=2400/\0<=(m7 d k).First/\(m7 d k).First<4294967296/\(¬ (m7 d k).Epoch=0->1<=(m7 d k).First)
 | 0=>by simp [m7]
 | k+1=>by
  unfold m7 pY;split
  .exact A8 _
  exact Hg d k
theorem Zw {d:cq}(h:jE d=0):¬ d.Now.length<166/\¬ (headD d).Epoch=0/\(fH (ug d)).2=true:=by
 unfold jE at h
 split at h
 .cases h
 split at h
 .cases h
 split at h
 .exact ⟨af,af,af⟩
 cases h
theorem Hh:∀ (k:Nat) (t:ByteArray) (l:List Change),(rF k t l).1.length<=l.length+t.size
 | 0,t,l=>by rw [rF];show l.length<=_;omega
 | k+1,t,l=>by
  rw [rF]
  split
  .dsimp only;omega
  split
  .simp
  rename_i h1 h2
  split
  .
   have:=Hh k (t.extract (sH t) t.size) (bX l [A9 t])
   have ha:=lX [A9 t] l
   rw [List.length_singleton] at ha
   rw [ByteArray.size_extract] at this
   have:3<=sH t:=by unfold sH;omega
   omega
  simp
theorem Jo (t:ByteArray):(fH t).1.length<=t.size:=by
 have:=Hh (t.size+1) t []
 simpa [fH] using this
theorem Bi {M:Nat}:∀ (l:List ByteArray) (n:Int) (out:List (List Change)) (deed:List Change) (used pos:Nat),(∀c∈out,c.length<=M)->deed.length+l.length<=M -> ∀c∈(jv l n out deed used pos).1,c.length<=M
 | [],n,out,deed,used,pos,h,hd=>h
 | s::r,n,out,deed,used,pos,h,hd=>by
  rw [List.length_cons] at hd
  rw [jv]
  split
  .
   refine Bi r _ _ _ _ _ (fun c hc=>?_) aG
   rcases List.mem_append.1 hc with hc|hc
   .exact h c hc
   rw [List.mem_singleton.1 hc];omega
  split
  .exact Bi r _ _ _ _ _ h aG
  exact h
theorem Jp {d:cq}{f:Int}{k:Nat}{first:Int}:∀c∈mI d f k first,c.length<=k:=by
 unfold mI scan
 exact Bi _ _ _ _ _ _ bA (by rw [sB];simp)
theorem Bj {M:Nat}:∀ (W:List (List Change)) (rows:List Change),(∀c∈W,c.length<=M)->(lC rows W).length<=rows.length+M*W.length
 | [],rows,h=>by simp [lC]
 | c::W,rows,h=>by
  have h1:=Bj W (bX rows c) (fun x hx=>h x (List.mem_cons_of_mem _ hx))
  have h2:=lX c rows
  have h3:=h c (List.mem_cons_self ..)
  show (lC (bX rows c) W).length<=_
  rw [List.length_cons,Nat.mul_add,Nat.mul_one]
  omega
attribute [local irreducible] fT mI fH
theorem Dv (aF:Nat)(au av ao:Value)(dk:cq)(w:World)(own:List Nat)(H:HN w own [ag.box aF [au,av,ao,iV dk.Fuse,.bool dk.Down] 120,ag.row 9 au dk.Kept,ag.row 9 av dk.Now,ag.row 196 ao dk.Wait] [])(hd:dk.Down=false)(ho:jE dk=0)(hD:gw dk.Now.length 90000 dk/\dk.Now.length<=200):RC Tryz.prog 29 #[pV aF] H (fun z:Value×Value×Value×Nat×Value×Nat => .tuple #[pV z.2.2.2.1,.nilIface]) (fun z=>[ag.box aF [z.1,z.2.1,z.2.2.1,iV dk.Fuse,.bool dk.Down] 120,ag.row 9 z.1 dk.Kept,ag.row 9 z.2.1 dk.Now,ag.row 196 z.2.2.1 dk.Wait,ag.box z.2.2.2.1 [pV aF,iV (bf dk).c.Epoch,iV (bf dk).c.Side,iV (bf dk).c.Size,iV (bf dk).c.First,pV z.2.2.2.2.2,z.2.2.2.2.1] 132,ag.box z.2.2.2.2.2 [pV aF,iV (bf dk).L.From,iV (bf dk).L.Many,iV (bf dk).L.First,iV (bf dk).L.Next] 193]) (fun z=>[ag.ls z.2.2.2.2.1 (bf dk).c.Rows]):=by
 have dD:=H.cap 1 rfl;have dE:=H.ck 1 rfl
 have ew:=H.cap 2 rfl;have ey:=H.ck 2 rfl
 have dF:=H.cap 3 rfl;have dG:=H.ck 3 rfl
 obtain ⟨o1,o2,o3⟩:=Zw ho
 refine R.eN H ?_
 refine R.kc O O (fun w hw=>cv (congrArg Value.bool hd) (Dj aF au av ao dk w (hw.b 0 O) (hw.row 1 O) (hw.row 2 O) (hw.row 3 O)))<|U ?_
 refine R.kc O O (fun w hw=>gZ aF au av ao dk w (hw.b 0 O) (hw.row 1 O) (hw.row 2 O) (hw.row 3 O))<|U ?_
 refine R.nb fun b1=>?_
 refine R.loop (fun g_:Nat×BW=>[(0,pV aF),(4,pV b1),(30,iV (g_.1:Int))]) (fun g_=>[ag.box b1 [pV aF,iV g_.2.Epoch,iV g_.2.Side,iV g_.2.Size,iV g_.2.First,.pointer none,nS] 132,ag.box aF [au,av,ao,iV dk.Fuse,.bool dk.Down] 120,ag.row 9 au dk.Kept,ag.row 9 av dk.Now,ag.row 196 ao dk.Wait,ag.held w own]) (fun g_=>[]) (fun g_=>g_.1<=2/\g_.2=m7 dk g_.1) (fun g_=>2-g_.1) (0,(⟨0,0,0,0⟩:BW)) O (by exact ⟨ae,rfl⟩) ⟨rfl,rfl,rfl,trivial⟩ (fun _=>Wd.pick fw [] O O O) ?_
 rintro ⟨i,hh⟩ ⟨hi,HK⟩
 dsimp only at *
 have hin:=Hg dk i;rw [<- HK] at hin
 refine U ?_
 refine C (i<2) ?_ ?_ <;> intro h1
 .
  have hrd:=AA hD.1 hd (i:=(i:Int)) ae ae;obtain ⟨hrd,hsz⟩:=hrd;have hin2:=A8 (cW dk (i:Int)).1
  refine U ?_
  refine R.kc O O (fun w hw=>xe aF au av ao dk (i:Int) w (hw.b 1 O) (hw.row 2 O) (hw.row 3 O) (hw.row 4 O))<|U ?_
  refine R.s (B':=(fun _u:Unit=>[ag.box b1 [pV aF,iV hh.Epoch,iV hh.Side,iV hh.Size,iV hh.First,.pointer none,nS] 132,ag.box aF [au,av,ao,iV dk.Fuse,.bool dk.Down] 120,ag.row 9 au dk.Kept,ag.row 9 av dk.Now,ag.row 196 ao dk.Wait,ag.held w own])) (F':=(fun _u:Unit=>[])) O (s.aH (B0:=[]) (Br:=[ag.box b1 [pV aF,iV hh.Epoch,iV hh.Side,iV hh.Size,iV hh.First,.pointer none,nS] 132,ag.box aF [au,av,ao,iV dk.Fuse,.bool dk.Down] 120,ag.row 9 au dk.Kept,ag.row 9 av dk.Now,ag.row 196 ao dk.Wait,ag.held w own]) (F0:=[]) fw [] (fun _u:Unit => .agg #[iV (dJ (cW dk (i:Int)).1).Epoch,iV (dJ (cW dk (i:Int)).1).Side,iV (dJ (cW dk (i:Int)).1).Size,iV (dJ (cW dk (i:Int)).1).First]) (fun _u:Unit=>[]) (fun _u:Unit=>[]) O O O Y8 O O (fun w own hw H=>Jl (cW dk (i:Int)).1 w own H ae) O) fun _=>?_
  refine R.nb fun b2=>?_
  refine C (hh.Epoch<(dJ (cW dk (i:Int)).1).Epoch) ?_ ?_ <;> intro h2
  .
   refine R.c6 O mixed ay<|U ?_
   refine R.back (i+1,dJ (cW dk (i:Int)).1) O (by exact ⟨ae,by show _=pY (m7 dk i) (dJ (cW dk (i:Int)).1);rw [<- HK];unfold pY;rw [if_pos af]⟩) aJ ⟨rfl,rfl,rfl,trivial⟩ (XE m5 [] O O O)
  refine R.c6 O mixed ay<|U ?_
  refine R.back (i+1,hh) O (by exact ⟨ae,by show _=pY (m7 dk i) (dJ (cW dk (i:Int)).1);rw [<- HK];unfold pY;rw [if_neg af]⟩) aJ ⟨rfl,rfl,rfl,trivial⟩ (XE m5 [] O O O)
 have hhe:hh=headD dk:=by rw [HK,show i=2 by omega];rfl
 have o2b:¬ hh.Epoch=0:=by rw [hhe];exact o2
 refine U ?_
 refine R.loop (fun g_:Nat×ByteArray=>[(0,pV aF),(4,pV b1),(9,.string g_.2),(64,iV (g_.1:Int))]) (fun g_=>[ag.box b1 [pV aF,iV hh.Epoch,iV hh.Side,iV hh.Size,iV hh.First,.pointer none,nS] 132,ag.box aF [au,av,ao,iV dk.Fuse,.bool dk.Down] 120,ag.row 9 au dk.Kept,ag.row 9 av dk.Now,ag.row 196 ao dk.Wait,ag.held w own]) (fun g_=>[]) (fun g_=>g_.1<=50/\g_.2=cu dk (2+hh.Side*50) g_.1/\g_.2.size=48*g_.1) (fun g_=>50-g_.1) (0,(⟨#[]⟩:ByteArray)) O (by exact ⟨ae,rfl,rfl⟩) ⟨rfl,rfl,rfl,rfl,trivial⟩ (fun _=>Wd.pick fw [] O O O) ?_
 rintro ⟨j,tx⟩ ⟨hj,HT,hts⟩
 dsimp only at *
 refine U ?_
 refine C (j<50) ?_ ?_ <;> intro h3
 .
  have hrd:=AA hD.1 hd (i:=2+hh.Side*50+(j:Int)) ae ae;obtain ⟨hrd,hsz⟩:=hrd
  refine U ?_
  refine R.q (q.mul (r:=hh.Side*50) O O (wr ae)) O<|U ?_
  refine R.kc O O (fun w hw=>xe aF au av ao dk ((2+(hh.Side*50))+(j:Int)) w (hw.b 1 O) (hw.row 2 O) (hw.row 3 O) (hw.row 4 O))<|U ?_
  refine R.q (q.cat O O ae) O<|U ?_
  refine R.back (j+1,(tx++(cW dk ((2+(hh.Side*50))+(j:Int))).1)) O (by exact ⟨ae,by show _=cu dk (2+hh.Side*50) j++_;rw [<- HT],by rw [ByteArray.size_append];omega⟩) aJ ⟨rfl,rfl,rfl,rfl,trivial⟩ (XE fw [] O O O)
 have hth:tx.extract 0 hh.Size.toNat=ug dk:=by rw [HT,hhe,show j=50 by omega];rfl
 have hpb:(fH (tx.extract 0 hh.Size.toNat)).2=true:=by rw [hth];exact o3
 refine U ?_
 refine R.q (q.sTo (i:=hh.Size.toNat) O O Tryz.underlying9 ae ae) O ?_
 refine R.s (B':=(fun kJ:Value=>[ag.row 115 kJ (fH (tx.extract 0 hh.Size.toNat)).1,ag.box b1 [pV aF,iV hh.Epoch,iV hh.Side,iV hh.Size,iV hh.First,.pointer none,nS] 132,ag.box aF [au,av,ao,iV dk.Fuse,.bool dk.Down] 120,ag.row 9 au dk.Kept,ag.row 9 av dk.Now,ag.row 196 ao dk.Wait,ag.held w own])) (F':=(fun kJ:Value=>[])) O (s.aH (B0:=[]) (Br:=[ag.box b1 [pV aF,iV hh.Epoch,iV hh.Side,iV hh.Size,iV hh.First,.pointer none,nS] 132,ag.box aF [au,av,ao,iV dk.Fuse,.bool dk.Down] 120,ag.row 9 au dk.Kept,ag.row 9 av dk.Now,ag.row 196 ao dk.Wait,ag.held w own]) (F0:=[]) fw [] (fun kJ:Value => .tuple #[kJ,.bool (fH (tx.extract 0 hh.Size.toNat)).2]) (fun kJ:Value=>[ag.row 115 kJ (fH (tx.extract 0 hh.Size.toNat)).1]) (fun kJ:Value=>[]) O O O Y9 O O (fun w own hw H=>Me (tx.extract 0 hh.Size.toNat) w own H (by rw [ByteArray.size_extract];omega)) O) fun z1=>U ?_
 refine R.q (q.not O) O<|U ?_
 refine R.cond O O (fun h4=>?_) (fun h4=>?_)
 .exact absurd h4 (by rw [hpb];decide)
 refine R.cO (fuel:=17) [0,1,6] O O mixed O ?_
 refine D.l [0,1,4,5,6,7,8] [0,1,6] [] O<|U ?_
 refine D.one (i:=2) O ?_
 refine Do.s (s.c (q.call Uj O O (fun w hw=>gZ aF au av ao dk w (hw.b 2 O) (hw.row 3 O) (hw.row 4 O) (hw.row 5 O))) O) (fun _=>XE [0,1,6] [] O O O) O fun _=>?_
 refine D.l [3] [0,1,6] [] O ?_
 refine Dm.yy O O (q.sub (r:=((dk.Now.length-102:Nat):Int)) O O (wr ae)) O<|U ?_
 refine D.one (i:=9) O ?_
 refine Do.s (B':=(fun g_:Value×Value×Value×Nat×Value×List lr=>[ag.box aF [g_.1,g_.2.1,g_.2.2.1,iV dk.Fuse,.bool dk.Down] 120,ag.row 9 g_.1 dk.Kept,ag.row 9 g_.2.1 dk.Now,ag.row 196 g_.2.2.1 dk.Wait,ag.box g_.2.2.2.1 [pV aF,iV (⟨102,(((dk.Now.length-102):Nat):Int),hh.First,(fT dk 102 (Int.toNat (((dk.Now.length-102):Nat):Int)) hh.First:Int)⟩:Lg).From,iV (⟨102,(((dk.Now.length-102):Nat):Int),hh.First,(fT dk 102 (Int.toNat (((dk.Now.length-102):Nat):Int)) hh.First:Int)⟩:Lg).Many,iV (⟨102,(((dk.Now.length-102):Nat):Int),hh.First,(fT dk 102 (Int.toNat (((dk.Now.length-102):Nat):Int)) hh.First:Int)⟩:Lg).First,iV (⟨102,(((dk.Now.length-102):Nat):Int),hh.First,(fT dk 102 (Int.toNat (((dk.Now.length-102):Nat):Int)) hh.First:Int)⟩:Lg).Next] 193,ag.row 115 z1 (fH (tx.extract 0 hh.Size.toNat)).1,ag.box b1 [pV aF,iV hh.Epoch,iV hh.Side,iV hh.Size,iV hh.First,.pointer none,nS] 132,ag.held w own])) (F':=(fun g_=>[ag.ls g_.2.2.2.2.1 g_.2.2.2.2.2,ag.rX (g_.2.2.2.2.2:List lr) (mI dk 102 (Int.toNat (((dk.Now.length-102):Nat):Int)) hh.First)])) (s.aH (B0:=[ag.box aF [au,av,ao,iV dk.Fuse,.bool dk.Down] 120,ag.row 9 au dk.Kept,ag.row 9 av dk.Now,ag.row 196 ao dk.Wait]) (Br:=[ag.row 115 z1 (fH (tx.extract 0 hh.Size.toNat)).1,ag.box b1 [pV aF,iV hh.Epoch,iV hh.Side,iV hh.Size,iV hh.First,.pointer none,nS] 132,ag.held w own]) (F0:=[]) [2,3,4,5,0,1,6] [] (fun g_:Value×Value×Value×Nat×Value×List lr => .tuple #[pV g_.2.2.2.1,g_.2.2.2.2.1,.nilIface]) (fun g_=>[ag.box aF [g_.1,g_.2.1,g_.2.2.1,iV dk.Fuse,.bool dk.Down] 120,ag.row 9 g_.1 dk.Kept,ag.row 9 g_.2.1 dk.Now,ag.row 196 g_.2.2.1 dk.Wait,ag.box g_.2.2.2.1 [pV aF,iV (⟨102,(((dk.Now.length-102):Nat):Int),hh.First,(fT dk 102 (Int.toNat (((dk.Now.length-102):Nat):Int)) hh.First:Int)⟩:Lg).From,iV (⟨102,(((dk.Now.length-102):Nat):Int),hh.First,(fT dk 102 (Int.toNat (((dk.Now.length-102):Nat):Int)) hh.First:Int)⟩:Lg).Many,iV (⟨102,(((dk.Now.length-102):Nat):Int),hh.First,(fT dk 102 (Int.toNat (((dk.Now.length-102):Nat):Int)) hh.First:Int)⟩:Lg).First,iV (⟨102,(((dk.Now.length-102):Nat):Int),hh.First,(fT dk 102 (Int.toNat (((dk.Now.length-102):Nat):Int)) hh.First:Int)⟩:Lg).Next] 193]) (fun g_=>[ag.ls g_.2.2.2.2.1 g_.2.2.2.2.2,ag.rX (g_.2.2.2.2.2:List lr) (mI dk 102 (Int.toNat (((dk.Now.length-102):Nat):Int)) hh.First)]) O O O Ui O O (fun w own hw H=>Ha aF au av ao dk 102 (((dk.Now.length-102):Nat):Int) hh.First w own H (by refine ⟨aC,?_,?_,?_,?_⟩ <;> omega) hd (⟨hD.1,ae⟩)) O) (fun _=>XE [5,6,7] [] O O O) O ?_
 rintro ⟨z8,z9,kM,lA,z12,mW⟩
 dsimp only
 refine D.l [10,11,12,13,14,15,16] [5,6,7] [] O<|U ?_
 refine D.done ?_
 refine R.U3 (F':=[ag.nU (mW:List lr),ag.ls z12 mW]) 1 O O fun hE1=>U ?_
 refine R.mp (B':=[ag.box aF [z8,z9,kM,iV dk.Fuse,.bool dk.Down] 120,ag.row 9 z8 dk.Kept,ag.row 9 z9 dk.Now,ag.row 196 kM dk.Wait,ag.box lA [pV aF,iV 102,iV (((dk.Now.length-102):Nat):Int),iV hh.First,iV (fT dk 102 (Int.toNat (((dk.Now.length-102):Nat):Int)) hh.First:Int)] 193,ag.box b1 [pV aF,iV hh.Epoch,iV hh.Side,iV hh.Size,iV hh.First,pV lA,z1] 132,ag.held w own]) (fun _ hw=>hw.aO 5 _ O O) ?_
 refine R.loop (fun g_:Nat×Value×(List Change)=>[(4,pV b1),(127,z12),(128,iV (mW.length:Int)),(129,iV (g_.1:Int))]) (fun g_=>[ag.box aF [z8,z9,kM,iV dk.Fuse,.bool dk.Down] 120,ag.row 9 z8 dk.Kept,ag.row 9 z9 dk.Now,ag.row 196 kM dk.Wait,ag.box lA [pV aF,iV 102,iV (((dk.Now.length-102):Nat):Int),iV hh.First,iV (fT dk 102 (Int.toNat (((dk.Now.length-102):Nat):Int)) hh.First:Int)] 193,ag.box b1 [pV aF,iV hh.Epoch,iV hh.Side,iV hh.Size,iV hh.First,pV lA,g_.2.1] 132,ag.held w own]) (fun g_=>[ag.ls g_.2.1 g_.2.2,ag.ls z1 (fH (tx.extract 0 hh.Size.toNat)).1,ag.nU (mW:List lr),ag.ls z12 mW]) (fun g_=>g_.1<=mW.length/\g_.2.2=lC (fH (ug dk)).1 ((mW.map lr.L).take g_.1)) (fun g_=>mW.length-g_.1) (0,z1,(fH (tx.extract 0 hh.Size.toNat)).1) O (by exact ⟨ae,by rw [hth];rfl⟩) ⟨rfl,rfl,rfl,rfl,trivial⟩ (fun _=>Wd.pick du [0,0,1,2] O O O) ?_
 rintro ⟨k,vr,rr⟩ ⟨hk,HR⟩
 dsimp only at *
 have hWl:=Sw hE1;have hWs:∀c∈mW.map lr.L,c.length<=98:=fun c hc=>by rw [hE1] at hc;have:=Jp c hc;omega
 have hrl:rr.length<=12004:=by have h1:=Bj (M:=98) ((mW.map lr.L).take k) (fH (ug dk)).1 (fun c hc=>hWs c (List.mem_of_mem_take hc));have h2:=Jo (ug dk);have h3:(ug dk).size<=2400:=(by rw [<- hth,ByteArray.size_extract];omega);rw [List.length_take,List.length_map] at h1;rw [HR];omega
 refine U ?_
 refine C (k<mW.length) ?_ ?_ <;> intro h5
 .
  obtain ⟨x1,hx1⟩:∃z,mW[k]? = some z:=⟨_,List.getElem?_eq_getElem ae⟩
  refine U ?_
  have hxl:=hWs x1.L (List.mem_map_of_mem (List.mem_of_getElem? hx1))
  refine U ?_
  refine R.s (B':=(fun kJ:Value=>[ag.row 115 kJ (bX rr x1.L),ag.box aF [z8,z9,kM,iV dk.Fuse,.bool dk.Down] 120,ag.row 9 z8 dk.Kept,ag.row 9 z9 dk.Now,ag.row 196 kM dk.Wait,ag.box lA [pV aF,iV 102,iV (((dk.Now.length-102):Nat):Int),iV hh.First,iV (fT dk 102 (Int.toNat (((dk.Now.length-102):Nat):Int)) hh.First:Int)] 193,ag.box b1 [pV aF,iV hh.Epoch,iV hh.Side,iV hh.Size,iV hh.First,pV lA,vr] 132,ag.held w own])) (F':=(fun kJ:Value=>[ag.ls x1.cv x1.L,ag.ls vr rr,ag.ls z1 (fH (tx.extract 0 hh.Size.toNat)).1,ag.nU (mW:List lr),ag.ls z12 mW])) O (s.pre (B2:=[ag.box aF [z8,z9,kM,iV dk.Fuse,.bool dk.Down] 120,ag.row 9 z8 dk.Kept,ag.row 9 z9 dk.Now,ag.row 196 kM dk.Wait,ag.box lA [pV aF,iV 102,iV (((dk.Now.length-102):Nat):Int),iV hh.First,iV (fT dk 102 (Int.toNat (((dk.Now.length-102):Nat):Int)) hh.First:Int)] 193,ag.box b1 [pV aF,iV hh.Epoch,iV hh.Side,iV hh.Size,iV hh.First,pV lA,vr] 132,ag.held w own]) (F2:=[ag.ls x1.cv x1.L,ag.ls vr rr,ag.ls z1 (fH (tx.extract 0 hh.Size.toNat)).1,ag.nU (mW:List lr),ag.ls z12 mW]) (fun _ hw=>hw.U2 (x:=x1) 2 O (List.mem_of_getElem? hx1)) (s.aH (B0:=[]) (Br:=[ag.box aF [z8,z9,kM,iV dk.Fuse,.bool dk.Down] 120,ag.row 9 z8 dk.Kept,ag.row 9 z9 dk.Now,ag.row 196 kM dk.Wait,ag.box lA [pV aF,iV 102,iV (((dk.Now.length-102):Nat):Int),iV hh.First,iV (fT dk 102 (Int.toNat (((dk.Now.length-102):Nat):Int)) hh.First:Int)] 193,ag.box b1 [pV aF,iV hh.Epoch,iV hh.Side,iV hh.Size,iV hh.First,pV lA,vr] 132,ag.held w own]) (F0:=[ag.ls vr rr,ag.ls x1.cv x1.L]) du [1,0] (fun kJ:Value=>kJ) (fun kJ:Value=>[ag.row 115 kJ (bX rr x1.L)]) (fun kJ:Value=>[]) O O O OO O O (fun w own hw H=>qL vr rr x1.cv x1.L w own H ae) O)) fun tQ=>U ?_
  refine R.mp (B':=[ag.box aF [z8,z9,kM,iV dk.Fuse,.bool dk.Down] 120,ag.row 9 z8 dk.Kept,ag.row 9 z9 dk.Now,ag.row 196 kM dk.Wait,ag.box lA [pV aF,iV 102,iV (((dk.Now.length-102):Nat):Int),iV hh.First,iV (fT dk 102 (Int.toNat (((dk.Now.length-102):Nat):Int)) hh.First:Int)] 193,ag.box b1 [pV aF,iV hh.Epoch,iV hh.Side,iV hh.Size,iV hh.First,pV lA,tQ] 132,ag.held w own]) (fun _ hw=>hw.aO 0 _ O O) ?_
  refine R.back (k+1,tQ,bX rr x1.L) O (by exact ⟨ae,by rw [Hb (c:=x1.L) (by rw [List.getElem?_map,hx1];rfl),<- HR]⟩) aJ ⟨rfl,rfl,rfl,rfl,trivial⟩ (XE du [0,3,4,5] O O O)
 have hz:(dk,(bf dk).c,(bf dk).L)=(dk,(⟨hh.Epoch,hh.Side,hh.Size,hh.First,rr⟩:fu),(⟨102,(((dk.Now.length-102):Nat):Int),hh.First,(fT dk 102 (Int.toNat (((dk.Now.length-102):Nat):Int)) hh.First:Int)⟩:Lg)):=by (rw [HR,List.take_of_length_le (by rw [List.length_map];omega),hE1,hhe,show ((dk.Now.length-102:Nat):Int)=(dk.Now.length:Int)-102 by omega];rfl)
 have hz0:(bf dk).c=(⟨hh.Epoch,hh.Side,hh.Size,hh.First,rr⟩:fu):=congrArg (fun t_=>t_.2.1) hz
 rw [hz0]
 have hz1:(bf dk).L=(⟨102,(((dk.Now.length-102):Nat):Int),hh.First,(fT dk 102 (Int.toNat (((dk.Now.length-102):Nat):Int)) hh.First:Int)⟩:Lg):=congrArg (fun t_=>t_.2.2) hz
 rw [hz1]
 exact R.x2 (z8,z9,kM,b1,vr,lA) [0,1,2,3,5,4,6] [0]
end
section
open Go Go.RowKit
def Jq:Option Nat->Fence
  | none=>Fence.wide
  | some l=>Fence.wide.inRound l
theorem Jr (r:Option Nat)(f:FuncId):(Jq r).fn f:=by cases r <;> exact trivial
theorem xo (r:Option Nat):(Jq r).depth.isSome=true->1<=9:=fun _=>by decide
theorem Mj {r:Option Nat}{m:Nat}{P:Program}{f:FuncId}{args:Array Value}{w:World}{R:Ending->World->Prop}(h:Calls P f args w R):CallsIn (Jq r) m P f args w R:=by
 cases r with
 | none=>exact callsIn_wide.2 h
 | some l=>exact CallsIn.inRound l (callsIn_wide.2 h)
theorem PD {r:Option Nat}{m:Nat}{P:Program}{row:String}{args:Array Value}{w:World}{R:Value->World->Prop}(h:Rows P row args w R):RowsIn (Jq r) m P row args w R:=by
 have key:RowsIn Fence.wide m P row args w R:=fun c cs _=>let ⟨v,w',q,s⟩:=h c cs;⟨v,w',q,stepsIn_wide.2 s⟩
 cases r with
 | none=>exact key
 | some l=>exact key
def pD (a:Act)(ds:List Deferred):Act:={ a with defers:=a.defers++ds}
theorem pg (a:Act)(ds:List Deferred)(dst:Option Nat)(v:Value):(pD a ds).put dst v=pD (a.put dst v) ds:=by cases dst <;> rfl
theorem Hj (a:Act)(ds:List Deferred):(pD a ds).eval=a.eval:=rfl
section
variable {P:Program} {r:Option Nat} {ds:List Deferred}
def ndef (o:Oper):Bool:=match o.op with | .defer _=>false|_=>true
theorem Sx {o:Oper}(h:ndef o=true):∀c,o.op ≠ .defer c:=fun c e=>by grind [ndef]
theorem PE {o:Oper}{a:Act}{w:World}{K K':Act->World->Prop}{Q Q':Exit->Act->World->Prop}(hnd:ndef o=true)(hK:∀a w,K a w->K' (pD a ds) w)(hQ:∀e a w,Q e a w->Q' e (pD a ds) w)
 (h:o.wp P a w K Q):o.wpIn (Jq r) 9 P (pD a ds) w K' Q':=by
 refine ⟨fun f _=>Jr r f,?_⟩
 rw [Oper.semAt_eq _ _ _ (Sx hnd),Hj]
 unfold Oper.wp at h
 generalize (execOp a.eval o).run P w=x at *
 cases x with
 | ok y w' =>
  cases y <;> simp only [Oper.upon] at h <;> simp only [Oper.uponIn]
  case value v=>grind [pg]
  case skip=>grind [pg]
  case defer d =>
   have e:({ pD a ds with defers:=d::(pD a ds).defers}:Act)=pD { a with defers:=d::a.defers} ds:=rfl
   grind [pg]
  case enter f args =>
   refine ⟨xo r,(Mj h).mono fun en w'' he=>?_⟩
   cases en with
   | returned v=>grind [pg]
   | panicked c=>grind
   | outgrown=>obtain ⟨a',w',hq⟩:=he;exact ⟨_,_,hQ _ _ _ hq⟩
  case row row args =>
   exact ⟨xo r,(PD h).mono fun v w'' he=>by grind [pg]⟩
 | halt x w' =>
  cases x <;> simp only [Oper.upon] at h <;> simp only [Oper.uponIn]
  grind
theorem KT {ops:Array Oper}{Q Q':Exit->Act->World->Prop}(hQ:∀e a w,Q e a w->Q' e (pD a ds) w)(hO:∀a w,¬ Q .outgrown a w):∀ (rest:List Oper) (a:Act) (w:World),rest.all ndef=true->wpList P ops Q rest a w->wpListIn (Jq r) 9 P ops Q' rest (pD a ds) w
 | [],a,w,_,h=>hQ _ _ _ h
 | o::rest,a,w,hn,h=>by
  rw [List.all_cons,Bool.and_eq_true] at hn
  have ih:∀a w,wpList P ops Q rest a w->wpListIn (Jq r) 9 P ops Q' rest (pD a ds) w:=fun a w=>KT hQ hO rest a w hn.2
  unfold wpList at h
  unfold wpListIn
  by_cases hw:Region.wanted o (yielded ops a.tmps)=true
  .
   rw [if_pos hw] at h
   rw [if_pos (show Region.wanted o (yielded ops (pD a ds).tmps)=true from hw)]
   rcases h with h|⟨_,a',w',h⟩
   .grind [PE]
   grind
  rw [if_neg hw] at h
  rw [if_neg (show ¬ Region.wanted o (yielded ops (pD a ds).tmps)=true from hw),pg]
  grind [Jr]
theorem PF {ops:Array Oper}{Q Q':Exit->Act->World->Prop}(hn:ops.toList.all ndef=true)(hQ:∀e a w,Q e a w->Q' e (pD a ds) w)(hO:∀a w,¬ Q .outgrown a w) :
 ∀ (fuel:Nat) (ls:Array Bool) (a:Act) (w:World),wpAny P .any ops Q fuel ls a w->wpAnyIn (Jq r) 9 P .any ops Q' fuel ls (pD a ds) w
 | 0,ls,a,w,h=>⟨h.1,hQ _ _ _ h.2⟩
 | fuel+1,ls,a,w,h=>by
  refine ⟨fun h0=>hQ _ _ _ (h.1 h0),fun i hi=>?_⟩
  have h1:=h.2 i hi
  have ih:∀a w,wpAny P .any ops Q fuel (ls.setIfInBounds i true) a w->wpAnyIn (Jq r) 9 P .any ops Q' fuel (ls.setIfInBounds i true) (pD a ds) w:=fun a w=>PF hn hQ hO fuel (ls.setIfInBounds i true) a w
  unfold wpOp at h1
  unfold wpOpIn
  cases ho:ops[i]? with
  | none=>grind
  | some o =>
   rw [ho] at h1
   dsimp only at h1 ⊢
   have hno:ndef o=true:=List.all_eq_true.1 hn o (Array.mem_toList_iff.2 (Array.mem_of_getElem? ho))
   by_cases hw:Region.wanted o (yielded ops a.tmps)=true
   .
    rw [if_pos hw] at h1
    rw [if_pos (show Region.wanted o (yielded ops (pD a ds).tmps)=true from hw)]
    rcases h1 with h1|⟨_,a',w',h1⟩
    .grind [PE]
    grind
   rw [if_neg hw] at h1
   rw [if_neg (show ¬ Region.wanted o (yielded ops (pD a ds).tmps)=true from hw),pg]
   grind [Jr]
end
def mX (r:Option Nat)(P:Program)(Q:Exit->Act->World->Prop):List It->Exit->Act->World->Prop
  | [],e,a,w=>Q e a w
  | .c x::k,.normal,a,w=>x.wpIn (Jq r) 9 P (mX r P Q k) a w
  | .c _::k,e,a,w=>mX r P Q k e a w
  | .b id::k,.exit id',a,w=>bif Nat.beq id' id then mX r P Q k .normal a w else mX r P Q k (.exit id') a w
  | .b _::k,e,a,w=>mX r P Q k e a w
  | .back I::k,.normal,a,w=>I a w
  | .back _::k,e,a,w=>mX r P Q k e a w
section
variable {P:Program} {r:Option Nat} {ds:List Deferred} {Q:Exit->Act->World->Prop}
theorem PG {x y:Code}{k:List It}{a:Act}{w:World}(h:mX r P Q (.c x :: .c y::k) .normal a w):mX r P Q (.c (.seq x y)::k) .normal a w :=
 wpIn_seq (wpIn_mono h (fun e a w q=>by cases e <;> exact q))
theorem Js {id:Nat}{x:Code}{k:List It}{a:Act}{w:World}(h:mX r P Q (.c x :: .b id::k) .normal a w):mX r P Q (.c (.block id x)::k) .normal a w :=
 wpIn_block (wpIn_mono h (fun e a w q=>by
  cases e with
  | exit id' =>
   simp only [mX] at q
   by_cases hid:id'=id
   .simp_all [Exit.inBlock]
   have e':Nat.beq id' id=false:=Bool.eq_false_iff.2 (fun h=>hid (Nat.eq_of_beq_eq_true h))
   grind [Exit.inBlock]
  | _=>exact q))
theorem tC {id:Nat}:∀ {k k':List It} {a:Act} {w:World},lN id k=some k'->mX r P Q k' .normal a w->mX r P Q k (.exit id) a w
 | [],k',a,w,h,hq=>by simp [lN] at h
 | .c _::k,k',a,w,h,hq=>tC (k:=k) (by simpa [lN] using h) hq
 | .back _::k,k',a,w,h,hq=>tC (k:=k) (by simpa [lN] using h) hq
 | .b id'::k,k',a,w,h,hq=>by
  simp only [lN] at h
  simp only [mX]
  cases hb:Nat.beq id id' with
  | true=>rw [hb] at h;simp at h;subst h;exact hq
  | false=>rw [hb] at h;simp at h;exact tC h hq
theorem fe:∀ (f:Nat) {k:List It} {a:Act} {w:World},mX r P Q (norm f k) .normal a w->mX r P Q k .normal a w
 | 0,k,a,w,h=>h
 | f+1,k,a,w,h=>by
  unfold norm at h
  split at h
  .exact PG (fe f h)
  .exact wpIn_skip (fe f h)
  .exact wpIn_label (fe f h)
  .exact Js (fe f h)
  .
   have:=fe f h
   exact this
  .
   split at h
   .rename_i hx;exact wpIn_exit (tC hx (fe f h))
   exact h
  exact h
theorem wc:∀ {k:List It} {a:Act} {w:World},Q .ret a w->mX r P Q k .ret a w
 | [],a,w,h=>h
 | .c _::k,a,w,h=>wc (k:=k) h
 | .b _::k,a,w,h=>wc (k:=k) h
 | .back _::k,a,w,h=>wc (k:=k) h
theorem sI (hO:∀a w,¬ Q .outgrown a w):∀ (k:List It) (a:Act) (w:World),¬ mX r P Q k .outgrown a w
 | [],a,w=>hO a w
 | .c _::k,a,w=>sI hO k a w
 | .b _::k,a,w=>sI hO k a w
 | .back _::k,a,w=>sI hO k a w
theorem ov:∀ (k:List It) (e:Exit) (a:Act) (w:World),mX none P Q k e a w->rJ P Q k e a w
 | [],e,a,w,h=>h
 | .c x::k,e,a,w,h=>by
  cases e with
  | normal=>exact wp_mono (wpIn_wide.1 h) (fun e a w q=>ov k e a w q)
  | _=>exact ov k _ a w h
 | .b id::k,e,a,w,h=>by
  cases e with
  | exit id' =>
   simp only [mX] at h
   simp only [rJ]
   cases hb:Nat.beq id' id with
   | true=>rw [hb] at h;exact ov k _ a w h
   | false=>rw [hb] at h;exact ov k _ a w h
  | _=>exact ov k _ a w h
 | .back I::k,e,a,w,h=>by
  cases e with
  | normal=>exact h
  | _=>exact ov k _ a w h
end
def mL (r:Option Nat)(ds:List Deferred)(P:Program)(n:Nat)(we:World)(X:List Nat)(Q:Exit->Act->World->Prop)(k:List It)(L:Fm)(B F:List ag):Prop :=
  ∀a w,Fr n L a->Wd we X B F w->mX r P Q k .normal (pD a ds) w
def qI (r:Option Nat)(ds:List Deferred)(P:Program)(Q:Exit->Act->World->Prop)(k:List It):Exit->Act->World->Prop:=fun e a w=>mX r P Q k e (pD a ds) w
section
variable {P:Program} {r:Option Nat} {ds:List Deferred} {n:Nat} {we:World} {X:List Nat} {Q:Exit->Act->World->Prop} {k k':List It} {L L':Fm} {B F:List ag} {ops rest:List Oper}
theorem I.nil (h:mL r ds P n we X Q k L B F):Run P n we X (qI r ds P Q k) [] L B F:=fun a w ha hw=>h a w ha hw
theorem I.reg {id:Nat}(h:norm 200 k = .c (.region id ops.toArray false)::k')(hn:ops.all ndef=true)(hO:∀a w,¬ Q .outgrown a w)(hr:Rg P n we X (qI r ds P Q k') ops ops [] L B F):mL r ds P n we X Q k L B F :=
 fun a w ha hw=>fe 200 (h▸wpIn_region_lit (KT (Q:=rJ P (qI r ds P Q k') []) (fun e a w q=>q) (fun a w q=>sI hO k' _ _ q) ops a w hn (hr a w ha hw)))
theorem I.Ix {id fuel:Nat}(S:World->Prop)(h:norm 200 k = .c (.region id ops.toArray true)::k')(hn:ops.all ndef=true)(hO:∀a w,¬ Q .outgrown a w)(hm:P.follows .mixedOrders=true)(hl:ops.length=fuel)
 (hr:Dg S P n we X (qI r ds P Q k') ops fuel (Array.replicate fuel false) [] L B F):mL r ds P n we X Q k L B F:=by
 intro a w ha hw
 refine fe 200 (h ▸ ?_)
 refine wpIn_region_any hm ?_
 have h1:=wpAny_of_held _ _ _ _ (hr a _ ha (hw.grow (np.draw w)))
 grind [NoPanic,rJ,qI,mX,pD,PF,NoPanic.imp,sI]
theorem I.pE {c:Operand}{x y:Code}(h:norm 200 k = .c (.cond c x y)::k')(hc:ev L c=some (.bool true))(hr:mL r ds P n we X Q (.c x::k') L B F):mL r ds P n we X Q k L B F :=
 fun a w ha hw=>fe 200 (h▸wpIn_cond_true (ha.ev hc) (hr a w ha hw))
theorem I.rO {c:Operand}{x y:Code}(h:norm 200 k = .c (.cond c x y)::k')(hc:ev L c=some (.bool false))(hr:mL r ds P n we X Q (.c y::k') L B F):mL r ds P n we X Q k L B F :=
 fun a w ha hw=>fe 200 (h▸wpIn_cond_false (ha.ev hc) (hr a w ha hw))
theorem I.mp {B' F':List ag}(hm:∀w,Wd we X B F w->Wd we X B' F' w)(h:mL r ds P n we X Q k L B' F'):mL r ds P n we X Q k L B F:=fun a w ha hw=>h a w ha (hm w hw)
theorem I.ret (h:norm 200 k = .c .ret::k')(hq:∀a w,Fr n L a->Wd we X B F w->Q .ret (pD a ds) w):mL r ds P n we X Q k L B F :=
 fun a w ha hw=>fe 200 (h▸wpIn_ret (wc (hq a w ha hw)))
theorem I.end (h:norm 200 k=[])(hq:∀a w,Fr n L a->Wd we X B F w->Q .normal (pD a ds) w):mL r ds P n we X Q k L B F :=
 fun a w ha hw=>fe 200 (h▸hq a w ha hw)
end
end
section
open Go Go.RowKit
def ag.cY (l:Nat)(o:Obj):ag:=⟨[l],fun w=>w.heap[l]? = some o,fun w w' h ho=>(h l (List.mem_singleton.2 rfl)).trans ho⟩
theorem Jt {w:World}{l:Nat}{o o':Obj}:np [l] w (w.putObj l o') :=
 ⟨rfl,rfl,rfl,Nat.le_of_eq World.putObj_size.symm,fun k hk hn=>World.putObj_heap_other (fun e=>hn az)⟩
section
variable {we w:World} {X:List Nat} {B F:List ag}
theorem Wd.Ju {i l:Nat}{o:Obj}(hw:Wd we X B F w)(hi:B[i]? = some (ag.cY l o)):w.heap[l]? = some o:=hw.b i hi
theorem Wd.PH {i l:Nat}{o:Obj}(o':Obj)(hw:Wd we X B F w)(hi:B[i]? = some (ag.cY l o)):Wd we X (B.set i (ag.cY l o')) F (w.putObj l o'):=by
 have h:=hw.Ju hi
 have hlt:l<w.heap.size:=(Array.getElem?_eq_some_iff.1 h).1
 refine hw.turn hi (Jt (o:=o)) (World.putObj_heap_same hlt) (by simp [ag.cY]) fun k hk=>?_
 have e:k=l:=List.mem_singleton.1 hk
 subst e
 exact ⟨uY,.inl (List.mem_singleton.2 rfl)⟩
theorem Mk (w:World)(o:Obj):np [] w (w.alloc o):=by
 refine ⟨rfl,rfl,rfl,bA,fun k hk _=>?_⟩
 show (w.heap.push o)[k]? = _
 grind
theorem Wd.mkB (hw:Wd we X B F w)(o:Obj):Wd we X (ag.cY w.heap.size o::B) F (w.alloc o):=by
 have h1:=hw.grow (Mk w o)
 refine h1.new (r:=ag.cY w.heap.size o) (World.alloc_heap_new w o) (by simp [ag.cY]) fun k hk=>?_
 have e:k=w.heap.size:=List.mem_singleton.1 hk
 subst e
 refine ⟨bA,hw.upd.size,fun hb=>?_,fun hb=>?_⟩
 .have:=(hw.own _ hb).1;omega
 have:=(hw.nq _ hb).1;omega
end
section
variable {P:Program} {r:Option Nat} {ds:List Deferred} {n:Nat} {we:World} {X:List Nat} {Q:Exit->Act->World->Prop} {k k':List It} {L L':Fm} {B F:List ag} {ops rest:List Oper}
variable {d:Nat} {op:Op} {ty:TypeId} {pos:String} {dV:Array Edge} {g:Option (Nat×Bool)} {v:Value}
def Uw (r:Option Nat)(ds:List Deferred)(P:Program)(n:Nat)(we:World)(X:List Nat)(Q:Exit->Act->World->Prop)(ops rest:List Oper)(k:List It)(L:Fm)(B F:List ag):Prop :=
  ∀a w,Fr n L a->Wd we X B F w->wpListIn (Jq r) 9 P ops.toArray (mX r P Q k) rest (pD a ds) w
theorem I.aa1 {id:Nat}(h:norm 200 k = .c (.region id ops.toArray false)::k')(hr:Uw r ds P n we X Q ops ops k' L B F):mL r ds P n we X Q k L B F :=
 fun a w ha hw=>fe 200 (h▸wpIn_region_lit (hr a w ha hw))
theorem I.Zx (h:mL r ds P n we X Q k L B F):Uw r ds P n we X Q ops [] k L B F:=fun a w ha hw=>wpListIn_nil (h a w ha hw)
theorem I.s {β:Type}{o:Oper}{L':β->Fm}{B' F':β->List ag}(hn:ndef o=true)(hg:gd ops L o.guard=some true)(hs:Stp P n we X L B F o L' B' F')(h:∀z,Uw r ds P n we X Q ops rest k (L' z) (B' z) (F' z)):Uw r ds P n we X Q ops (o::rest) k L B F:=by
 intro a w ha hw
 refine wpListIn_step fun K hK=>?_
 rw [if_pos (show Region.wanted o (yielded ops.toArray (pD a ds).tmps)=true from eR (o:=o) (a:=a) ha hg)]
 refine PE (K:=fun a w => ∃z,Fr n (L' z) a/\Wd we X (B' z) (F' z) w) (Q:=fun _ _ _=>False) hn ?_ ?_ (hs _ _ a w ha hw fun z a w ha hw=>⟨z,ha,hw⟩)
 .rintro a w ⟨z,ha,hw⟩;exact hK _ _ (h z a w ha hw)
 grind
theorem q.stp (hq:Qt P n we X L B F op ty v)(hd:Nat.blt d n=true):Stp P n we X L B F ⟨some d,op,ty,pos,dV,g⟩ (fun _:Unit=>(d,v)::L) (fun _=>B) (fun _=>F):=by
 intro K Q' a w ha hw hK
 unfold Oper.wp
 rw [hq _ _ _ _ a w ha hw,Oper.upon_value]
 exact hK () _ _ (ha.put d v hd) hw
theorem I.q (hq:Qt P n we X L B F op ty v)(hd:Nat.blt d n=true)(hn:ndef ⟨some d,op,ty,pos,dV,none⟩=true)(h:Uw r ds P n we X Q ops rest k ((d,v)::L) B F):Uw r ds P n we X Q ops (⟨some d,op,ty,pos,dV,none⟩::rest) k L B F :=
 I.s hn rfl (q.stp hq hd) fun _=>h
theorem I.y {β:Type}{l i:Nat}{rc:Loop}{c x:Operand}{xv:Value}{ts:Array TypeId}(hi:B[i]? = some (ag.cY l (.loop rc)))(hp:rc.params.size=1)(hc:ev L c=some (.func (.yield l) #[] #[]))(hx:ev L x=some xv)
 (V:β->Bool) (PV:β->Prop) (B' F':β->List ag)
 (WK:∀w,Wd we X B F w->RoundIn Fence.wide 8 P l rc.fn ((rc.params.zip #[xv]).foldl (fun tmps (t,a)=>tmps.setIfInBounds t a) rc.tmps) rc.assign rc.body w (fun e w' => ∃z,e = .returned (.bool (V z))/\PV z/\Wd we X (B' z) (F' z) w'))
 (hd:Nat.blt d n=true) (h:∀z,PV z->Uw none ds P n we X Q ops rest k ((d,.bool (V z))::L) (B' z) (F' z)) :
 Uw none ds P n we X Q ops (⟨some d,.call { callee:= .value c,args:= #[x],argTypes:=ts},ty,pos,dV,none⟩::rest) k L B F:=by
 intro a w ha hw
 refine wpListIn_plain rfl fun K hK=>⟨fun f _=>trivial,?_⟩
 have hrun:(Oper.semAt (Jq none).round (pD a ds).eval ⟨some d,.call { callee:= .value c,args:= #[x],argTypes:=ts},ty,pos,dV,none⟩).run P w = .ok (.round l rc.fn ((rc.params.zip #[xv]).foldl (fun tmps (t,a)=>tmps.setIfInBounds t a) rc.tmps) rc.assign rc.body) w:=by
  rw [Oper.semAt_eq _ _ _ (fun c h=>by cases h),Hj]
  simp [execOp,resolve,ha.ev hc,Deferred.ofValue,invoke,ha.ev hx,run_yield (P:=P) (args:= #[xv]) (hw.Ju hi) az]
 rw [hrun,Oper.uponIn_round]
 refine ⟨xo none,RoundIn.mono (WK w hw) fun e w' he=>?_⟩
 obtain ⟨z,rfl,hp,hz⟩:=he
 show K ((pD a ds).put (some d) (.bool (V z))) w'
 rw [pg]
 exact hK _ _ (h z hp _ w' (ha.put d _ hd) hz)
def HdI {ι:Type}(ds:List Deferred)(n:Nat)(we:World)(X:List Nat)(LI:ι->Fm)(BI FI:ι->List ag)(PI:ι->Prop)(μ:ι->Nat)(m:Nat)(a:Act)(w:World):Prop :=
  ∃a0,a=pD a0 ds/\Hd n we X LI BI FI PI μ m a0 w
theorem I.back {ι:Type}{LI:ι->Fm}{BI FI:ι->List ag}{PI:ι->Prop}{μ:ι->Nat}{m:Nat}(i:ι)(h:norm 200 k = .back (HdI ds n we X LI BI FI PI μ m)::k')(hP:PI i)(hm:μ i<m)(hL:D2 (LI i) L)(hB:∀w,Wd we X B F w->Wd we X (BI i) (FI i) w):mL r ds P n we X Q k L B F :=
 fun a w ha hw=>fe 200 (by rw [h];exact ⟨a,rfl,i,hP,hm,ha.sub hL,hB w hw⟩)
theorem Ml {c:Code}{Q:Exit->Act->World->Prop}{a:Act}{w:World}(I:Nat->Act->World->Prop)(m:Nat)(h₀:I m a w)
 (round:∀m a w,I m a w->c.wpIn Fence.wide 9 P (Exit.then (fun a' w' => ∃m',m'<m/\I m' a' w') Q) a w):(Code.loop c).wpIn Fence.wide 9 P Q a w :=
 wpIn_wide.2 (FE I m h₀ fun m a w h=>wpIn_wide.1 (round m a w h))
theorem I.loop {ι:Type}(LI:ι->Fm)(BI FI:ι->List ag)(PI:ι->Prop)(μ:ι->Nat)(i:ι){c:Code}(h:norm 200 k = .c (.loop c)::k')(hP:PI i)(hL:D2 (LI i) L)(hB:∀w,Wd we X B F w->Wd we X (BI i) (FI i) w)
 (round:∀i,PI i->mL none ds P n we X Q (.c c :: .back (HdI ds n we X LI BI FI PI μ (μ i))::k') (LI i) (BI i) (FI i)):mL none ds P n we X Q k L B F:=by
 intro a w ha hw
 refine fe 200 (h ▸ ?_)
 refine Ml (fun m a w => ∃a0,a=pD a0 ds /\ ∃i,PI i/\μ i=m/\Fr n (LI i) a0/\Wd we X (BI i) (FI i) w) (μ i) ⟨a,rfl,i,hP,rfl,ha.sub hL,hB w hw⟩ ?_
 rintro m a w ⟨a0,rfl,i,hP,rfl,ha,hw⟩
 refine wpIn_mono (round i hP a0 w ha hw) (fun e a w q=>?_)
 cases e with
 | normal =>
  obtain ⟨a1,rfl,j,h1,h2,h3,h4⟩:=q
  exact ⟨μ j,h2,a1,rfl,j,h1,rfl,h3,h4⟩
 | _=>exact q
theorem PK (r:Option Nat)(m:Nat):(Jq r).room m:=by
 intro d hd;cases r <;> cases hd
theorem Hl {c:Code}{m:Nat}{a:Act}{w:World}(h:c.wpIn (Jq r) 9 P Q a w):c.wpIn (Jq r) m P Q a w:=fun b k cs h1 h2 _=>h b k cs h1 h2 (PK r _)
def qA (n:Nat)(L:Fm)(we:World)(X:List Nat)(B F:List ag):Exit->Act->World->Prop
  | .normal,a,w=>Fr n L a/\Wd we X B F w
  | _,_,_=>False
theorem I.assigned {L1:Fm}(h:norm 200 k=[])(hL:D2 L1 L):mL r [] P n we X (qA n L1 we X B F) k L B F :=
 fun a w ha hw=>fe 200 (by
  rw [h]
  have e:pD a []=a:=by unfold pD;simp
  show qA n L1 we X B F .normal (pD a []) w
  rw [e];exact ⟨ha.sub hL,hw⟩)
theorem I.round {l i:Nat}{fn:FuncId}{tmps:Array Value}{assign body:Code}{w:World}{R:Ending->World->Prop}{rc:Loop}{L0 L1:Fm}(hi:B[i]? = some (ag.cY l (.loop rc)))(hs:rc.state = .ready)(hf:Fr n L0 { tmps:=tmps,defers:=[]})(hw:Wd we X B F w)
 (ha:mL (some l) [] P n we X (qA n L1 we X B F) [.c assign] L0 B F) (hb:mL (some l) [] P n we X (roundPost P l R) [.c body] L1 (B.set i (ag.cY l (.loop { rc with state:= .busy}))) F) :
 RoundIn Fence.wide 8 P l fn tmps assign body w R:=by
 refine roundIn_of_wpIn trivial (Hl (r:=some l) ?_)
 have h1:=ha _ w hf hw
 refine wpIn_mono h1 fun e a w q=>?_
 cases e with
 | normal =>
  obtain ⟨hfa,hwa⟩:=q
  refine ⟨_,run_beginRound (hwa.Ju hi) hs,Hl (r:=some l) ?_⟩
  have h2:=hb a _ hfa (hwa.PH (.loop { rc with state:= .busy}) hi)
  have e:pD a []=a:=by unfold pD;simp
  rw [e] at h2
  exact h2
 | _=>exact q.elim
section
variable {β:Type} {V:β->Bool} {PV:β->Prop} {B1 F1:β->List ag}
theorem I.rgo {l i:Nat}{rc:Loop}(z:β)(hP:PV z)(h:norm 200 k=[])(hi:B[i]? = some (ag.cY l (.loop rc)))(hV:V z=true)(hB:∀w,Wd we X (B.set i (ag.cY l (.loop { rc with state:= .ready,pending:=none}))) F w->Wd we X (B1 z) (F1 z) w) :
 mL r [] P n we X (roundPost P l fun e w' => ∃z,e = .returned (.bool (V z))/\PV z/\Wd we X (B1 z) (F1 z) w') k L B F :=
 I.end h fun a w ha hw=>⟨_,_,run_endRound none (hw.Ju hi),z,az,hP,hB _ (hw.PH _ hi)⟩
theorem I.aa2 {l i:Nat}{rc:Loop}(z:β)(hP:PV z)(h:norm 200 k = .c .ret::k')(hi:B[i]? = some (ag.cY l (.loop rc)))(hV:V z=false)(hB:∀w,Wd we X (B.set i (ag.cY l (.loop { rc with state:= .done,pending:=some .ret}))) F w->Wd we X (B1 z) (F1 z) w) :
 mL r [] P n we X (roundPost P l fun e w' => ∃z,e = .returned (.bool (V z))/\PV z/\Wd we X (B1 z) (F1 z) w') k L B F :=
 I.ret h fun a w ha hw=>⟨_,_,run_endRound (some .ret) (hw.Ju hi),z,az,hP,hB _ (hw.PH _ hi)⟩
end
def coll (D:Nat):List Deferred:=[{ target:= .collected D,args:= #[]}]
def Cg (RC:Loop)(stop:Bool):Loop:=bif stop then { RC with state:= .done,pending:=some .ret} else { RC with state:= .ready,pending:=none}
theorem R.range {β:Type}{g:Operand}{ps:Array Tmp}{assign body:Code}{gf:Nat}{lb:Array Value}(h:norm 200 k = .c (.rangeFunc g ps assign body)::k')(hg:ev L g=some (.func (.func gf) #[] lb))
 (eg:∀args w,(callFunc gf args).run P w = .ok (.enter gf args) w) (stop:β->Bool) (PJ:β->Prop) (Bz Fz:Nat->β->List ag)
 (hcall:∀ (RC:Loop) (a:Act) (D:Nat) (w1:World),we.heap.size<=D->Fr n L a->RC.tmps=a.tmps->RC.params=ps->RC.assign=assign->RC.body=body->Wd we X (ag.cY (D+1) (.loop (Cg RC false))::ag.cY D (.deferred (some []))::B) F w1 ->
  CallsIn Fence.wide (9-1) P gf (#[.func (.yield (D+1)) #[] #[]]++lb) w1 fun e w3 => ∃v z,e = .returned v/\PJ z/\Wd we X (ag.cY (D+1) (.loop (Cg RC (stop z)))::Bz D z) (Fz D z) w3)
 (hend:∀D z,we.heap.size<=D->PJ z->stop z=false->mL none (coll D) P n we X Q k' L (Bz D z) (Fz D z))
 (hstop:∀D z,we.heap.size<=D->PJ z->stop z=true->mL none (coll D) P n we X Q (.c .ret::k') L (Bz D z) (Fz D z)):Run P n we X Q k L B F:=by
 intro a w ha hw
 refine dr 200 (h ▸ ?_)
 suffices hx:(Code.rangeFunc g ps assign body).wpIn Fence.wide 9 P (mX none P Q k') a w from wp_mono (wpIn_wide.1 hx) (fun e a w q=>ov k' e a w q)
 refine wpIn_rangeFunc fun fn _=>?_
 have hw2:=(hw.mkB (.deferred (some []))).mkB (.loop { state:= .ready,pending:=none,fn,tmps:=a.tmps,params:=ps,assign,body,defers:=w.heap.size})
 have hsz:(w.alloc (.deferred (some []))).heap.size=w.heap.size+1:=World.size_alloc _ _
 rw [hsz] at hw2
 have e0:=run_enterLoop_outer (P:=P) (w:=w) fn a.tmps ps assign body
 generalize (w.alloc (.deferred (some []))).alloc (.loop { state:= .ready,pending:=none,fn,tmps:=a.tmps,params:=ps,assign,body,defers:=w.heap.size})=W1 at hw2 e0
 have hc:=hcall { state:= .ready,pending:=none,fn,tmps:=a.tmps,params:=ps,assign,body,defers:=w.heap.size} a w.heap.size W1 hw.upd.size ha rfl rfl rfl rfl hw2
 refine ⟨w.heap.size+1,coll w.heap.size,W1,{ target:= .fn (.func gf) lb,args:= #[.func (.yield (w.heap.size+1)) #[] #[]]},W1,gf,#[.func (.yield (w.heap.size+1)) #[] #[]]++lb,W1,e0,?_,fun _ _=>trivial,?_,fun _=>by decide,?_⟩
 .simp only [resolve,ha.ev hg];simp [go_sem]
 .grind [invoke]
 refine CallsIn.mono hc (fun e w3 he=>?_)
 obtain ⟨v,z,rfl,hPz,hz⟩:=he
 have e2:pD a (coll w.heap.size) = { a with defers:=coll w.heap.size++a.defers}:=by unfold pD;rw [ha.defers];rfl
 have hq1:=hend w.heap.size z hw.upd.size hPz
 have hq2:=hstop w.heap.size z hw.upd.size hPz
 generalize hrc:Cg { state:= .ready,pending:=none,fn:=fn,tmps:=a.tmps,params:=ps,assign:=assign,body:=body,defers:=w.heap.size} (stop z)=rc at hz
 have hb:rc.state ≠ .busy:=by rw [<- hrc];cases stop z <;> (intro hh;cases hh)
 have hpd:rc.pending=bif stop z then some .ret else none:=by rw [<- hrc];cases stop z <;> rfl
 have e1:=run_endLoop (P:=P) (hz.Ju (i:=0) rfl) hb
 have hz2:=hz.PH (i:=0) (.loop { rc with state:= .exhausted}) rfl
 have hz3:Wd we X (Bz w.heap.size z) (Fz w.heap.size z) (w3.putObj (w.heap.size+1) (.loop { rc with state:= .exhausted})) :=
  ⟨hz2.upd,fun r hr=>hz2.okB r (List.mem_cons_of_mem _ hr),hz2.okF,(List.nodup_append.1 hz2.sep).2.1,fun k hk=>hz2.own k (List.mem_append.2 (.inr hk)),fun k hk=>⟨(hz2.nq k hk).1,fun hh=>(hz2.nq k hk).2 (List.mem_append.2 (.inr hh))⟩⟩
 cases hJ:stop z with
 | false =>
  have hq:rc.pending=none:=az
  have h2:=hq1 hJ a _ ha hz3
  rw [e2] at h2
  refine ⟨rc.pending,_,e1,?_⟩
  grind
 | true =>
  have hq:rc.pending=some .ret:=az
  have h2:=hq2 hJ a _ ha hz3
  rw [e2] at h2
  refine ⟨rc.pending,_,e1,?_⟩
  rw [hq] at h2 ⊢
  exact h2
theorem Wd.sub {w:World}(hw:Wd we X B F w):Wd w (blks B) B F w:=⟨np.refl _ _,hw.okB,hw.okF,hw.sep,fun k hk=>⟨(hw.own k hk).1,fun _=>hk⟩,hw.nq⟩
theorem Wd.over {w w':World}{B1 F1:List ag}(hw:Wd we X B F w)(h:Wd w (blks B) B1 F1 w'):Wd we X B1 F1 w' :=
 ⟨⟨h.upd.os.trans hw.upd.os,h.upd.tape.trans hw.upd.tape,h.upd.output.trans hw.upd.output,Nat.le_trans hw.upd.size h.upd.size,fun k hk hn=>(h.upd.block k (Nat.lt_of_lt_of_le hk hw.upd.size) fun hb=>hn ((hw.own k hb).2 hk)).trans (hw.upd.block k hk hn)⟩,
  h.okB,h.okF,h.sep,fun k hk=>⟨(h.own k hk).1,fun hk2=>(hw.own k ((h.own k hk).2 (Nat.lt_of_lt_of_le hk2 hw.upd.size))).2 hk2⟩,h.nq⟩
theorem R.WL {f:FuncId}{fn:Func}{c:Code}{vs:List Value}{w:World}{R:Ending->World->Prop}(L:Fm)(hf:P.funcs[f]? = some fn)(hb:fn.body=some c)(hn:fn.ntmps=n)
 (hle:Nat.ble vs.length n=true) (hL:UU 0 vs=L) (h0:Wd w X B F w) (h:Run P n w X (bodyPostM Fence.wide 9 P fn R) [.c c] L B F):Calls P f vs.toArray w R:=by
 have hle':vs.length<=n:=Nat.le_of_ble_eq_true hle
 suffices hx:c.wp P (bodyPostM Fence.wide 9 P fn R) { tmps:=vs.toArray++Array.replicate (fn.ntmps-vs.toArray.size) undef,defers:=[]} w from callsIn_wide.1 (callsIn_of_wp_marks (n:=9) hf hb trivial (wpIn_wide.2 hx))
 refine wp_mono (h _ w ⟨?_,rfl,fun i v hv=>?_⟩ h0) (fun e a w q=>by cases e <;> exact q)
 .simp [hn];omega
 rw [<- hL] at hv
 obtain ⟨h1,h2⟩:=zg vs 0 i v hv
 simp only [Nat.sub_zero] at h2
 have hi:i<vs.length:=(List.getElem?_eq_some_iff.1 h2).1
 show (vs.toArray++Array.replicate (fn.ntmps-vs.toArray.size) undef)[i]? = some v
 rw [Array.getElem?_append_left (by simpa using hi)]
 simpa using h2
theorem I.wL {f:FuncId}{fn:Func}{c:Code}{vs:List Value}{w:World}{R:Ending->World->Prop}(L:Fm)(hf:P.funcs[f]? = some fn)(hb:fn.body=some c)(hn:fn.ntmps=n)
 (hle:Nat.ble vs.length n=true) (hL:UU 0 vs=L) (h0:Wd w X B F w) (h:mL none [] P n w X (bodyPost P fn R) [.c c] L B F):CallsIn Fence.wide (9-1) P f vs.toArray w R:=by
 have hle':vs.length<=n:=Nat.le_of_ble_eq_true hle
 suffices hx:c.wpIn Fence.wide 9 P (bodyPost P fn R) { tmps:=vs.toArray++Array.replicate (fn.ntmps-vs.toArray.size) undef,defers:=[]} w from callsIn_wide.2 (calls_of_wp hf hb (wpIn_wide.1 hx))
 have h1:=h { tmps:=vs.toArray++Array.replicate (fn.ntmps-vs.toArray.size) undef,defers:=[]} w ⟨?_,rfl,fun i v hv=>?_⟩ h0
 .assumption
 .grind
 rw [<- hL] at hv
 obtain ⟨h1,h2⟩:=zg vs 0 i v hv
 grind
section
variable {fn:Func} {β:Type} {B1 F1:β->List ag} {V:β->Value} {r1:ResultVar} {v1:Value}
theorem I.w0 {PJ:β->Prop}(z:β)(hP:PJ z)(is js:List Nat)(h:norm 200 k=[] ∨ ∃k',norm 200 k = .c .ret::k')(hr:fn.results = #[])(hp:bW B is=some (B1 z))(ha':eP is=true)(hj:bW F js=some (F1 z))(e:V z = .tuple #[]) :
 mL none [] P n we X (bodyPost P fn fun en w' => ∃z,en = .returned (V z)/\PJ z/\Wd we X (B1 z) (F1 z) w') k L B F:=by
 have e0:∀a:Act,pD a []=a:=fun a=>by unfold pD;simp
 rcases h with h|⟨k',h⟩
 .exact I.end h fun a w ha hw=>by rw [e0];exact bodyPost_end (results_none hr _ _ _) ha.defers ⟨z,by rw [e],hP,hw.Ns is js hp hj ha'⟩
 exact I.ret h fun a w ha hw=>by rw [e0];exact bodyPost_ret (results_none hr _ _ _) ha.defers ⟨z,by rw [e],hP,hw.Ns is js hp hj ha'⟩
theorem I.Zy {D i:Nat}(z:β)(is js:List Nat)(h:norm 200 k = .c .ret::k')(hr:fn.results = #[r1])(hB:B[i]? = some (ag.cY D (.deferred (some []))))(h1:RV P n we X L (B.set i (ag.cY D (.deferred none))) F r1 v1)
 (hp:bW (B.set i (ag.cY D (.deferred none))) is=some (B1 z)) (ha':eP is=true) (hj:bW F js=some (F1 z)) (e:v1=V z) :
 mL none (coll D) P n we X (bodyPostM Fence.wide 9 P fn fun en w' => ∃z,en = .returned (V z)/\Wd we X (B1 z) (F1 z) w') k L B F :=
 I.ret h fun a w ha hw=>by
  have hw':=hw.PH (.deferred none) hB
  have hds:(pD a (coll D)).defers=coll D:=by unfold pD;rw [ha.defers];rfl
  show LeavesInM Fence.wide 9 P fn a.tmps _ (pD a (coll D)).defers .returning w
  rw [hds]
  show FrameMode.returning ≠ .run/\_
  refine And.intro (fun hh=>by grind) (Or.inl ⟨D,_,rfl,run_takeDeferred (hw.Ju hB),v1,?_,z,by rw [e],hw'.Ns is js hp hj ha'⟩)
  have e1:=h1 a _ ha hw'
  rw [my,hr,show (#[r1]:Array ResultVar)=[r1].toArray from rfl]
  simp_all
end
end
end
section
open Go Go.RowKit
section
variable {α:Type} [Enc α] {w:World} {v:Value} {l:List α}
theorem Sl.Iu (h:Sl w v l){i j q:Nat}(hij:i<=j)(hj:j<=q)(hq:q<=l.length):Sl w (YtnmpibjlnninjaaGreatDoor.Iu v i j q (Enc.k α)) ((l.drop i).take (j-i)):=by
 obtain ⟨A,c,rfl,h1,h2,h3⟩:=h
 have hl:((l.drop i).take (j-i)).length=j-i:=az
 refine ⟨if q=i then A else A.map (·.add (i*Enc.k α)),q-i,by simp only [YtnmpibjlnninjaaGreatDoor.Iu,hl],ae,ae,fun m x hx=>?_⟩
 have hm:m<j-i:=by
  grind
 rw [List.getElem?_take_of_lt hm,List.getElem?_drop] at hx
 obtain ⟨b,off,rfl,hb,hc⟩:=h3 (i+m) x hx
 rw [if_neg ae]
 refine ⟨b,off+i*Enc.k α,by simp [Addr.add],hb,fun n u hu=>?_⟩
 grind
end
section
variable {P:Program} {n:Nat} {we:World} {X:List Nat} {L:Fm} {B F:List ag} {x:Operand} {xT yT ty e:TypeId} {d:Nat} {pos:String} {dV:Array Edge} {g:Option (Nat×Bool)}
theorem s.s2b {s:ByteArray}(hx:ev L x=some (.string s))(h1:P.underlying xT=some .string)(h2:P.underlying yT=some (.slice e))(h3:P.underlying e=some (.int .u8))(hlen:s.size<=1000000)(hd:Nat.blt d n=true) :
 Stp P n we X L B F ⟨some d,.convert xT yT x,ty,pos,dV,g⟩ (fun z:Value=>(d,z)::L) (fun _=>B) (fun z=>ag.ls z (s.data.toList:List UInt8)::F):=by
 intro K Q' a w ha hw hK
 have h:=Lib.run_convert_string_bytes (P:=P) w xT yT e s h1 h2 h3
 unfold Oper.wp
 have hrun:(execOp a.eval ⟨some d,.convert xT yT x,ty,pos,dV,g⟩).run P w = .ok (.value (.slice (some ⟨w.heap.size,0,none⟩) s.size (grownCap w s.size 0 e))) (Lib.bytesWorld w e s):=by
  simp [execOp,ha.ev hx,h]
 rw [hrun,Oper.upon_value]
 have hsz:=Lib.bytesWorld_size w e s
 have hl:s.data.toList.length=s.size:=eH
 have hup:np [] w (Lib.bytesWorld w e s):=⟨rfl,rfl,rfl,ae,fun k hk _=>Lib.bytesWorld_at_old w e s k hk⟩
 have hw2:=hw.grow hup
 refine hK _ _ _ (ha.put d _ hd) (hw2.fact (r:=ag.ls _ (s.data.toList:List UInt8)) ?_ fun k hk=>?_)
 .
  refine ⟨some ⟨w.heap.size,0,none⟩,grownCap w s.size 0 e,eH,by grind [grownCap_ge],grownCap_le_maxLen w s.size 0 e (by grind [maxLen]),fun i b hb=>?_⟩
  have hi:i<s.size:=az
  refine ⟨w.heap.size,0,rfl,ae,fun j u hu=>?_⟩
  have hu' : [Value.int .u8 (b.toNat:Int)][j]? = some u:=hu
  simp_all [Enc.k,List.getElem?_eq_some_iff,Lib.bytesWorld_cell,List.getD_eq_getElem?_getD]
 have hkk:k=w.heap.size:=by
  grind [ag.ls,eB]
 subst hkk
 exact ⟨ae,fun hb=>by have:=(hw.own _ hb).1;omega⟩
theorem qP (m:Int):(bQ m).cells=[bQ m].toArray:=by unfold bQ;split <;> rfl
theorem wh (m:Int):([bQ m].all fun x=>x.oneCell')=true:=by unfold bQ;split <;> rfl
theorem Fr.yield {a:Act}{ps:Array Tmp}{t:Tmp}{xv:Value}{T:Array Value}(ha:Fr n L a)(hT:T=a.tmps)(hp:ps = #[t])(hd:Nat.blt t n=true) :
 Fr n ((t,xv)::L) { tmps:=(ps.zip #[xv]).foldl (fun tmps (t,a)=>tmps.setIfInBounds t a) T,defers:=[]}:=by
 have h:=ha.put t xv hd
 have e:a.put (some t) xv = { tmps:=(ps.zip #[xv]).foldl (fun tmps (t,a)=>tmps.setIfInBounds t a) T,defers:=[]}:=by
  subst hp;subst hT
  have:=ha.defers
  simp_all [Act.put]
 grind
end
end
end Go.Proofs.YtnmpibjlnninjaaGreatDoor
