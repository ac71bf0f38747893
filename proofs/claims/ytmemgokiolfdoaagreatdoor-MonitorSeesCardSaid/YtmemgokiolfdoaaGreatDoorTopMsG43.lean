/- A part of the proof. -/
import Derived.Test.YtmemgokiolfdoaaGreatDoorTopMsG40
import Derived.Test.YtmemgokiolfdoaaGreatDoorTopMsG41
import Derived.Test.YtmemgokiolfdoaaGreatDoorTopMsG42
set_option maxRecDepth 100000
set_option maxHeartbeats 1000000
set_option linter.unusedSimpArgs false
set_option linter.unusedVariables false
namespace Go.Proofs.YtmemgokiolfdoaaGreatDoor
open Go Go.Fw Go.Proofs.Tryz
attribute [local irreducible] SN.tagN Sha.tagged Xm.root Wo.opn qCO qBX qBH
abbrev ALI:xA:= [97,108,105,99,101]
theorem qXe:Tn.nat (Sha.tagged 11 [ALI])= [194,62,241,123,249,6,95,160,217,123,123,112,137,162,65,74]:=by
 rw [show Tn.nat (Sha.tagged 11 [ALI])=SN.tagN 11 [ALI.map UInt8.toNat] from(SN.tagN_eq 11 [ALI] xC).symm]
 decide+kernel
theorem qXG:Tn.nat (qAM 0)= [105,72,128,237,61,5,50,182,223,75,24,94,147,245,19,39]:=by
 rw [show Tn.nat (qAM 0)=SN.tagN 15 [[0,0]] from(SN.tagN_eq 15 [[UInt8.ofNat (0/256),UInt8.ofNat 0]] xC).symm]
 decide+kernel
theorem qZQ{a b:xA}{x y:List Nat}(ha:Tn.nat a=x)(hb:Tn.nat b=y)(h:x≠y):a≠b:=λe=>h (by rw [←ha,←hb,e])
theorem plNA:qAM 0≠Sha.tagged 11 [ALI]:=qZQ qXG qXe xC
def rtN(n:Nat):List Nat:=([[2,125,178,249,55,105,152,37,172,19,169,25,194,138,67,152],[213,120,234,230,77,228,239,112,195,29,147,246,251,32,69,134],[116,75,226,174,130,158,160,6,49,46,88,105,23,123,176,82],[85,28,181,100,253,134,151,203,180,141,254,165,107,16,14,222]]:List (List Nat)).getD n []
theorem qVm: ∀n,n≤3→Tn.nat (Xm.root (OWS n) 0)=rtN n:=λn hn=>by
 match n,hn with
 |0,_=>exact qY5
 |1,_=>exact qY4
 |2,_=>exact qY3
 |3,_=>exact qY2
theorem qY1: ∀a,a≤3→ ∀b,b≤3→a≠b→rtN a≠rtN b:=by decide
def kyO(n:Nat):Pk:=(Wo.opn (OWS n),Xm.root (OWS n) 0,((0:Nat):Int))
theorem qXt{a b:Nat}(ha:a≤3)(hb:b≤3)(h:kyO a=kyO b):a=b:=Decidable.byContradiction λhne=>qY1 a ha b hb hne (by
 have:Xm.root (OWS a) 0=Xm.root (OWS b) 0:=congrArg (λp:Pk=>p.2.1) h
 rw [←qVm a ha,←qVm b hb,this])
def qDR(v n:Nat)(p:xA):En:=⟨v,Wo.opn (OWS n),Xm.root (OWS n) 0,((0:Nat):Int),p⟩
theorem qHV{v n:Nat}{p:xA}(h1:1≤v)(h2:v≤1000)(hp:p.length=16):qBX v (Wo.opn (OWS n)) (Xm.root (OWS n) 0) ((0:Nat):Int) p=0:=qV9 h1 xB xC hp
theorem qJh{v n:Nat}{p:xA}(h1:1≤v)(h2:v≤1000)(hp:p.length=16):(qDR v n p).val.length=16:=qSA (qHV h1 h2 hp)
theorem qR8{v n:Nat}{p:xA}(h2:v≤1000)(hp:p.length=16):(qDR v n p).good:=⟨by show v<_;omega,by show(Wo.opn (OWS n)).length≤_;rw [Wo.opn_length];decide,by show(Xm.root (OWS n) 0).length≤_;rw [show(Xm.root (OWS n) 0).length=16 from Mk.root_16 _ _];decide,by show p.length≤_;omega⟩
def qJA(l:List En):xA:=if l.length=0 then qAk else(l.getD (l.length-1) qAz).val
def nxE(l:List En)(n:Nat):En:=qDR (l.length+1) n (qJA l)
theorem qKY(l:List En)(x:En):qJA (l++ [x])=x.val:=by
 unfold qJA
 rw [if_neg (by rw [jA];exact Nat.succ_ne_zero _),qCt]
structure TD (t:List Nat) (l:List En):Prop where
 len:l.length=t.length
 t10:t.length≤10
 sm: ∀n∈t,n≤3
 at_: ∀i,i<t.length→l.getD i qAz=qDR (i+1) (t.getD i 0) (qJA (l.take i))
 p16: ∀i,i≤t.length→(qJA (l.take i)).length=16
theorem TD.nil:TD [] []:=⟨rfl,xC,(λn h=>by cases h),(λi h=>absurd h (jy i)),λi _=>by rw [List.take_nil];rfl⟩
theorem TD.prv{t:List Nat}{l:List En}(h:TD t l):(qJA l).length=16:=by
 have:=h.p16 t.length (jJ _)
 rwa [←h.len,jm] at this
theorem TD.nx{t:List Nat}{l:List En}(h:TD t l)(n:Nat):qBX (l.length+1) (Wo.opn (OWS n)) (Xm.root (OWS n) 0) ((0:Nat):Int) (qJA l)=0:=qHV xB (by have:=h.t10;have:=h.len;omega) h.prv
theorem TD.snoc{t:List Nat}{l:List En}(h:TD t l){n:Nat}(hn:n≤3)(ht:t.length<10):TD (t++ [n]) (l++ [nxE l n]) where
  len:=by rw [jA,jA,h.len];rfl
  t10:=by rw [jA,jH];omega
  sm:=λa ha=>by
    rcases List.mem_append.1 ha with ha|ha
    · exact h.sm a ha
    · rw [List.mem_singleton.1 ha];exact hn
  at_:=λi hi=>by
    rw [jA,jH] at hi
    have hl:=h.len
    by_cases hlt:i<t.length
    · rw [qCj _ _ _ xB,qCj _ _ _ hlt,za xB];exact h.at_ i hlt
    · obtain rfl:i=t.length:=by omega
      rw [qB7 _ _ _ hl.symm,qB7 _ _ _ rfl,List.take_left' hl,←hl];rfl
  p16:=λi hi=>by
    rw [jA,jH] at hi
    have hl:=h.len
    by_cases hle:i≤t.length
    · rw [za xB];exact h.p16 i hle
    · rw [jV (by rw [jA,jH];omega),qKY]
      exact qJh xB xB h.prv
theorem TD.get{t:List Nat}{l:List En}(h:TD t l){x:En}(hx:x∈l): ∃i,i<t.length∧x=qDR (i+1) (t.getD i 0) (qJA (l.take i)):=by
 obtain ⟨i,hi,rfl⟩:=zL hx
 have hi2:i<t.length:=h.len▸hi
 refine⟨i,hi2,?_⟩
 rw [←h.at_ i hi2,jB,jC hi];rfl
theorem TD.good{t:List Nat}{l:List En}(h:TD t l): ∀x∈l,x.good:=λx hx=>by
 obtain ⟨i,hi,rfl⟩:=h.get hx
 exact qR8 (by have:=h.t10;omega) (h.p16 i xB)
theorem TD.ver{t:List Nat}{l:List En}(h:TD t l): ∀x∈l,x.v≤9223372036854775807:=λx hx=>by
 obtain ⟨i,hi,rfl⟩:=h.get hx
 show i+1≤_;have:=h.t10;omega
theorem qNO{l:List En}{i:Nat}(h:i<l.length):qJA (l.take (i+1))=(l.getD i qAz).val:=by
 rw [jK h,qKY,jB,jC h];rfl
theorem TD.next{t:List Nat}{l:List En}(h:TD t l){i:Nat}(hi:i+1<t.length):(l.getD i qAz).next (l.getD (i+1) qAz)=0:=by
  have h10:=h.t10
  have hv:=h.p16 (i+1) xB
  rw [qNO (by rw [h.len];omega)] at hv
  refine qZO ?_ ?_ hv ?_
  · rw [h.at_ i xB];show i+1<_;omega
  · rw [h.at_ i xB,h.at_ (i+1) hi];rfl
  · rw [h.at_ (i+1) hi]
    show qJA (l.take (i+1))=_
    exact qNO (by rw [h.len];omega)
theorem qPI{l:List En}(h: ∀i,i+1<l.length→(l.getD i qAz).next (l.getD (i+1) qAz)=0): ∀k,k<l.length→En.chain (l.drop (l.length-1-k))=0:=by
 intro k
 induction k with
 |zero=>intro hk;exact qLS xB
 |succ k ih=>
  intro hk
  rw [qFv xB,h _ xB,if_neg (λe=>e rfl),show l.length-1-(k+1)+1=l.length-1-k by omega]
  exact ih xB
theorem TD.hist{t:List Nat}{l:List En}(h:TD t l)(h0:0<t.length):En.hist l=0:=by
 have hl:=h.len
 have hc:=qPI (λi hi=>h.next xB) (l.length-1) xB
 rw [jv,ze] at hc
 have e0:=h.at_ 0 h0
 rw [qD9 xB,if_neg (by rw [e0];exact λe=>e O),if_neg (by rw [e0];exact λe=>e O),hc]
theorem TD.last{t:List Nat}{l:List En}(h:TD t l)(h0:0<t.length):l=l.take (t.length-1)++ [qDR t.length (t.getD (t.length-1) 0) (qJA (l.take (t.length-1)))]∧l.getD (l.length-1) qAz=qDR t.length (t.getD (t.length-1) 0) (qJA (l.take (t.length-1))):=by
 have hl:=h.len
 have e:=h.at_ (t.length-1) xB
 rw [Nat.sub_add_cancel h0] at e
 refine⟨?_,by rw [hl];exact e⟩
 have e2:=jK (l:=l) (i:=t.length-1) xB
 have e3:l.take (t.length-1+1)=l:=jV xB
 rw [←e,jB,jC xB]
 exact e3.symm.trans e2
def qG7(ow:List Bool)(k:Nat):List Pk:=((List.range k).filter λn=>ow.getD n false).map kyO
theorem qMC{ow:List Bool}{k n:Nat}(hk:k≤4)(hn:n≤3):kyO n∈qG7 ow k↔n<k∧ow.getD n false=true:=by
  unfold qG7
  rw [zU]
  constructor
  · rintro⟨a,ha,e⟩
    rw [List.mem_filter,List.mem_range] at ha
    obtain rfl:=qXt xB hn e
    exact ha
  · exact λh=>⟨n,List.mem_filter.2 ⟨List.mem_range.2 h.1,h.2⟩,O⟩
theorem qUD{ow:List Bool}{v n:Nat}{p:xA}(hn:n≤3):qPU (qG7 ow 4) (qDR v n p)=ow.getD n false:=by
 unfold qPU
 rw [show((qDR v n p).o,(qDR v n p).r,(qDR v n p).h)=kyO n from rfl]
 cases e:ow.getD n false with
 |true=>exact decide_eq_true ((qMC (jJ 4) hn).2 ⟨xB,e⟩)
 |false=>exact decide_eq_false λh=>by have:=((qMC (jJ 4) hn).1 h).2;rw [e] at this;cases this
def qIz(ow:List Bool)(t:List Nat):Nat→List Int
 |0=> []
 |k+1=>if ow.getD (t.getD k 0) false=true then qIz ow t k else qIz ow t k++ [((k+1:Nat):Int)]
theorem qKF(ow:List Bool)(t:List Nat)(n:Nat): ∀k,k≤t.length→qIz ow (t++ [n]) k=qIz ow t k
 |0,_=>rfl
 |k+1,h=>by
  rw [qIz,qIz,qKF ow t n k xB,qCj _ _ _ xB]
def qLx(l:List En):List Int:=l.map λx=>((x.v:Nat):Int)
theorem qTT{ow:List Bool}{t:List Nat}{l:List En}(h:TD t l)(hs:qLx (qCU (qG7 ow 4) l)=qIz ow t t.length){n:Nat}(hn:n≤3):qLx (qCU (qG7 ow 4) (l++ [nxE l n]))=qIz ow (t++ [n]) (t++ [n]).length:=by
  rw [jA,jH,qIz,qKF ow t n _ (jJ _),qB7 _ _ _ rfl]
  unfold qCU qLx at hs⊢
  rw [jo,jO,hs]
  have e:=qUD (ow:=ow) (v:=l.length+1) (p:=qJA l) hn
  by_cases hc:ow.getD n false=true
  · rw [if_pos hc,List.filter_cons_of_neg (by rw [show qPU _ (nxE l n)=_ from e,hc];decide)]
    exact jR _
  · rw [if_neg hc,zx (by rw [show qPU _ (nxE l n)=_ from e];simpa using hc),←h.len];rfl
end Go.Proofs.YtmemgokiolfdoaaGreatDoor
namespace Go.Proofs.YtmemgokiolfdoaaGreatDoor
open Go Go.Fw Go.Proofs.Tryz
attribute [local irreducible] Sha.tagged Wo.pub Wo.publicOf Wo.signs Wo.ends Wo.digs Wo.walk Wo.opn Mk.root Mk.path Mk.climb Xm.root sgC sgP qBH qBX sgB normal qAM SN.tagN
theorem qWY(F m G:Hp)(hK:qAG F ⟨3,0,none⟩ (Sha.K.map W32))(hA:qAG F ⟨0,0,none⟩ qBT)(hT:qBv F)(hGF:Le G F)(x:SvR)(hS:Srv m G x)(s:xA)(hs2:s.length≤200)(hN:normal s=(s,0))(l0:List En)(k a:Nat)(p2:xA)(hk:k=l0.length+1)(hk9:k≤900)(hp2:p2.length=16)(n:Nat)(hnx:qBC (lbE x.nxt) s=(l0++ [(qDR k a p2)]))(A1:Option Addr)(c1:Nat)(hch:Sl F 1 A1 (sgC (OWS a) 0 (qEd s (k+1) (Wo.opn (OWS n)) (Xm.root (OWS n) 0) ((0:Nat):Int) ((qDR k a p2).val))).length c1 (qAH (sgC (OWS a) 0 (qEd s (k+1) (Wo.opn (OWS n)) (Xm.root (OWS n) 0) ((0:Nat):Int) ((qDR k a p2).val)))))(A2:Option Addr)(c2:Nat)(hpt:Sl F 1 A2 (sgP (OWS a) 0 0).length c2 (qAH (sgP (OWS a) 0 0)))(hno2:x.no.length<256):
    Ct prog 36 [Ptr x.gs,.agg #[Str (s),N64 (k+1),Str (Wo.opn (OWS n)),Str (Xm.root (OWS n) 0),I (0:Nat),Str ((qDR k a p2).val),I (0:Nat),.slice A1 (sgC (OWS a) 0 (qEd s (k+1) (Wo.opn (OWS n)) (Xm.root (OWS n) 0) ((0:Nat):Int) ((qDR k a p2).val))).length c1,.slice A2 (sgP (OWS a) 0 0).length c2]] [m,F] (λ_:Hp×SbR=>I (0:Nat)) (λy=>Srv y.1 G (x.e1 s (k+1) (Wo.opn (OWS n)) (Xm.root (OWS n) 0) ((0:Nat):Int) ((qDR k a p2).val) 0 (sgC (OWS a) 0 (qEd s (k+1) (Wo.opn (OWS n)) (Xm.root (OWS n) 0) ((0:Nat):Int) ((qDR k a p2).val))) (sgP (OWS a) 0 0) y.2)) (λy=> [y.1,F]):=by
  have hv:=qJh (n:=a) (p:=p2) (show 1≤k by omega) xB hp2
  have hE2:=qHV (n:=a) (p:=p2) (show 1≤k by omega) xB hp2
  have hE:=qHV (n:=n) (p:=(qDR k a p2).val) (show 1≤k+1 by omega) xB hv
  refine qP4 F m G hK hGF x hS s hs2 (k+1) (Wo.opn (OWS n)) (Xm.root (OWS n) 0) ((0:Nat):Int) _ hE 0 A1 _ c1 (sgC (OWS a) 0 (qEd s (k+1) (Wo.opn (OWS n)) (Xm.root (OWS n) 0) ((0:Nat):Int) ((qDR k a p2).val))) hch A2 _ c2 (sgP (OWS a) 0 0) hpt xC (qFX _ _ _) (by rw [qDy];decide) (qKJ _ _ _) (qKI _ xC) (by rw [qDy];decide) hno2 (by rw [hnx,jA,jH];omega) true (qDR k a p2) (qRh hnx xB) (λF' hF=>?_)
  have hj:=qMZ F' (hK.mono hF) (hA.mono hF) (hT.mono hF) s xB hN (k+1) (Wo.opn (OWS n)) (Xm.root (OWS n) 0) ((0:Nat):Int) _ hE 0 A1 _ c1 A2 _ c2 k (Wo.opn (OWS a)) (Xm.root (OWS a) 0) ((0:Nat):Int) p2 hE2 true (λF2 h2=>qMu F2 (hK.mono (hF.trans h2)) (OWS a) 0 0 _ A1 _ c1 (hch.mono (hF.trans h2)) A2 _ c2 (hpt.mono (hF.trans h2)) (by rw [qE6];decide) xC xC)
  have hn:((qDR k a p2)).next ⟨k+1,Wo.opn (OWS n),Xm.root (OWS n) 0,((0:Nat):Int),(qDR k a p2).val⟩=0:=qZO (show k<4294967295 by omega) O hv O
  rw [if_neg (λe=>e hn),if_pos rfl] at hj
  exact hj
theorem qTr(F ms G:Hp)(hK:qAG F ⟨3,0,none⟩ (Sha.K.map W32))(hA:qAG F ⟨0,0,none⟩ qBT)(hT:qBv F)(hGF:Le G F)(x:SvR)(hS:Srv ms G x)(gr:Nat)(vc vk vu:Value)(hw:qAG F ⟨gr,0,none⟩ [Ptr x.gs,vc,vk,vu])(s:xA)(hs2:s.length≤200)(hN:normal s=(s,0))(l0:List En)(k a:Nat)(p2:xA)(hk:k=l0.length+1)(hk9:k≤900)(hp2:p2.length=16)(n:Nat)(hn:n≤3)(ha:a≤3)(hno2:x.no.length<256)(hnx:qBC (lbE x.nxt) s=(l0++ [(qDR k a p2)]))(hnow:qBC (lbE x.now) s=(l0++ [(qDR k a p2)])):Ct prog 29 [Ptr gr,Str s,I (n:Nat),I (a:Nat)] [ms,F] (λ_:Hp×SbR=> .bool true) (λy=>Srv y.1 G (x.e1 s (k+1) (Wo.opn (OWS n)) (Xm.root (OWS n) 0) ((0:Nat):Int) ((qDR k a p2).val) 0 (sgC (OWS a) 0 (qEd s (k+1) (Wo.opn (OWS n)) (Xm.root (OWS n) 0) ((0:Nat):Int) ((qDR k a p2).val))) (sgP (OWS a) 0 0) y.2)) (λy=> [y.1,F]):=by
 have hLk:(l0++ [(qDR k a p2)]).length=k:=by rw [jA,jH];omega
 have hv:=qJh (n:=a) (p:=p2) (show 1≤k by omega) xB hp2
 have hE:=qHV (n:=n) (p:=(qDR k a p2).val) (show 1≤k+1 by omega) xB hv
 have hgl:(l0++ [(qDR k a p2)]).getD (k-1) qAz=(qDR k a p2):=by have h:=qCt l0 (qDR k a p2) qAz;rw [hLk] at h;exact h
 have ho16:=Wo.opn_length (OWS a)
 have hr16:(Xm.root (OWS a) 0).length=16:=Mk.root_16 _ _
 refine Ct.walk func29 O ntmps29 O (λw0 hw0=>?_)
 refine J.f λ_ j1=>J.b O<|J.c j1<|J.f λ_ j2=>J.b O<|J.g (qAB O O) O<|J.W 0 qLn qVe O O O O O<|J.g (qAI O O isAgg28 (m:=F) xD (hw.at (i:=0) O)) O<|J.b O<|J.q (qBb O O (λF' hF=>qGJ F' (hK.mo hF) x hS.i (hS.cells.mono (Fa hF)) (hS.tsl.mono (Fa hF)) (hS.tree.mono (hGF.trans (Fa hF))) (hS.p.nw.mono (hGF.trans (Fa hF))) (hS.p.nl.mono (hGF.trans (Fa hF))) s xB)) O ?_
 rintro r22 hr22
 have hro22:=hr22.ro
 rw [hnow,hLk] at hro22
 rw [hnow,hLk]
 refine J.p 3 O<|J.q (qAJ O qYk O) O λg9 _=>J.a7 (qAC (i:=4) (l:= [Str [],.slice none 0 0,.slice none 0 0,.bool false,Str [],Str []]) (vs:= [Str s,.slice r22.A k r22.c,.slice r22.bA (bsd x.kvL (Sha.tagged 11 [s]) 0 (r22.s-0)).length r22.bc,.bool (qAl x.kvL (Sha.tagged 11 [s]) r22.s),Str (qBk x.kvL (Sha.tagged 11 [s]) r22.s),Str (qBo x.kvL (Sha.tagged 11 [s]) r22.s)]) O O O O O qS4 O O) O O λ_ _=>J.b O<|J.c j2<|J.f λ_ j3=>J.b O<|J.q (qBb O O (λF' hF=>qCE F' (hK.mo hF) n xB)) O ?_
 rintro⟨g26,m26⟩ h26
 try dsimp only at h26
 refine J.q (qAZ O O (λF' hF=>qEw F' g26 (OWS n) 0 (h26.mono (Fa hF)))) O λg27 _=>J.g (qAL (places:= [(0,1),(1,3),(4,1)]) (r:= [N64 (1),Str (Wo.opn (OWS n)),Str (Xm.root (OWS n) 0),I (0:Nat),Str ([0,0,0,0,0,0,0,0,0,0,0,0,0,0,0,0])]) O O O qCA qDe (λ_=>xI) O) O<|J.b O<|J.q (qBb O O (λF' hF=>qCE F' (hK.mo hF) n xB)) O ?_
 rintro⟨g30,m30⟩ h30
 try dsimp only at h30
 refine J.q (qAJ O qDe O) O λg11 _=>J.a7 (qAC (i:=7) (l:= [.int .u64 0,Str [],Str [],I 0,Str []]) (vs:= [N64 (1),Str (Wo.opn (OWS n)),Str (Xm.root (OWS n) 0),I (0:Nat),Str (qAk)]) O O O O O qAj O O) O O λ_ _=>J.b O<|J.c j3<|J.k λ_ j4=>J.f λ_ j5=>J.W 1 qLy qLi O O O O O<|J.a6 4 qOD O O O O O<|J.g (qAO qCK O O) O<|J.b O<|J.c j5<|J.f λ_ j6=>J.b O<|J.g ((qA5 O O O).yes xB) O<|J.c j6<|J.c3 ?_
 refine J.H<|J.b O<|J.g ((qAR O O O xB).nat (k+1) xB) O<|J.g (qDK O O u3_ qEV xB) O<|J.W 1 qLy qLi O O O O O<|J.a6 4 qOD O O O O O<|J.b O<|J.g ((qA4 O O O xB).nat (k-1) xB) O<|J.g (qAF O O O qCK qAj hro22.sl xB) O<|J.g (qAP O O qBB qAj (m:=r22.m) xD (by have:=hro22.sl.elem (qCk (l:=(l0++ [(qDR k a p2)])) (k:=k-1) xB);rw [hgl] at this;exact this) O) O<|J.q (qAZ O O (λF' hF=>qEA F' (hK.mo hF) k (Wo.opn (OWS a)) (Xm.root (OWS a) 0) ((0:Nat):Int) p2 xB xB xB xB)) O λg45 _=>J.b O<|J.q (qBb O O (λF' hF=>qCE F' (hK.mo hF) a xB)) O ?_
 rintro⟨g47,m47⟩ h47
 try dsimp only at h47
 refine J.W 0 qCA qDs O O O O O<|J.a7 (qAW (i:=7) O O O O O qDs O xD) O O λ_ _=>J.W 4 qCA z9_ O O O O O<|J.a7 (qAW (i:=7) (l:= [N64 (k+1),Str (Wo.opn (OWS n)),Str (Xm.root (OWS n) 0),I (0:Nat),Str (qAk)]) (vs:= [Str ((qDR k a p2).val)]) O O O O O z9_ O xD) O O λ_ _=>J.b O<|J.c j4<|J.f λ_ j7=>J.p 2 O<|J.c0 7 qBB qAj O O O O O<|J.q (qBb O O (λF' hF=>qNN F' (hK.mo hF) g47 (OWS a) 0 (h47.mono (Fa hF)) (jf O) xC 0 xC s xB (k+1) (Wo.opn (OWS n)) (Xm.root (OWS n) 0) ((0:Nat):Int) ((qDR k a p2).val) hE)) O ?_
 rintro⟨⟨A54,c54,m54⟩,⟨B54,d54,n54⟩⟩ ⟨h54,k54⟩
 refine J.p 3 O<|J.q (qAJ O zeroValue108 O) O λg14 _=>J.a7 (qAC (i:=11) (l:= [Str [],.int .u64 0,Str [],Str [],I 0,Str [],I 0,.slice none 0 0,.slice none 0 0]) (vs:= [Str (s),N64 (k+1),Str (Wo.opn (OWS n)),Str (Xm.root (OWS n) 0),I (0:Nat),Str ((qDR k a p2).val),I (0:Nat),.slice A54 (sgC (OWS a) 0 (qEd s (k+1) (Wo.opn (OWS n)) (Xm.root (OWS n) 0) ((0:Nat):Int) ((qDR k a p2).val))).length c54,.slice B54 (sgP (OWS a) 0 0).length d54]) O O O O O qHm O O) O O λ_ _=>J.b O<|J.c j7<|J.k λ_ j8=>J.b1 [F,blk g14 [Str (s),N64 (k+1),Str (Wo.opn (OWS n)),Str (Xm.root (OWS n) 0),I (0:Nat),Str ((qDR k a p2).val),I (0:Nat),.slice A54 (sgC (OWS a) 0 (qEd s (k+1) (Wo.opn (OWS n)) (Xm.root (OWS n) 0) ((0:Nat):Int) ((qDR k a p2).val))).length c54,.slice B54 (sgP (OWS a) 0 0).length d54] 108] [] (.y 0 (.y 1 (.y 2 (.y 3 (.y 4 (.y 5 (.y 6 (.y 7 (.e 8 (.y 9 (.y 10 (.y 11 .nil)))))))))))) Tryz.wide xF xD ?_
 refine J.L ?_
 refine J.j O ((qAe O O O).yes xC) O O<|J.L ?_
 refine J.b8 O (qA2 O O) O O<|J.b8 O (qAB O O) O O<|J.b8 O (qAA O O qLn O qVe O) O O<|J.b8 O (qAI O O isAgg28 (m:=F) xD (hw.at (i:=0) O)) O O<|J.b8 O (qAU 1 O O O isAgg108 qHm O) O O<|J.e0 O (qAK O O ent (Ct.use1 0 O (λF' hF=>qWY F' ms G (hK.mo hF) (hA.mono (Fa hF)) (hT.mono (Fa hF)) (hGF.trans (Fa hF)) x hS s hs2 hN l0 k a p2 hk hk9 hp2 n hnx A54 c54 (h54.sl.mono (Fa hF)) B54 d54 (k54.sl.mono (Fa hF)) hno2))) (Wan.is O O O O O) O O xD ?_
 rintro⟨ms65,y65⟩ hS65
 try dsimp only at hS65
 refine J.b8 O ((qAe O O O).yes xC) O O<|J.d2 ?_
 refine J.b7 ?_
 refine J.b0<|J.u (J.D j8 ?_)
 exact J.A<|J.E hw0 O (ms65,y65) O hS65 [0,1] O xC
end Go.Proofs.YtmemgokiolfdoaaGreatDoor