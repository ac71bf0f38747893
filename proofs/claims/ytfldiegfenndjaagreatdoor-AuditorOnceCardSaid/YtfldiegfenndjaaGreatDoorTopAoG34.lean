/- A part of the proof. -/
import Derived.Test.YtfldiegfenndjaaGreatDoorTopAoG30
import Derived.Test.YtfldiegfenndjaaGreatDoorTopAoG33
import Derived.Test.YtfldiegfenndjaaGreatDoorTopAoG8
import Derived.Test.YtfldiegfenndjaaGreatDoorTopAoG26
set_option linter.unusedSimpArgs false
set_option linter.unusedVariables false
namespace Go.Proofs.YtfldiegfenndjaaGreatDoor
open Go Go.Fw Go.Proofs.Tryz
set_option maxRecDepth 100000
set_option maxHeartbeats 1000000
theorem qIN{S T:List UInt8}(hT:T.length=64)(hS:S.length=64){m n:Nat}(h:m≤n):qGo (torn S m) T n=torn T n:=by
  apply zD
  intro i
  unfold qGo torn
  by_cases hi:64≤i
  · rw [ji (by simp only [jA,jE,jL,jG];omega),ji (by simp only [jA,jE,jG];omega)]
  · simp only [zi,js,jt,zE,jE,jA,jL,jG,hT,hS]
    repeat' split
    all_goals first|rfl|omega
theorem qMy{S T:List UInt8}(hT:T.length=64)(hS:S.length=64):qGo S T 64=T:=by
 unfold qGo
 rw [jV (by omega),jq (by omega),jS]
def qRB(K:List UInt8):Nat:=min (K.getD 0 0).toNat 64
def Kpt(K keep:List UInt8):Prop:=keep= []∨keep=K
theorem qMk{d:Dk}{p:Nat}{t:Nat→List UInt8}{T:List UInt8}{K:List UInt8}(hk:Kpt K d.keep)(hT:t 0=T)(h64:T.length=64)(ho:d.off=false)(hw:d.wait= [])(hp:p<d.last.length)(hok:d.ok):
    ((qBM d p t 1).2=0∧(qBM d p t 1).1.off=false∧(qBM d p t 1).1.last=d.last.set p T)∨((qBM d p t 1).2=8∧(qBM d p t 1).1.off=true∧((qBM d p t 1).1.last=d.last∨(qBM d p t 1).1.last=d.last.set p (qGo (d.last.getD p []) T (qRB K)))):=by
  have hold:(d.last.getD p []).length=64:=qIy hok.l64 hp
  have h0:d.ready ((p+0:Nat):Int)=0:=qBR ho (i:=p+0) (by omega)
  have hfull:qHA T=T:=by unfold qHA;rw [h64];exact jS _
  have e1:qCH d p t 1=(d.write ((p+0:Nat):Int) T,d.wErr ((p+0:Nat):Int) T):=by rw [←hT];exact qB1 rfl
  by_cases hb:d.burns
  · have hwe:d.wErr ((p+0:Nat):Int) T=8:=by unfold Dk.wErr;rw [if_neg (by rw [h0];decide),if_neg (by omega),if_pos hb]
    have hwr:d.write ((p+0:Nat):Int) T=d.burn:=by unfold Dk.write;rw [if_neg (by rw [h0];decide),if_neg (by omega),if_pos hb]
    have e:qBM d p t 1=(d.burn,8):=by unfold qBM;rw [e1,hwe,hwr];rfl
    have hbn:d.burn={d with fuse:=d.fuse-1}.cut d.keep:=by unfold Dk.burn;rw [if_pos hb.1,if_pos hb.2]
    refine Or.inr ⟨by rw [e],by rw [e,hbn];rfl,Or.inl ?_⟩
    rw [e,hbn]
    show qDE d.last d.wait d.keep d.wait.length=d.last
    rw [hw];rfl
  · have hwr:=qFN h0 (s:=T) (by omega) hb
    have hbl:=qBe hb
    have hbk:=qEa d
    rw [hwr.1,hwr.2,hfull] at e1
    obtain ⟨D,hD⟩: ∃D,D=({d.burn with wait:=d.burn.wait++ [(((p+0:Nat):Int).toNat,T)]}:Dk):=⟨_,rfl⟩
    rw [←hD] at e1
    have hDl:D.last=d.last:=by rw [hD];exact hbl.1
    have hDw:D.wait= [(p,T)]:=by rw [hD];show d.burn.wait++ [(((p+0:Nat):Int).toNat,T)]=_;rw [hbl.2.1,hw];rfl
    have hDo:D.off=false:=by rw [hD];show d.burn.off=false;rw [hbl.2.2];exact ho
    have hDk:D.keep=d.keep:=by rw [hD];exact hbk.1
    have e:qBM d p t 1=(D.sync,D.sErr):=by unfold qBM;rw [e1];rfl
    have h3:D.ready 0=0:=qBR hDo (i:=0) (by rw [hDl];omega)
    by_cases hb2:D.burns
    · have hse:D.sErr=8:=by unfold Dk.sErr;rw [if_neg (by rw [h3];decide),if_pos hb2]
      have hsy:D.sync=D.burn:=by unfold Dk.sync;rw [if_neg (by rw [h3];decide),if_pos hb2]
      have hbn:D.burn={D with fuse:=D.fuse-1}.cut D.keep:=by unfold Dk.burn;rw [if_pos hb2.1,if_pos hb2.2]
      refine Or.inr ⟨by rw [e];exact hse,by rw [e];show D.sync.off=_;rw [hsy,hbn];rfl,?_⟩
      rw [e]
      show D.sync.last=_∨D.sync.last=_
      rw [hsy,hbn]
      show qDE D.last D.wait D.keep D.wait.length=_∨qDE D.last D.wait D.keep D.wait.length=_
      rw [hDw,hDl,hDk]
      show qDE d.last [(p,T)] d.keep 1=_∨qDE d.last [(p,T)] d.keep 1=_
      simp only [qDE]
      split
      · rename_i hkl
        rcases hk with hk|hk
        · rw [hk] at hkl;exact absurd hkl (Nat.lt_irrefl 0)
        · rw [hk];exact Or.inr rfl
      · exact Or.inl rfl
    · have hse:D.sErr=0:=by unfold Dk.sErr;rw [if_neg (by rw [h3];decide),if_neg hb2]
      have hsy:D.sync={D.burn with last:=qCb D.burn.last D.burn.wait D.burn.wait.length,wait:= []}:=by unfold Dk.sync;rw [if_neg (by rw [h3];decide),if_neg hb2]
      have hbl2:=qBe hb2
      refine Or.inl ⟨by rw [e];exact hse,by rw [e];show D.sync.off=_;rw [hsy];exact hbl2.2.2.trans hDo,?_⟩
      rw [e]
      show D.sync.last=_
      rw [hsy]
      show qCb D.burn.last D.burn.wait D.burn.wait.length=_
      rw [hbl2.1,hbl2.2.1,hDw,hDl]
      show d.last.set p (qGo (d.last.getD p []) T 64)=_
      rw [qMy h64 hold]
abbrev Mks:=List (Nat×Nat)
structure OM (K:List UInt8) (ms:Mks) (O:Nat→List UInt8):Prop where
 good: ∀p∈ms,p.1<2∧p.2<3
 two:ms.length≤2
 done: ∀j,j<ms.length→O (10+j)=txm j (ms.getD j (0,0)).1 (ms.getD j (0,0)).2
 next:ms.length<2→O (10+ms.length)=zS∨ ∃b i,b<2∧i<3∧O (10+ms.length)=torn (txm ms.length b i) (qRB K)∧torn (txm ms.length b i) (qRB K)≠txm ms.length b i
 rest: ∀j,ms.length<j→j<30→O (10+j)=zS
 far: ∀j,2≤j→j<30→O (10+j)=zS
def XM(ms:Mks):Hlf:=⟨10,if ms= [] then 0 else 1,ms.map λp=>mkL p.1 p.2,ms.length⟩
structure AD (K:List UInt8) (d:Dk) (v:Nat) (ms:Mks):Prop where
 dg: ∃O,DG 2 40 O d v∧OM K ms O
 kp:Kpt K d.keep
 once:(ms.map (·.1)).Nodup
theorem AD.new(K:List UInt8):AD K (Dk.new 40) 0 []:=
 ⟨⟨λ_=>zS,DG.new (by decide) (by decide) (by decide),⟨λ_ h=>absurd h (j7),by decide,λ_ h=>absurd h (jz _),λ_=>Or.inl rfl,λ_ _ _=>rfl,λ_ _ _=>rfl⟩⟩,Or.inl rfl,List.nodup_nil⟩
theorem AD.fuse{K:List UInt8}{d:Dk}{v:Nat}{ms:Mks}(h:AD K d v ms)(m:Int)(hm: -9223372036854775808≤m∧m≤9223372036854775807):AD K (d.setFuse m K) v ms:=by
 obtain ⟨O,h1,h2⟩:=h.dg
 exact⟨⟨O,h1.fuse m hm K,h2⟩,Or.inr rfl,h.once⟩
theorem AD.cutStart{K:List UInt8}{d:Dk}{v:Nat}{ms:Mks}(h:AD K d v ms):AD K (d.cut []).start v ms:=by
 obtain ⟨O,h1,h2⟩:=h.dg
 exact⟨⟨O,h1.cutStart [],h2⟩,h.kp,h.once⟩
theorem qRH(ms:Mks):(XM ms).R.length=ms.length:=jK ..
theorem XM_T(ms:Mks):(XM ms).t.toNat<2^(8*4):=by unfold XM;dsimp only;split<;>decide
theorem qRG(ms:Mks):qHo (XM ms).t=1:=by unfold XM;dsimp only;split<;>rfl
theorem qUO(ms:Mks)(b i:Nat):qFH (XM ms) (mkL b i)=XM (ms++ [(b,i)]):=by
 unfold qFH
 rw [qRG,qAv (qPo b i)]
 unfold XM
 dsimp only
 rw [if_neg (by simp),jM,jA];rfl
theorem OM.snoc{K:List UInt8}{ms:Mks}{O O':Nat→List UInt8}(h:OM K ms O)(h2:ms.length<2){b i:Nat}(hb:b<2)(hi:i<3)(hO: ∀j,O' j=if j=10+ms.length then txm ms.length b i else O j):OM K (ms++ [(b,i)]) O':=by
  have hl:(ms++ [(b,i)]).length=ms.length+1:=by rw [jA];rfl
  refine⟨λp hp=>?_,by omega,λj hj=>?_,λ_=>?_,λj h1 h3=>?_,λj h1 h3=>?_⟩
  · rcases List.mem_append.1 hp with h1|h1
    · exact h.good p h1
    · rw [List.mem_singleton.1 h1];exact⟨hb,hi⟩
  · rw [hO]
    by_cases e:j=ms.length
    · subst e
      rw [if_pos rfl,jB,jb (jJ _),zh];rfl
    · rw [if_neg (by omega),h.done j (by omega),jB,jB,jY (by omega)]
  · left
    rw [hO,if_neg (by omega),hl]
    exact h.rest _ (by omega) (by omega)
  · rw [hO,if_neg (by omega)];exact h.rest j (by omega) h3
  · rw [hO,if_neg (by omega)];exact h.far j h1 h3
theorem OM.torn{K:List UInt8}{ms:Mks}{O O':Nat→List UInt8}(h:OM K ms O)(h2:ms.length<2){b i:Nat}(hb:b<2)(hi:i<3)(hne:torn (txm ms.length b i) (qRB K)≠txm ms.length b i)(hO: ∀j,O' j=if j=10+ms.length then torn (txm ms.length b i) (qRB K) else O j):OM K ms O':=by
 refine⟨h.good,h.two,λj hj=>?_,λ_=>Or.inr ⟨b,i,hb,hi,?_,hne⟩,λj h1 h3=>?_,λj h1 h3=>?_⟩
 · rw [hO,if_neg (by omega)];exact h.done j hj
 · rw [hO,if_pos rfl]
 · rw [hO,if_neg (by omega)];exact h.rest j h1 h3
 · rw [hO,if_neg (by omega)];exact h.far j h1 h3
theorem AD.put{K:List UInt8}{d:Dk}{v:Nat}{ms:Mks}(h:AD K d v ms)(h2:ms.length<2)(ho:d.off=false){b i:Nat}(hb:b<2)(hi:i<3)(hn:b∉ms.map (·.1)):
    ((qAt d (XM ms) (mkL b i)).2=0→(qAt d (XM ms) (mkL b i)).1.off=false∧AD K (qAt d (XM ms) (mkL b i)).1 v (ms++ [(b,i)]))∧((qAt d (XM ms) (mkL b i)).2≠0→(qAt d (XM ms) (mkL b i)).2=8∧(qAt d (XM ms) (mkL b i)).1.off=true∧(AD K (qAt d (XM ms) (mkL b i)).1 v ms∨AD K (qAt d (XM ms) (mkL b i)).1 v (ms++ [(b,i)])))∧(qAt d (XM ms) (mkL b i)).1.keep=d.keep:=by
  obtain ⟨O,hg,hm⟩:=h.dg
  have hT:(prt (qHo (XM ms).t) (UInt64.ofNat (XM ms).R.length) (mkL b i) 1 0).text=txm ms.length b i:=by rw [qRG,qRH];rfl
  have h64:(txm ms.length b i).length=64:=qJe (by omega)
  have hp:(XM ms).at_+(XM ms).e=10+ms.length:=rfl
  have hlen:=hg.len
  have hon:(ms++ [(b,i)]).map (·.1)=ms.map (·.1)++ [b]:=jM
  have hnd:((ms++ [(b,i)]).map (·.1)).Nodup:=by
    rw [hon]
    exact List.nodup_append.2 ⟨h.once,List.nodup_cons.2 ⟨j7,List.nodup_nil⟩,λx hx y hy=>by rw [List.mem_singleton.1 hy];exact λe=>hn (e▸hx)⟩
  unfold qAt
  rw [qAv (qPo b i),hp]
  have hr:=qIG (d:=d) (p:=10+ms.length) (t:=λj=>(prt (qHo (XM ms).t) (UInt64.ofNat (XM ms).R.length) (mkL b i) 1 j).text) (by rw [hT];exact h64) ho hg.wait (by omega) hg.ok
  have hwk:=qMl hg.ok (10+ms.length) (λj=>(prt (qHo (XM ms).t) (UInt64.ofNat (XM ms).R.length) (mkL b i) 1 j).text) 1
  have hone:=qMk (d:=d) (p:=10+ms.length) (t:=λj=>(prt (qHo (XM ms).t) (UInt64.ofNat (XM ms).R.length) (mkL b i) 1 j).text) h.kp hT h64 ho hg.wait (by omega) hg.ok
  generalize qBM d (10+ms.length) (λj=>(prt (qHo (XM ms).t) (UInt64.ofNat (XM ms).R.length) (mkL b i) 1 j).text) 1=w at hr hwk hone⊢
  have hkp:Kpt K w.1.keep:=by rw [Kpt,hr.2];exact h.kp
  have hfull:w.1.last=d.last.set (10+ms.length) (txm ms.length b i)→AD K w.1 v (ms++ [(b,i)]):=λhl=>⟨⟨_,hg.other hwk hr.1 hl (by omega) (by omega),hm.snoc h2 hb hi λj=>rfl⟩,hkp,hnd⟩
  refine⟨λe=>?_,λe=>?_,hr.2⟩
  · rcases hone with ⟨_,h1,h3⟩|⟨h1,_,_⟩
    · exact⟨h1,hfull h3⟩
    · rw [e] at h1;exact absurd h1 (by decide)
  · rcases hone with ⟨h1,_,_⟩|⟨h1,h3,h4⟩
    · exact absurd h1 e
    · refine⟨h1,h3,?_⟩
      rcases h4 with h4|h4
      · refine Or.inl ⟨⟨O,⟨hwk,hr.1,by rw [h4];exact hg.len,hg.fits,by rw [h4];exact hg.oth,by rw [h4];exact hg.done,by rw [h4];exact hg.rest⟩,hm⟩,hkp,h.once⟩
      · have ht:qGo (d.last.getD (10+ms.length) []) (txm ms.length b i) (qRB K)=torn (txm ms.length b i) (qRB K):=by
          rw [hg.oth (10+ms.length) (by omega) (by omega)]
          rcases hm.next h2 with h5|⟨b',i',_,_,h5,_⟩
          · rw [h5,←qFj (txm ms.length b i)];exact qIN h64 h64 (jF _)
          · rw [h5];exact qIN h64 (qJe (by omega)) (jJ _)
        rw [ht] at h4
        by_cases hw:torn (txm ms.length b i) (qRB K)=txm ms.length b i
        · rw [hw] at h4;exact Or.inr (hfull h4)
        · exact Or.inl ⟨⟨_,hg.other hwk hr.1 h4 (by omega) (by omega),hm.torn h2 hb hi hw λj=>rfl⟩,hkp,h.once⟩
theorem OM.no{K:List UInt8}{ms:Mks}{O:Nat→List UInt8}(h:OM K ms O):qFE (O (10+ms.length)):=by
  by_cases h2:ms.length<2
  · rcases h.next h2 with e|⟨b,i,hb,hi,e,hne⟩
    · rw [e];exact qOz
    · rw [e];exact qO5 h2 hb hi hne
  · have:=h.two
    rw [h.far ms.length (by omega) (by omega)];exact qOz
theorem qOo{tn:UInt64}: ∀(S:List (List UInt8)) (nr j:Nat),j<S.length→(Txs tn nr S)[j]?=some (T1 tn (nr+j) (S.getD j []))
 | [],_,_,h=>absurd h (jz _)
 |s::r,nr,0,_=>rfl
 |s::r,nr,j+1,h=>by
  rw [Txs,z6,qOo r (nr+1) j (by simpa using h),show nr+1+j=nr+(j+1) by omega];rfl
theorem AD.half{K:List UInt8}{d:Dk}{v:Nat}{ms:Mks}(h:AD K d v ms):hst d 10 15 2=XM ms:=by
  obtain ⟨O,hg,hm⟩:=h.dg
  have hO: ∀j,j<30→d.now (10+j)=O (10+j):=λj hj=>by rw [hg.now,hg.oth (10+j) (by omega) (by omega)]
  have hb:hlf d (10+15) 15=⟨10+15,0,[],0⟩:=qGC (qKh λt'=>qEJ (by
    rw [qCT (by decide),show 10+15+0=10+15 from rfl,hO 15 (by decide),hm.far 15 (by decide) (by decide)];exact qOz))
  have h2:=hm.two
  have ha:hlf d 10 15=XM ms:=by
    obtain ⟨J,hJ⟩: ∃J,J=(qDN d 10 15).drop ms.length:=⟨_,rfl⟩
    have e:qDN d 10 15=Txs 1 0 (ms.map λp=>mkL p.1 p.2)++J:=by
      rw [hJ]
      apply zD
      intro j
      by_cases hj:j<ms.length
      · rw [jY (by rw [qH8,jK];exact hj),qOo _ _ _ (by rw [jK];exact hj)]
        have:=qCT (d:=d) (at_:=10) (n:=15) (i:=j) (by omega)
        rw [jB] at this
        have hs:j<(qDN d 10 15).length:=by rw [qCS];omega
        rw [jC hs] at this⊢
        rw [show(qDN d 10 15)[j]=_ from this,hO j (by omega),hm.done j hj,jn]
        unfold txm
        rw [jB (l:=ms.map _),jN,jB,jC hj];rfl
      · rw [jb (by rw [qH8,jK];omega),qH8,jK,jt,show ms.length+(j-ms.length)=j by omega]
    have hr:=qJm (tn:=1) (by decide) (by decide) (ms.map λp=>mkL p.1 p.2) 0 [] 0 J (λs hs=>by
      obtain ⟨p,_,rfl⟩:=List.mem_map.1 hs
      exact qPo _ _) (by rw [jK];show 0+_≤_;omega) (λh=>absurd h (by decide)) (λt'=>qEJ (by
        rw [hJ,jB,jt,zO,←jB,qCT (by omega),hO _ (by omega)]
        exact hm.no))
    rw [jH,←e] at hr
    rw [qGC hr]
    unfold XM
    rw [jK,jp,jn]
    congr 1
    by_cases h0:ms= []
    · subst h0;rfl
    · rw [if_neg h0,if_neg (by simpa using h0)]
  show(if 0<(hlf d (10+15) 15).R.length∧((hlf d 10 15).R.length=0∨(hlf d 10 15).t.toNat<(hlf d (10+15) 15).t.toNat) then hlf d (10+15) 15 else hlf d 10 15)=_
  rw [hb,ha]
  exact if_neg (λh=>absurd h.1 (Nat.lt_irrefl 0))
theorem ent52:qAE prog 52:=qAE.of func52 rfl (by kernel_rfl)
structure AoR where
 gk:Nat
 kk:Hp
 gb:Nat
 Ab:Option Addr
 cb:Nat
 mb:Hp
 gs:Nat
 gq:Nat
 Aq:Option Addr
 cq:Nat
 mq:Hp
 gm:Nat
 ga:Nat
structure AoP (seed:List UInt8) (kh f0 v:Nat) (X2:Hlf) (r:AoR):Prop where
 hk:qGR r.kk r.gk seed kh
 hb:Row r.mb 9 1 r.Ab (XG f0 v).R.length r.cb (qAH (XG f0 v).R)
 hq:Row r.mq 9 1 r.Aq X2.R.length r.cq (qAH X2.R)
theorem qQT(F:Hp)(hK:KF F)(gd:Nat)(d:Dk)(f0 n v:Nat)(O:Nat→List UInt8)(h:DG f0 n O d v)(h8:v≤8)(ho:d.off=false)(hn:n≤1024)(hf:f0≤1000)(A:Option Addr)(c:Nat)(B:Option Addr)(e:Nat)(C:Option Addr)(f:Nat)(hc:qAP F ⟨gd,0,none⟩ (d.cells A c B e C f))(hL:Sl F 1 A d.last.length c (qAH d.last))(hW:Sl F 2 B d.wait.length e (qCC d.wait))(seed:List UInt8)(hsd:seed.length≤1048576)(kh:Nat)(h6:kh≤6)(cn:Nat)(hcn:16≤cn)(hfc:f0+cn≤n)(X2:Hlf)(hX2:hst d (f0+8) ((cn-8)/2) 2=X2)(h0:X2.R= []):Ct prog 17 [Ptr gd,I ((f0:Nat):Int),I ((cn:Nat):Int),Str seed,I ((kh:Nat):Int)] [F] (λr:AoR=> .tuple #[Ptr r.ga,I ((0:Nat):Int)]) (AoP seed kh f0 v X2) (λr=> [F,r.kk,blk r.gb (bkC gd f0 (8/2) (XG f0 v) r.Ab r.cb false) 223,r.mb,blk r.gs [Ptr r.gk,Ptr r.gb,I ((v:Nat):Int)] 216,blk r.gq (bkC gd (f0+8) ((cn-8)/2) X2 r.Aq r.cq false) 223,r.mq,qAM r.gm (.map #[] 0),blk r.ga [Ptr r.gs,I ((2^kh:Nat):Int),Ptr r.gq,.map (some r.gm)] 145]):=by
 have hp64:=Xm.pow_le kh h6
 have hfit8:=h.fits
 have hlen:=h.len
 have hwl:=qEx h
 have h0l:X2.R.length=0:=by rw [h0];rfl
 refine Ct.walk func17 rfl ntmps17 rfl (λw0 hw0=>?_)
 change J _ [(0,_),(1,_),(2,_),(3,_),(4,_)] _ _ _
 refine J.g λK1 hK1=>J.j 2 V<|J.c hK1<|J.a0 0 1 2 3 4 ?_
 refine J.g λK2 hK2=>J.j 3 V<|J.f ((qDq V V V).nat (8) (by omega)) V<|J.j 2 V<|J.q (qAB V V ent52 (Ct.use (new:=λx:(Nat×Hp)×(Nat×Option Addr×Nat×Hp)×Nat=> [x.1.2,blk x.2.1.1 (bkC gd f0 (8/2) (XG f0 v) x.2.1.2.1 x.2.1.2.2.1 false) 223,x.2.1.2.2.2,blk x.2.2 [Ptr x.1.1,Ptr x.2.1.1,I ((v:Nat):Int)] 216]) (λF' hF=>qQi F' (hK.mo hF) gd d f0 n v O h h8 ho seed hsd kh h6 A c B e C f (hc.mono (hF F (by simp))) (hL.mono (hF F (by simp))) (hW.mono (hF F (by simp)))))) rfl ?_
 rintro⟨⟨gk,mk⟩,⟨gb,Ab,cb,mb⟩,gs⟩ ⟨hk,hb⟩
 change J _ ((28,.tuple #[Ptr gs,I ((0:Nat):Int)])::_) _ [F,mk,blk gb (bkC gd f0 (8/2) (XG f0 v) Ab cb false) 223,mb,blk gs [Ptr gk,Ptr gb,I ((v:Nat):Int)] 216] _
 dsimp only at hk hb
 refine J.j 5 V<|J.c hK2<|J.a0 0 1 2 12 13 ?_
 refine J.k λK3 hK3=>J.g λK4 hK4=>J.b V<|J.f ((qAU V V V).no (by decide)) V<|J.c hK4<|J.b5 0 1 2 12 13 32 ?_
 refine J.a5 ?_
 refine J.W hK3<|J.O 0 1 2 12 ?_
 refine J.g λK5 hK5=>J.j 2 V<|J.f ((qAQ V V V (by omega)).nat (f0+8) (by omega)) V<|J.b V<|J.f ((qAn V V V (by omega)).nat (cn-8) (by omega)) V<|J.q (qAB V V ent53 (Ct.use (new:=λx:Nat×Option Addr×Nat×Hp=> [blk x.1 (bkC gd (f0+8) ((cn-8)/2) X2 x.2.1 x.2.2.1 false) 223,x.2.2.2]) (λF' hF=>by have:=qFd F' (hK.mo hF) gd d h.ok A c B e C f (hc.mono (hF F (by simp))) (hL.mono (hF F (by simp))) (hW.mono (hF F (by simp))) (by omega) (f0+8) (cn-8) (by omega) (by omega) ho;rw [hX2] at this;exact this))) rfl ?_
 rintro⟨gq,Aq,cq,mq⟩ hq
 try dsimp only at hq
 change J _ ((40,.tuple #[Ptr gq,I ((0:Nat):Int)])::_) _ [_,_,_,_,_,blk gq (bkC gd (f0+8) ((cn-8)/2) X2 Aq cq false) 223,mq] _
 refine J.j 5 V<|J.c hK5<|J.G 12 13 14 ?_
 refine J.k λK6 hK6=>J.g λK7 hK7=>J.b V<|J.f ((qAU V V V).no (by decide)) V<|J.c hK7<|J.O 12 13 14 44 ?_
 refine J.a5 ?_
 refine J.W hK6<|J.E 12 14 ?_
 refine J.g λK8 hK8=>J.j 2 V<|J.q (qAB V V ent54 (Ct.use0 (λF' hF=>qJg F' gs gk gb v (qAP.blk0.mono (hF (blk gs [Ptr gk,Ptr gb,I ((v:Nat):Int)] 216) (by simp))) seed kh (hk.mono (hF mk (by simp))) hsd h6))) rfl λg48 _=>J.f (qKr (v:=I ((kh:Nat):Int)) rfl rfl qMZ rfl b3_ rfl) rfl<|J.f ((qFz (a:=1) (m:=kh) rfl rfl rfl ⟨by omega,by omega⟩).as (v':=I ((2^kh:Nat):Int)) (by rw [Nat.one_mul])) rfl<|J.b rfl<|J.q (qEq rfl) rfl ?_
 rintro g52 _
 change J _ ((52,.map (some g52))::_) _ [_,_,_,_,_,_,_,qAM g52 (.map #[] 0)] _
 refine J.f (qAK (l:= [(0,.tmp 46),(1,.tmp 50),(2,.tmp 51),(3,.tmp 52)]) (vs:= [Ptr gs,I ((2^kh:Nat):Int),Ptr gq,.map (some g52)]) (places:= [(0,1),(1,1),(2,1),(3,1)]) (r:= [Ptr gs,I ((2^kh:Nat):Int),Ptr gq,.map (some g52)]) V V V qEE zeroValue145 (λ_=>by kernel_rfl) V) V<|J.q (qAi (l:= [Ptr gs,I ((2^kh:Nat):Int),Ptr gq,.map (some g52)]) V V V) V λg54 _=>?_
 change J _ _ _ [_,_,_,_,_,_,_,_,blk g54 [Ptr gs,I ((2^kh:Nat):Int),Ptr gq,.map (some g52)] 145] _
 refine J.b V<|J.c hK8<|J.E 14 15 ?_
 refine J.k λK9 hK9=>J.g λK10 hK10=>J.b V<|J.q (qAB V V ent55 (Ct.use (new:=λx:Option Addr×Nat×Hp=> [x.2.2]) (λF' hF=>qDf F' gq gd (((f0+8:Nat)):Int) ((cn-8)/2) ((X2.at_:Nat):Int) X2.t ((X2.e:Nat):Int) Aq X2.R.length cq false (qAP.blk0.mono (hF (blk gq (bkC gd (f0+8) ((cn-8)/2) X2 Aq cq false) 223) (by simp))) X2.R rfl (hq.sl.mono (hF mq (by simp))) (by omega)))) rfl ?_
 rintro⟨A56,c56,m56⟩ h56
 try dsimp only at h56
 change J _ ((56,.slice A56 X2.R.length c56)::_) _ [_,_,_,_,_,_,_,_,_,m56] _
 refine J.f (qAY qAh V V) V<|J.b V<|J.c hK10<|J.O 15 56 57 58 ?_
 refine J.a1<|J.c1 (X:=Nat) (λζ=> [(15,Ptr g54),(56,.slice A56 X2.R.length c56),(57,I ((X2.R.length:Nat):Int)),(58,I ((ζ:Nat):Int))]) (λζ=> [F,mk,blk gb (bkC gd f0 (8/2) (XG f0 v) Ab cb false) 223,mb,blk gs [Ptr gk,Ptr gb,I ((v:Nat):Int)] 216,blk gq (bkC gd (f0+8) ((cn-8)/2) X2 Aq cq false) 223,mq,qAM g52 (.map #[] 0),blk g54 [Ptr gs,I ((2^kh:Nat):Int),Ptr gq,.map (some g52)] 145,m56]) (λζ=>ζ=0) (λζ=>0) 0 (V) ⟨V,V,V,V,trivial⟩ (λ_ h=>h) ?_
 rintro i hi I0 hI0
 refine J.g λK11 hK11=>J.f ((qAT V V V).no (by omega)) V<|J.c hK11<|J.a0 15 56 57 58 59 ?_
 refine J.k λK12 hK12=>J.a5 ?_
 refine J.b8<|J.a6<|J.a6<|J.b9 ?_
 refine J.u (J.M hK9 ?_)
 refine J.A 15 ?_
 refine J.g λK13 hK13=>J.j 3 V<|J.c hK13<|J.E 10 11 ?_
 exact J.D<|J.b4 hw0 (λ_ _ h=>h) (qDe V V V) (qAj (⟨gk,mk,gb,Ab,cb,mb,gs,gq,Aq,cq,mq,g52,g54⟩:AoR) V ⟨hk,hb,hq⟩ [0,1,2,3,4,5,6,7,8] V (by decide))
theorem ent56:qAE prog 56:=qAE.of func56 rfl (by kernel_rfl)
def msV(l:Mks):Mrk:=l.map λp=>((1,((p.1:Nat):Int)),(hH (UInt8.ofNat p.2)).dig)
theorem qFU(l:Mks)(b i:Nat):msV l++ [((1,((b:Nat):Int)),(hH (UInt8.ofNat i)).dig)]=msV (l++ [(b,i)]):=by unfold msV;rw [jM];rfl
theorem qC6: ∀{l:Mks} {b:Nat},b∉l.map (·.1)→qBQ (msV l) (1,((b:Nat):Int))=none
 | [],_,_=>rfl
 |p::r,b,h=>by
  rw [jR,zH,not_or] at h
  show(if((1:Nat),((p.1:Nat):Int))=(1,((b:Nat):Int)) then some _ else qBQ (msV r) (1,((b:Nat):Int)))=none
  rw [if_neg (λe=>h.1 (by have:=congrArg Prod.snd e;dsimp only at this;omega))]
  exact qC6 h.2
theorem qK1: ∀{l:Mks} {b i:Nat},(l.map (·.1)).Nodup→(b,i)∈l→qBQ (msV l) (1,((b:Nat):Int))=some (hH (UInt8.ofNat i)).dig
  |p::r,b,i,hn,h=>by
    rw [jR,List.nodup_cons] at hn
    show(if((1:Nat),((p.1:Nat):Int))=(1,((b:Nat):Int)) then some (hH (UInt8.ofNat p.2)).dig else qBQ (msV r) (1,((b:Nat):Int)))=_
    rcases List.mem_cons.1 h with e|e
    · rw [←e,if_pos rfl]
    · rw [if_neg (λe2=>hn.1 (List.mem_map.2 ⟨(b,i),e,by have:=congrArg Prod.snd e2;dsimp only at this⊢;omega⟩))]
      exact qK1 hn.2 e
theorem qIO{l:Mks}{i:Nat}(h:i<l.length):l.take i++ [((l.getD i (0,0)).1,(l.getD i (0,0)).2)]=l.take (i+1):=by
 rw [jO h,jB,jC h];rfl
theorem qLl{l:Mks}(hn:(l.map (·.1)).Nodup){i:Nat}(h:i<l.length):(l.getD i (0,0)).1∉(l.take i).map (·.1):=by
 have h2:((l.take (i+1)).map (·.1)).Nodup:=hn.sublist ((List.take_sublist _ _).map _)
 rw [←qIO h,jM,List.nodup_append] at h2
 exact λhm=>h2.2.2 _ hm _ (List.mem_singleton.2 rfl) rfl
theorem qP8{l:Mks}{i:Nat}(h:i<l.length):l.getD i (0,0)∈l:=by
 rw [jB,jC h];exact jc h
theorem qPr{l:Mks}{i:Nat}(h:i<l.length):(l.map λp=>mkL p.1 p.2).getD i []=mkB 1 (l.getD i (0,0)).1 (hH (UInt8.ofNat (l.getD i (0,0)).2)).dig:=by
 rw [jB,jN,jB,jC h];rfl
theorem qKJ(F:Hp)(hK:KF F)(gd:Nat)(d:Dk)(f0 n v:Nat)(O:Nat→List UInt8)(h:DG f0 n O d v)(h8:v≤8)(ho:d.off=false)(hn:n≤1024)(hf:f0≤1000)(A:Option Addr)(c:Nat)(B:Option Addr)(e:Nat)(C:Option Addr)(f:Nat)(hc:qAP F ⟨gd,0,none⟩ (d.cells A c B e C f))(hL:Sl F 1 A d.last.length c (qAH d.last))(hW:Sl F 2 B d.wait.length e (qCC d.wait))(seed:List UInt8)(hsd:seed.length≤1048576)(kh:Nat)(h6:kh≤6)(cn:Nat)(hcn:16≤cn)(hfc:f0+cn≤n)(X2:Hlf)(hX2:hst d (f0+8) ((cn-8)/2) 2=X2)(ms:Mks)(hR:X2.R=ms.map λp=>mkL p.1 p.2)(hgd: ∀p∈ms,p.1<2∧p.2<3)(hnd:(ms.map (·.1)).Nodup)(hl2:ms.length≤2):Ct prog 17 [Ptr gd,I ((f0:Nat):Int),I ((cn:Nat):Int),Str seed,I ((kh:Nat):Int)] [F] (λr:AoR×Hp=> .tuple #[Ptr r.1.ga,I ((0:Nat):Int)]) (λr=>AoP seed kh f0 v X2 r.1∧qCF plK r.2 r.1.gm (mkV (msV ms))) (λr=> [F,r.1.kk,blk r.1.gb (bkC gd f0 (8/2) (XG f0 v) r.1.Ab r.1.cb false) 223,r.1.mb,blk r.1.gs [Ptr r.1.gk,Ptr r.1.gb,I ((v:Nat):Int)] 216,blk r.1.gq (bkC gd (f0+8) ((cn-8)/2) X2 r.1.Aq r.1.cq false) 223,r.1.mq,r.2,blk r.1.ga [Ptr r.1.gs,I ((2^kh:Nat):Int),Ptr r.1.gq,.map (some r.1.gm)] 145]):=by
 have hp64:=Xm.pow_le kh h6
 have hfit8:=h.fits
 have hlen:=h.len
 have hwl:=qEx h
 have hRl:X2.R.length=ms.length:=by rw [hR,jK]
 refine Ct.walk func17 rfl ntmps17 rfl (λw0 hw0=>?_)
 change J _ [(0,_),(1,_),(2,_),(3,_),(4,_)] _ _ _
 refine J.g λK1 hK1=>J.j 2 V<|J.c hK1<|J.a0 0 1 2 3 4 ?_
 refine J.g λK2 hK2=>J.j 3 V<|J.f ((qDq V V V).nat (8) (by omega)) V<|J.j 2 V<|J.q (qAB V V ent52 (Ct.use (new:=λx:(Nat×Hp)×(Nat×Option Addr×Nat×Hp)×Nat=> [x.1.2,blk x.2.1.1 (bkC gd f0 (8/2) (XG f0 v) x.2.1.2.1 x.2.1.2.2.1 false) 223,x.2.1.2.2.2,blk x.2.2 [Ptr x.1.1,Ptr x.2.1.1,I ((v:Nat):Int)] 216]) (λF' hF=>qQi F' (hK.mo hF) gd d f0 n v O h h8 ho seed hsd kh h6 A c B e C f (hc.mono (hF F (by simp))) (hL.mono (hF F (by simp))) (hW.mono (hF F (by simp)))))) rfl ?_
 rintro⟨⟨gk,mk⟩,⟨gb,Ab,cb,mb⟩,gs⟩ ⟨hk,hb⟩
 change J _ ((28,.tuple #[Ptr gs,I ((0:Nat):Int)])::_) _ [F,mk,blk gb (bkC gd f0 (8/2) (XG f0 v) Ab cb false) 223,mb,blk gs [Ptr gk,Ptr gb,I ((v:Nat):Int)] 216] _
 dsimp only at hk hb
 refine J.j 5 V<|J.c hK2<|J.a0 0 1 2 12 13 ?_
 refine J.k λK3 hK3=>J.g λK4 hK4=>J.b V<|J.f ((qAU V V V).no (by decide)) V<|J.c hK4<|J.b5 0 1 2 12 13 32 ?_
 refine J.a5 ?_
 refine J.W hK3<|J.O 0 1 2 12 ?_
 refine J.g λK5 hK5=>J.j 2 V<|J.f ((qAQ V V V (by omega)).nat (f0+8) (by omega)) V<|J.b V<|J.f ((qAn V V V (by omega)).nat (cn-8) (by omega)) V<|J.q (qAB V V ent53 (Ct.use (new:=λx:Nat×Option Addr×Nat×Hp=> [blk x.1 (bkC gd (f0+8) ((cn-8)/2) X2 x.2.1 x.2.2.1 false) 223,x.2.2.2]) (λF' hF=>by have:=qFd F' (hK.mo hF) gd d h.ok A c B e C f (hc.mono (hF F (by simp))) (hL.mono (hF F (by simp))) (hW.mono (hF F (by simp))) (by omega) (f0+8) (cn-8) (by omega) (by omega) ho;rw [hX2] at this;exact this))) rfl ?_
 rintro⟨gq,Aq,cq,mq⟩ hq
 try dsimp only at hq
 change J _ ((40,.tuple #[Ptr gq,I ((0:Nat):Int)])::_) _ [_,_,_,_,_,blk gq (bkC gd (f0+8) ((cn-8)/2) X2 Aq cq false) 223,mq] _
 refine J.j 5 V<|J.c hK5<|J.G 12 13 14 ?_
 refine J.k λK6 hK6=>J.g λK7 hK7=>J.b V<|J.f ((qAU V V V).no (by decide)) V<|J.c hK7<|J.O 12 13 14 44 ?_
 refine J.a5 ?_
 refine J.W hK6<|J.E 12 14 ?_
 refine J.g λK8 hK8=>J.j 2 V<|J.q (qAB V V ent54 (Ct.use0 (λF' hF=>qJg F' gs gk gb v (qAP.blk0.mono (hF (blk gs [Ptr gk,Ptr gb,I ((v:Nat):Int)] 216) (by simp))) seed kh (hk.mono (hF mk (by simp))) hsd h6))) rfl λg48 _=>J.f (qKr (v:=I ((kh:Nat):Int)) rfl rfl qMZ rfl b3_ rfl) rfl<|J.f ((qFz (a:=1) (m:=kh) rfl rfl rfl ⟨by omega,by omega⟩).as (v':=I ((2^kh:Nat):Int)) (by rw [Nat.one_mul])) rfl<|J.b rfl<|J.q (qEq rfl) rfl ?_
 rintro g52 _
 change J _ ((52,.map (some g52))::_) _ [_,_,_,_,_,_,_,qAM g52 (.map #[] 0)] _
 refine J.f (qAK (l:= [(0,.tmp 46),(1,.tmp 50),(2,.tmp 51),(3,.tmp 52)]) (vs:= [Ptr gs,I ((2^kh:Nat):Int),Ptr gq,.map (some g52)]) (places:= [(0,1),(1,1),(2,1),(3,1)]) (r:= [Ptr gs,I ((2^kh:Nat):Int),Ptr gq,.map (some g52)]) V V V qEE zeroValue145 (λ_=>by kernel_rfl) V) V<|J.q (qAi (l:= [Ptr gs,I ((2^kh:Nat):Int),Ptr gq,.map (some g52)]) V V V) V λg54 _=>?_
 change J _ _ _ [_,_,_,_,_,_,_,_,blk g54 [Ptr gs,I ((2^kh:Nat):Int),Ptr gq,.map (some g52)] 145] _
 refine J.b V<|J.c hK8<|J.E 14 15 ?_
 refine J.k λK9 hK9=>J.g λK10 hK10=>J.b V<|J.q (qAB V V ent55 (Ct.use (new:=λx:Option Addr×Nat×Hp=> [x.2.2]) (λF' hF=>qDf F' gq gd (((f0+8:Nat)):Int) ((cn-8)/2) ((X2.at_:Nat):Int) X2.t ((X2.e:Nat):Int) Aq X2.R.length cq false (qAP.blk0.mono (hF (blk gq (bkC gd (f0+8) ((cn-8)/2) X2 Aq cq false) 223) (by simp))) X2.R rfl (hq.sl.mono (hF mq (by simp))) (by omega)))) rfl ?_
 rintro⟨A56,c56,m56⟩ h56
 try dsimp only at h56
 change J _ ((56,.slice A56 X2.R.length c56)::_) _ [_,_,_,_,_,_,_,_,_,m56] _
 refine J.f (qAY qAh V V) V<|J.b V<|J.c hK10<|J.O 15 56 57 58 ?_
 refine J.a1<|J.c1 (X:=Nat×Hp) (λζ=> [(15,Ptr g54),(56,.slice A56 X2.R.length c56),(57,I ((X2.R.length:Nat):Int)),(58,I ((ζ.1:Nat):Int))]) (λζ=> [F,mk,blk gb (bkC gd f0 (8/2) (XG f0 v) Ab cb false) 223,mb,blk gs [Ptr gk,Ptr gb,I ((v:Nat):Int)] 216,blk gq (bkC gd (f0+8) ((cn-8)/2) X2 Aq cq false) 223,mq,ζ.2,blk g54 [Ptr gs,I ((2^kh:Nat):Int),Ptr gq,.map (some g52)] 145,m56]) (λζ=>ζ.1≤X2.R.length∧qCF plK ζ.2 g52 (mkV (msV (ms.take ζ.1)))) (λζ=>X2.R.length-ζ.1) (0,qAM g52 (.map #[] 0)) (⟨jF _,qCF.nil plK g52⟩) ⟨V,V,V,V,trivial⟩ (λ_ h=>h) ?_
 rintro⟨i,mm⟩ ⟨hi,hmm⟩ I0 hI0
 dsimp only at hi hmm⊢
 refine J.g λK11 hK11=>J.f (qAT V V V) V<|J.c hK11<|J.a0 15 56 57 58 59 ?_
 refine J.k λK12 hK12=>J.a4 V (λh59=>?_) (λh59=>?_)
 ·
  refine J.W hK12<|J.O 15 56 57 58 ?_
  refine J.k λK13 hK13=>J.a1<|J.k λK14 hK14=>?_
  have hi2:i<ms.length:=by omega
  have hgi:X2.R.getD i []=mkB 1 (ms.getD i (0,0)).1 (hH (UInt8.ofNat (ms.getD i (0,0)).2)).dig:=by rw [hR];exact qPr hi2
  have hgp:=hgd _ (qP8 hi2)
  have hfr:=qC6 (qLl hnd hi2)
  refine J.H<|J.f (qAF (i:=i) V V V qAh z9_ h56.sl (by omega)) V<|J.f (qAL V V b9_ (m:=m56) (by simp) (h56.sl.elem (qAZ (qAd [] (by omega))))) rfl<|J.b rfl<|J.c hK14<|J.a0 15 17 56 57 58 ?_
  refine J.g λK15 hK15=>J.b V<|J.q (qAB V V ent56 (Ct.use0 (λF' hF=>(by rw [hgi];exact qPq F' (by decide) (by omega) (qBs (qCN _)))))) rfl λg64 _=>J.j 4 rfl<|J.q (qAO (l:= [.int .u64 0,I 0]) rfl qHw rfl) rfl λg18 _=>?_
  change J _ _ _ [F,mk,blk gb (bkC gd f0 (8/2) (XG f0 v) Ab cb false) 223,mb,blk gs [Ptr gk,Ptr gb,I ((v:Nat):Int)] 216,blk gq (bkC gd (f0+8) ((cn-8)/2) X2 Aq cq false) 223,mq,mm,blk g54 [Ptr gs,I ((2^kh:Nat):Int),Ptr gq,.map (some g52)] 145,m56,blk g18 [.int .u64 0,I 0] 148] _
  refine J.b1 (qAG (i:=10) (l:= [.int .u64 0,I 0]) (vs:= [N64 1,I (((ms.getD i (0,0)).1:Nat):Int)]) V V V V V qEh V V) V V λ_ _=>?_
  change J _ _ _ [_,_,_,_,_,_,_,_,_,_,blk g18 [N64 1,I (((ms.getD i (0,0)).1:Nat):Int)] 148] _
  refine J.j 2 V<|J.c hK15<|J.c5 15 18 19 20 56 57 58 ?_
  refine J.k λK16 hK16=>J.g λK17 hK17=>J.b V<|J.f (qAw V V) V<|J.c hK17<|J.c5 15 18 19 56 57 58 69 ?_
  refine J.a5 ?_
  refine J.W hK16<|J.b5 15 18 19 56 57 58 ?_
  refine J.b7 [blk g54 [Ptr gs,I ((2^kh:Nat):Int),Ptr gq,.map (some g52)] 145,blk g18 [N64 1,I (((ms.getD i (0,0)).1:Nat):Int)] 148] [6] (.y 0 (.y 1 (.y 2 (.y 3 (.y 4 (.y 5 (.e 6 .nil))))))) Tryz.wide (by decide+kernel) (by simp) ?_
  refine J.L ?_
  refine J.p V (qAC V V) V V<|J.p V (qAA (j:=3) V V qEE V sizeOf143 V) V V<|J.p V (qAD 0 (v:= .map (some g52)) V V V isAgg143 V) V V<|J.p V (qAm 1 V V V isAgg148 qEh V) V V<|J.L ?_
  refine J.d2 V (qGx (K:=plK) (l:=mkV (msV (ms.take i))) (s:=(1,(((ms.getD i (0,0)).1:Nat):Int))) (u:=Str (hH (UInt8.ofNat (ms.getD i (0,0)).2)).dig) qN9 V V V V qMr (i:=7) V hmm (by rw [qEw,hfr];rfl)) rfl rfl rfl ?_
  rintro m14 hm14
  change J _ _ _ [_,_,_,_,_,_,_,m14,_,_,_] _
  rw [qK2,qFU,qIO hi2] at hm14
  refine J.b3<|J.b0<|J.u (J.M hK13 ?_)
  refine J.O 15 56 57 58 ?_
  exact J.H<|J.f ((qAQ V V V (by omega)).nat (i+1) (by omega)) V<|J.b V<|J.a8<|J.u<|J.a9 (i+1,m14) (λη (hη:_∧X2.R.length-η.1<X2.R.length-i)=>hI0 η hη.1 hη.2) ⟨⟨by dsimp only;omega,hm14⟩,by first|omega|(dsimp only;omega)⟩ ⟨V,V,V,V,trivial⟩ (λ_ h=>h.pick [0,1,2,3,4,5,6,7,8,9] (by decide))
 refine J.b8<|J.a6<|J.a6<|J.b9 ?_
 refine J.u (J.M hK9 ?_)
 refine J.A 15 ?_
 refine J.k λK18 hK18=>?_
 obtain rfl:i=ms.length:=by omega
 rw [jo] at hmm
 refine J.H<|J.j 3 V<|J.c hK18<|J.E 10 11 ?_
 exact J.D<|J.b4 hw0 (λ_ _ h=>h) (qDe V V V) (qAj ((⟨gk,mk,gb,Ab,cb,mb,gs,gq,Aq,cq,mq,g52,g54⟩:AoR),mm) V ⟨⟨hk,hb,hq⟩,hmm⟩ [0,1,2,3,4,5,6,7,8] V (by decide))
attribute [local irreducible] Sha.tagged Wo.pub Wo.publicOf Wo.signs Wo.ends Wo.digs Wo.walk Wo.opn Mk.root Mk.path Mk.climb Xm.root sgC sgP qBL prt hH qAt XM mkB
theorem AD.ok{K:List UInt8}{d:Dk}{v:Nat}{ms:Mks}(h:AD K d v ms):d.ok:=by
 obtain ⟨O,h1,_⟩:=h.dg
 exact h1.ok
theorem AD.wait{K:List UInt8}{d:Dk}{v:Nat}{ms:Mks}(h:AD K d v ms):d.wait= []:=by
 obtain ⟨O,h1,_⟩:=h.dg
 exact h1.wait
structure qJT where
 e:Int
 ms:Mks
 A:Option Addr
 c:Nat
 X:Hlf
 bad:Bool
 D:Dk
 md:Hp
 mm:Hp
 N:Hp
structure qQa (K:List UInt8) (gd gm v:Nat) (D:Dk) (C:Option Addr) (f:Nat) (ms:Mks) (b i:Nat) (r:qJT):Prop where
 dsk:Dsk r.md gd r.D C f
 keep:r.D.keep=D.keep
 two:(r.e=0∧r.ms=ms++ [(b,i)]∧r.X=XM r.ms∧r.bad=false∧r.D.off=false∧AD K r.D v r.ms∧Row r.N 9 1 r.A (XM r.ms).R.length r.c (qAH (XM r.ms).R)∧qCF plK r.mm gm (mkV (msV r.ms)))∨
  (r.e=8∧r.D.off=true∧(AD K r.D v ms∨AD K r.D v (ms++ [(b,i)])))
theorem qUN(F md mm:Hp)(hK:KF F)(ga gs gq cnt gm:Nat)(hA:qAP F ⟨ga,0,none⟩ [Ptr gs,I ((cnt:Nat):Int),Ptr gq,.map (some gm)])(gd v:Nat)(K:List UInt8)(D:Dk)(ms:Mks)(hAD:AD K D v ms)(ho:D.off=false)(C:Option Addr)(f:Nat)(hbk:Dsk md gd D C f)(hKp:Sl F 1 C D.keep.length f (qAR D.keep))(hn3:D.keep.length≤9223372036854775807)(Aq:Option Addr)(cq:Nat)(hqR:Sl F 1 Aq (XM ms).R.length cq (qAH (XM ms).R))(hM:qCF plK mm gm (mkV (msV ms)))(h2:ms.length<2)(b i:Nat)(hb:b<2)(hi:i<3)(hn:b∉ms.map (·.1)):
    Ct prog 60 [Ptr ga,.agg #[N64 1,I ((b:Nat):Int)],Str (hH (UInt8.ofNat i)).dig] [blk gq (bkC gd 10 15 (XM ms) Aq cq false) 223,md,mm,F] (λr:qJT=>I r.e) (qQa K gd gm v D C f ms b i) (λr=> [blk gq (bkC gd 10 15 r.X r.A r.c r.bad) 223,r.md,r.mm,F,r.N]):=by
  have hp:=hAD.put h2 ho hb hi hn
  have hd:=qBs (qCN (UInt8.ofNat i))
  have h9:(mkL b i).length≤900:=by rw [qDU];decide
  have hX:(XM ms).R.length<65536:=by rw [qRH];omega
  have hfit:(XM ms).e+qAx (mkL b i).length≤15:=by rw [qAv (qPo b i),show(XM ms).e=ms.length by unfold XM;rfl];omega
  have hw:D.wait.length≤1048576:=by rw [hAD.wait];exact jF _
  by_cases he:(qAt D (XM ms) (mkL b i)).2=0
  · have h:=qOg F (blk gq (bkC gd 10 15 (XM ms) Aq cq false) 223) md mm ga gs gq cnt gm hA 1 b (by decide) (by omega) (hH (UInt8.ofNat i)).dig hd (msV ms) hM (qC6 hn) _ _ _ _
      (λF' hF=>qEK F' md (hK.mono hF) gq gd 10 15 (XM ms) Aq cq (hqR.mono hF) D C f hbk hAD.ok hw (hKp.mono hF) hn3 (mkL b i) h9 (XM_T ms) hX (by rw [show(XM ms).at_=10 by unfold XM;rfl];decide) hfit he)
    rw [qUO] at h
    exact h.mono (λx=>(⟨0,ms++ [(b,i)],x.1.2.1,x.1.2.2.1,XM (ms++ [(b,i)]),false,(qAt D (XM ms) (mkL b i)).1,x.1.1,x.2,x.1.2.2.2⟩:qJT)) (λ_ _=>rfl) (λx hx=>⟨hx.1.1,hp.2.2,Or.inl ⟨rfl,rfl,rfl,rfl,(hp.1 he).1,(hp.1 he).2,hx.1.2,by have h5:=hx.2;rw [qFU] at h5;exact h5⟩⟩) (λ_ _ _ _ hs=>hs)
  · have h8:=hp.2.1 he
    have h:=qQS F (blk gq (bkC gd 10 15 (XM ms) Aq cq false) 223) md mm ga gs gq cnt gm hA 1 b (by decide) (by omega) (hH (UInt8.ofNat i)).dig hd (msV ms) _ he _ _ _ _
      (λF' hF=>(qKk F' md (hK.mono hF) gq gd 10 15 (XM ms) Aq cq (hqR.mono hF) D C f hbk hAD.ok hw (hKp.mono hF) hn3 (mkL b i) h9 (XM_T ms) hX (by rw [show(XM ms).at_=10 by unfold XM;rfl];decide) hfit he).addE)
    exact h.mono (λx=>(⟨(qAt D (XM ms) (mkL b i)).2,ms,Aq,cq,XM ms,true,(qAt D (XM ms) (mkL b i)).1,x,mm,λ_=>none⟩:qJT)) (λ_ _=>rfl) (λx hx=>⟨hx,hp.2.2,Or.inr ⟨h8.1,h8.2.1,h8.2.2⟩⟩) (λ_ _ _ _ hs=>hs)
end Go.Proofs.YtfldiegfenndjaaGreatDoor
namespace Go.Proofs.YtfldiegfenndjaaGreatDoor
open Go Go.Fw Go.Proofs.Tryz
set_option maxRecDepth 100000
set_option maxHeartbeats 1000000
attribute [local irreducible] Sha.tagged Wo.pub Wo.publicOf Wo.signs Wo.ends Wo.digs Wo.walk Wo.opn Mk.root Mk.path Mk.climb Xm.root sgC sgP qBL prt hH qAt XM mkB
structure SPA (seed:List UInt8) (kh v gd:Nat) (K:List UInt8) (ms:Mks) (D:Dk) (C:Option Addr) (f:Nat) (mg:List UInt8) (r:qGf):Prop where
 dsk:Dsk r.md gd r.D C f
 keep:r.D.keep=D.keep
 u:Row r.u 9 1 r.P r.Cl.length r.p (qAH r.Cl)
 w:Row r.w 9 1 r.Q r.Pl.length r.q (qAH r.Pl)
 two:(r.e=0∧r.idx=v∧r.Cl=sgC seed v mg∧r.Pl=sgP seed kh v∧r.nx=v+1∧r.X=XG 2 (v+1)∧r.bad=false∧r.D.off=false∧AD K r.D (v+1) ms∧Row r.N 9 1 r.A r.X.R.length r.c (qAH r.X.R))∨
  (r.e=8∧r.D.off=true∧(AD K r.D v ms∨AD K r.D (v+1) ms))
theorem qRj(F md:Hp)(hK:KF F)(gs gk gb gd v:Nat)(seed:List UInt8)(hsd:seed.length≤1048576)(kh:Nat)(h8:2^kh≤8)(h6:kh≤6)(hv:v<2^kh)(hk:qGR F gk seed kh)(mg:List UInt8)(hm:mg.length≤1048576)(K:List UInt8)(ms:Mks)(D:Dk)(hAD:AD K D v ms)(ho:D.off=false)(C:Option Addr)(f:Nat)(hb:Dsk md gd D C f)(hKp:Sl F 1 C D.keep.length f (qAR D.keep))(hn3:D.keep.length≤9223372036854775807)(A:Option Addr)(c:Nat)(hRs:Sl F 1 A (XG 2 v).R.length c (qAH (XG 2 v).R)):
    Ct prog 61 [Ptr gs,Str mg] [blk gs [Ptr gk,Ptr gb,I ((v:Nat):Int)] 216,blk gb (bkC gd 2 (8/2) (XG 2 v) A c false) 223,md,F] (λr:qGf=> .tuple #[.agg #[I ((r.idx:Nat):Int),.slice r.P r.Cl.length r.p,.slice r.Q r.Pl.length r.q],I r.e]) (SPA seed kh v gd K ms D C f mg) (λr=> [blk gs [Ptr gk,Ptr gb,I ((r.nx:Nat):Int)] 216,blk gb (bkC gd 2 (8/2) r.X r.A r.c r.bad) 223,r.md,F,r.N,r.u,r.w]):=by
  obtain ⟨O,hg,hm2⟩:=hAD.dg
  have up: ∀(r:qGf) (w:Nat),r.D.keep=D.keep→DG 2 40 O r.D w→AD K r.D w ms:=λr w hkp h=>⟨⟨O,h,hm2⟩,by rw [Kpt,hkp];exact hAD.kp,hAD.once⟩
  refine(signG F md hK gs gk gb gd 2 40 v (by decide) O seed hsd kh h8 h6 hk mg hm D hg ho C f hb hKp hn3 A c hRs).mono id (λ_ _=>rfl) (λr hr=>⟨hr.dsk,hr.keep,hr.u,hr.w,?_⟩) (λ_ _ _ _ hs=>hs)
  rcases hr.three with h|h|h
  · exact absurd h.1 (by omega)
  · obtain ⟨_,a1,a2,a3,a4,a5,a6,a7,a8,a9,a10⟩:=h
    exact Or.inl ⟨a1,a2,a3,a4,a5,a6,a7,a8,up r _ hr.keep a9,a10⟩
  · obtain ⟨_,a1,_,_,_,_,a2,a3⟩:=h
    exact Or.inr ⟨a1,a2,a3.imp (up r _ hr.keep) (up r _ hr.keep)⟩
end Go.Proofs.YtfldiegfenndjaaGreatDoor
