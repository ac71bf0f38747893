/- A part of the proof. -/
import Derived.Test.YtfldiegfenndjaaGreatDoorTopAoG24
import Derived.Test.YtfldiegfenndjaaGreatDoorTopAoG8
import Derived.Test.YtfldiegfenndjaaGreatDoorTopAoG18
set_option linter.unusedSimpArgs false
set_option linter.unusedVariables false
namespace Go.Proofs.YtfldiegfenndjaaGreatDoor
open Go Go.Fw Go.Proofs.Tryz
set_option maxRecDepth 100000
set_option maxHeartbeats 1000000
structure DG (f0 n:Nat) (O:Nat→List UInt8) (d:Dk) (v:Nat):Prop where
 ok:d.ok
 wait:d.wait= []
 len:d.last.length=n
 fits:f0+8≤n
 oth: ∀i,i<n→(i<f0∨f0+8≤i)→d.last.getD i []=O i
 done: ∀i,i<v→i<8→d.last.getD (f0+i) []=txt i
 rest: ∀i,v≤i→i<8→ ∃n,d.last.getD (f0+i) []=torn (txt i) n∧torn (txt i) n≠txt i
def XG(f0 v:Nat):Hlf:=if v=0 then⟨f0,0,[],0⟩ else if v≤4 then⟨f0,1,qCf 0 v,v⟩ else⟨f0+4,2,qCf 4 (v-4),v-4⟩
theorem DG.new{f0 n:Nat}(h:f0+8≤n)(h4:4≤n)(hn:n≤1024):DG f0 n (λ_=>zS) (Dk.new n) 0:=⟨Dk.new_ok h4 hn,rfl,jG,h,λi hi _=>qHk n i hi,λi h=>absurd h (jz i),λi _ h8=>⟨0,by rw [qFj];exact qHk n _ (by omega),by rw [qFj];exact qTM h8⟩⟩
theorem DG.fuse{f0 n:Nat}{O:Nat→List UInt8}{d:Dk}{v:Nat}(h:DG f0 n O d v)(m:Int)(hm: -9223372036854775808≤m∧m≤9223372036854775807)(K:List UInt8):DG f0 n O (d.setFuse m K) v:=⟨h.ok.setFuse m hm K,h.wait,h.len,h.fits,h.oth,h.done,h.rest⟩
theorem DG.cutStart{f0 n:Nat}{O:Nat→List UInt8}{d:Dk}{v:Nat}(h:DG f0 n O d v)(K:List UInt8):DG f0 n O (d.cut K).start v:=by
 have e:qDE d.last d.wait K d.wait.length=d.last:=by rw [h.wait];rfl
 refine⟨(h.ok.cut K).start,rfl,?_,h.fits,?_,?_,?_⟩
 · show(qDE d.last d.wait K d.wait.length).length=n;rw [e];exact h.len
 · show∀i,i<n→(i<f0∨f0+8≤i)→(qDE d.last d.wait K d.wait.length).getD i []=O i;rw [e];exact h.oth
 · show∀i,i<v→i<8→(qDE d.last d.wait K d.wait.length).getD (f0+i) []=txt i;rw [e];exact h.done
 · show∀i,v≤i→i<8→ ∃m,(qDE d.last d.wait K d.wait.length).getD (f0+i) []=torn (txt i) m∧_;rw [e];exact h.rest
theorem DG.set{f0 n:Nat}{O:Nat→List UInt8}{d d':Dk}{v:Nat}(h:DG f0 n O d v)(hv:v<8)(hok:d'.ok)(hw:d'.wait= [])(k:Nat)(hl:d'.last=d.last.set (f0+v) (qGo (d.last.getD (f0+v) []) (txt v) k)):(64≤k→DG f0 n O d' (v+1))∧(DG f0 n O d' v∨DG f0 n O d' (v+1)):=by
  obtain ⟨m,hm,hne⟩:=h.rest v (jJ _) hv
  have hfit:=h.fits
  rw [hm,qIM (qDw hv)] at hl
  have hlen:d'.last.length=n:=by rw [hl,jm];exact h.len
  have hgo: ∀j,d'.last.getD j []=if j=f0+v then torn (txt v) (max m k) else d.last.getD j []:=λj=>by
    rw [hl,jB,j9]
    by_cases e:j=f0+v
    · subst e
      rw [if_pos rfl,if_pos rfl,if_pos (by rw [h.len];omega)];rfl
    · rw [if_neg (λx=>e x.symm),if_neg e,jB]
  have hoth: ∀i,i<n→(i<f0∨f0+8≤i)→d'.last.getD i []=O i:=λi h1 h2=>by
    rw [hgo,if_neg (by omega)];exact h.oth i h1 h2
  have hfull:torn (txt v) (max m k)=txt v→DG f0 n O d' (v+1):=λe=>⟨hok,hw,hlen,hfit,hoth,λi h1 h2=>by
    rw [hgo]
    split
    · rename_i e2
      have:i=v:=by omega
      rw [this];exact e
    · exact h.done i (by omega) h2,λi h1 h2=>by
    rw [hgo,if_neg (by omega)];exact h.rest i (by omega) h2⟩
  refine⟨λh64=>hfull (qFO (qDw hv) (by omega)),?_⟩
  by_cases e:torn (txt v) (max m k)=txt v
  · exact Or.inr (hfull e)
  · refine Or.inl ⟨hok,hw,hlen,hfit,hoth,λi h1 h2=>by rw [hgo,if_neg (by omega)];exact h.done i h1 h2,λi h1 h2=>?_⟩
    rw [hgo]
    by_cases e2:f0+i=f0+v
    · rw [if_pos e2]
      obtain rfl:i=v:=by omega
      exact⟨_,rfl,e⟩
    · rw [if_neg e2];exact h.rest i h1 h2
theorem DG.put{f0 n:Nat}{O:Nat→List UInt8}{d:Dk}{v p:Nat}{t:Nat→List UInt8}(h:DG f0 n O d v)(hv:v<8)(ho:d.off=false)(hp:p=f0+v)(hT:t 0=txt v)(hok:(qBM d p t 1).1.ok)(hw:(qBM d p t 1).1.wait= []):
    ((qBM d p t 1).2=0→(qBM d p t 1).1.off=false∧DG f0 n O (qBM d p t 1).1 (v+1))∧((qBM d p t 1).2≠0→(qBM d p t 1).2=8∧(qBM d p t 1).1.off=true∧(DG f0 n O (qBM d p t 1).1 v∨DG f0 n O (qBM d p t 1).1 (v+1))):=by
  have hfit:=h.fits
  subst hp
  rcases qO3 (d:=d) (p:=f0+v) (t:=t) hT (qDw hv) ho h.wait (by rw [h.len];omega) h.ok with ⟨h1,h2,h3⟩|⟨h1,h2,h3⟩
  · exact⟨λ_=>⟨h2,(h.set hv hok hw 64 h3).1 (jJ _)⟩,λe=>absurd h1 e⟩
  · refine⟨λe=>by rw [e] at h1;exact absurd h1 (by decide),λ_=>⟨h1,h2,?_⟩⟩
    rcases h3 with h3|⟨k,h3⟩
    · refine Or.inl ⟨hok,hw,by rw [h3];exact h.len,hfit,by rw [h3];exact h.oth,by rw [h3];exact h.done,by rw [h3];exact h.rest⟩
    · exact(h.set hv hok hw k h3).2
theorem DG.now{f0 n:Nat}{O:Nat→List UInt8}{d:Dk}{v:Nat}(h:DG f0 n O d v)(i:Nat):d.now i=d.last.getD i []:=qKv h.wait i
theorem DG.no{f0 n:Nat}{O:Nat→List UInt8}{d:Dk}{v:Nat}(h:DG f0 n O d v){i:Nat}(hi:v≤i)(h8:i<8):qFE (d.now (f0+i)):=by
 obtain ⟨m,h1,h2⟩:=h.rest i hi h8
 rw [h.now,h1];exact qRX h8 h2
theorem DG.half1{f0 n:Nat}{O:Nat→List UInt8}{d:Dk}{v:Nat}(h:DG f0 n O d v):hlf d f0 4=⟨f0,if min v 4=0 then 0 else 1,qCf 0 (min v 4),min v 4⟩:=by
  refine qGC (qOD (tn:=1) (by decide) (by decide) 0 _ (qCS d f0 4) (min v 4) (by omega) (λi hi=>?_) ?_)
  · rw [qCT (by omega),h.now,h.done i (by omega) (by omega),jn]
    unfold txt tnO nrO
    rw [if_pos (by omega),if_pos (by omega)]
  · by_cases h4:v<4
    · rw [show min v 4=v by omega,qCT h4];exact h.no (jJ _) (by omega)
    · rw [show min v 4=4 by omega];exact qQu
theorem DG.half2{f0 n:Nat}{O:Nat→List UInt8}{d:Dk}{v:Nat}(h:DG f0 n O d v)(h8:v≤8):hlf d (f0+4) 4=⟨f0+4,if v-4=0 then 0 else 2,qCf 4 (v-4),v-4⟩:=by
  refine qGC (qOD (tn:=2) (by decide) (by decide) 4 _ (qCS d (f0+4) 4) (v-4) (by omega) (λi hi=>?_) ?_)
  · rw [qCT (by omega),h.now,show f0+4+i=f0+(4+i) by omega,h.done (4+i) (by omega) (by omega)]
    unfold txt tnO nrO
    rw [if_neg (by omega),if_neg (by omega),show 4+i-4=i by omega]
  · by_cases h4:v<8
    · rw [qCT (by omega),show f0+4+(v-4)=f0+(4+(v-4)) by omega];exact h.no (by omega) (by omega)
    · rw [show v-4=4 by omega];exact qQu
theorem DG.half{f0 n:Nat}{O:Nat→List UInt8}{d:Dk}{v:Nat}(h:DG f0 n O d v)(h8:v≤8):hst d f0 (8/2) 2=XG f0 v:=by
  have h1:=h.half1
  have h2:=h.half2 h8
  show(if 0<(hlf d (f0+4) 4).R.length∧((hlf d f0 4).R.length=0∨(hlf d f0 4).t.toNat<(hlf d (f0+4) 4).t.toNat) then hlf d (f0+4) 4 else hlf d f0 4)=_
  rw [h1,h2]
  dsimp only
  rw [qBd,qBd]
  unfold XG
  by_cases hv0:v=0
  · subst hv0;rfl
  · by_cases hv4:v≤4
    · rw [if_neg hv0,if_pos hv4,if_neg (by omega),show min v 4=v by omega,if_neg hv0]
    · rw [if_neg hv0,if_neg hv4,show min v 4=4 by omega,show(if v-4=0 then(0:UInt64) else 2)=2 from if_neg (by omega)]
      exact if_pos ⟨by omega,Or.inr (by decide)⟩
theorem DG.other{f0 n:Nat}{O:Nat→List UInt8}{d:Dk}{v:Nat}(h:DG f0 n O d v){d':Dk}{p:Nat}{T:List UInt8}(hok:d'.ok)(hw:d'.wait= [])(hl:d'.last=d.last.set p T)(hp:p<f0∨f0+8≤p)(hpn:p<n):DG f0 n (λi=>if i=p then T else O i) d' v:=by
  have hfit:=h.fits
  have hg: ∀i,d'.last.getD i []=if i=p then T else d.last.getD i []:=λi=>by
    rw [hl,jB,j9]
    by_cases e:i=p
    · subst e
      rw [if_pos rfl,if_pos rfl,if_pos (by rw [h.len];omega)];rfl
    · rw [if_neg (λx=>e x.symm),if_neg e,jB]
  refine⟨hok,hw,by rw [hl,jm];exact h.len,hfit,λi h1 h2=>?_,λi h1 h2=>by rw [hg,if_neg (by omega)];exact h.done i h1 h2,λi h1 h2=>by rw [hg,if_neg (by omega)];exact h.rest i h1 h2⟩
  rw [hg]
  split
  · rfl
  · exact h.oth i h1 h2
theorem qJ1{l:List (List UInt8)}(h: ∀s∈l,s.length=16): ∀s∈l,s.length≤1048576:=λs hs=>by rw [h s hs];decide
def qG1(ep:Nat)(bd:Int)(hd:List UInt8)(nm:Int):Prop:=ep≤4294967295∧0≤bd∧bd<16∧hd.length=16∧0≤nm∧nm<64
instance (ep:Nat) (bd:Int) (hd:List UInt8) (nm:Int):Decidable (qG1 ep bd hd nm):=by unfold qG1;infer_instance
def plB(ep bd nm:Nat):List UInt8:=Sha.numB (UInt64.ofNat ep) 4++Sha.numB (UInt64.ofNat bd) 1++Sha.numB (UInt64.ofNat nm) 2
theorem qNX(ep bd nm:Nat):(plB ep bd nm).length=7:=by unfold plB;simp only [jA,Sha.numB_length]
def atM(ep bd nm:Nat)(hd:List UInt8):List UInt8:=Sha.tagged 18 [plB ep bd nm,hd]
theorem qD6(ep bd nm:Nat)(hd:List UInt8):(atM ep bd nm hd).length=16:=Sha.tagged_length _ _
theorem qMF{ep:Nat}{bd:Int}{hd:List UInt8}{nm:Int}(h1:(ep:Int)≤4294967295)(h2:0≤bd)(h3:bd<16)(h4:(hd.length:Int)=16)(h5:0≤nm):(nm<64)=qG1 ep bd hd nm:=propext ⟨λh=>⟨by omega,h2,h3,by omega,h5,h⟩,λh=>h.2.2.2.2.2⟩
theorem qMG{ep:Nat}{bd:Int}{hd:List UInt8}{nm:Int}(h: ¬(ep:Int)≤4294967295∨ ¬0≤bd∨ ¬bd<16∨ ¬(hd.length:Int)=16∨ ¬0≤nm):false=decide (qG1 ep bd hd nm):=by
 symm
 apply decide_eq_false
 unfold qG1
 omega
theorem qOi(F:Hp)(ep:Nat)(bd:Int)(hd:List UInt8)(nm:Int)(i:Int)(A1 A2:Option Addr)(n1 c1 n2 c2:Nat):
    Ct prog 63 [.agg #[N64 ep,I bd,Str hd,I nm,I i,.slice A1 n1 c1,.slice A2 n2 c2]] [F] (λ_:Unit=> .bool (decide (qG1 ep bd hd nm))) (λ_=>True) (λ_=> [F]):=by
  refine Ct.walk func63 rfl ntmps63 rfl (λw0 hw0=>?_)
  change J _ [(0,_)] _ _ _
  refine J.g λK1 hK1=>J.q (qAi V V (l:= [N64 ep,I bd,Str hd,I nm,I i,.slice A1 n1 c1,.slice A2 n2 c2]) V) V λg1 _=>?_
  change J _ _ _ [F,blk g1 [N64 ep,I bd,Str hd,I nm,I i,.slice A1 n1 c1,.slice A2 n2 c2] 52] _
  refine J.b V<|J.c hK1<|J.A 1 ?_
  refine J.g λK2 hK2=>J.a2 0 qCa qCG V V V V V<|J.c2 1 qCZ V V V V V<|J.f (qGy V V V) V<|J.b V<|J.c6 (d:=6) V (λh6=>?_) (λh6=>?_)
  ·
    refine J.T (qAA (j:=1) V V qCa V z3_ V) V<|J.T (qAD 1 V V V b3_ V) V<|J.T (qA9 V V V) V<|J.j 2 V<|J.c6 (d:=11) V (λh11=>?_) (λh11=>?_)
    ·
      refine J.T (qAA (j:=1) V V qCa V z3_ V) V<|J.T (qAD 1 V V V b3_ V) V<|J.T (qAT V V V) V<|J.j 2 V<|J.c6 (d:=16) V (λh16=>?_) (λh16=>?_)
      ·
        refine J.T (qAA (j:=2) V V qCa V z9_ V) V<|J.T (qAD 1 V V V b9_ V) V<|J.T (qAg u9_ V V) V<|J.T (qAS V V V) V<|J.j 2 V<|J.c6 (d:=22) V (λh22=>?_) (λh22=>?_)
        ·
          refine J.T (qAA (j:=3) V V qCa V z3_ V) V<|J.T (qAD 1 V V V b3_ V) V<|J.T (qA9 V V V) V<|J.j 2 V<|J.c6 (d:=27) V (λh27=>?_) (λh27=>?_)
          ·
            refine J.T (qAA (j:=3) V V qCa V z3_ V) V<|J.T (qAD 1 V V V b3_ V) V<|J.T (qAT V V V) V<|J.f ((by first|exact(qBh V V V).as (v':= .bool (decide (qG1 ep bd hd nm))) (congrArg Value.bool (decide_eq_decide.2 (iff_of_eq (qMF (by assumption) (by assumption) (by assumption) (by assumption) (by assumption)))))|exact(qBp V V V).as (v':= .bool (decide (qG1 ep bd hd nm))) (congrArg Value.bool (qMG (by omega))))) V<|J.b V<|J.c hK2<|J.A 2 ?_
            exact J.D<|J.Z hw0 V () V trivial [0] V (by decide)
          refine J.j 3 V<|J.f ((by first|exact(qBh V V V).as (v':= .bool (decide (qG1 ep bd hd nm))) (congrArg Value.bool (decide_eq_decide.2 (iff_of_eq (qMF (by assumption) (by assumption) (by assumption) (by assumption) (by assumption)))))|exact(qBp V V V).as (v':= .bool (decide (qG1 ep bd hd nm))) (congrArg Value.bool (qMG (by omega))))) V<|J.b V<|J.c hK2<|J.A 2 ?_
          exact J.D<|J.Z hw0 V () V trivial [0] V (by decide)
        refine J.j 8 V<|J.f ((by first|exact(qBh V V V).as (v':= .bool (decide (qG1 ep bd hd nm))) (congrArg Value.bool (decide_eq_decide.2 (iff_of_eq (qMF (by assumption) (by assumption) (by assumption) (by assumption) (by assumption)))))|exact(qBp V V V).as (v':= .bool (decide (qG1 ep bd hd nm))) (congrArg Value.bool (qMG (by omega))))) V<|J.b V<|J.c hK2<|J.A 2 ?_
        exact J.D<|J.Z hw0 V () V trivial [0] V (by decide)
      refine J.j 14 V<|J.f ((by first|exact(qBh V V V).as (v':= .bool (decide (qG1 ep bd hd nm))) (congrArg Value.bool (decide_eq_decide.2 (iff_of_eq (qMF (by assumption) (by assumption) (by assumption) (by assumption) (by assumption)))))|exact(qBp V V V).as (v':= .bool (decide (qG1 ep bd hd nm))) (congrArg Value.bool (qMG (by omega))))) V<|J.b V<|J.c hK2<|J.A 2 ?_
      exact J.D<|J.Z hw0 V () V trivial [0] V (by decide)
    refine J.j 19 V<|J.f ((by first|exact(qBh V V V).as (v':= .bool (decide (qG1 ep bd hd nm))) (congrArg Value.bool (decide_eq_decide.2 (iff_of_eq (qMF (by assumption) (by assumption) (by assumption) (by assumption) (by assumption)))))|exact(qBp V V V).as (v':= .bool (decide (qG1 ep bd hd nm))) (congrArg Value.bool (qMG (by omega))))) V<|J.b V<|J.c hK2<|J.A 2 ?_
    exact J.D<|J.Z hw0 V () V trivial [0] V (by decide)
  refine J.j 24 V<|J.f ((by first|exact(qBh V V V).as (v':= .bool (decide (qG1 ep bd hd nm))) (congrArg Value.bool (decide_eq_decide.2 (iff_of_eq (qMF (by assumption) (by assumption) (by assumption) (by assumption) (by assumption)))))|exact(qBp V V V).as (v':= .bool (decide (qG1 ep bd hd nm))) (congrArg Value.bool (qMG (by omega))))) V<|J.b V<|J.c hK2<|J.A 2 ?_
  exact J.D<|J.Z hw0 V () V trivial [0] V (by decide)
theorem qOh(F:Hp)(ep bd nm:Nat)(hd:List UInt8)(i:Int)(A1 A2:Option Addr)(n1 c1 n2 c2:Nat)(h1:ep≤4294967295)(h2:bd<16)(h3:nm<64)(h4:hd.length=16):
    Ct prog 64 [.agg #[N64 ep,I (bd:Nat),Str hd,I (nm:Nat),I i,.slice A1 n1 c1,.slice A2 n2 c2]] [F] (λ_:Unit=>Str (plB ep bd nm)) (λ_=>True) (λ_=> [F]):=by
  refine Ct.walk func64 rfl ntmps64 rfl (λw0 hw0=>?_)
  change J _ [(0,_)] _ _ _
  refine J.g λK1 hK1=>J.q (qAi V V (l:= [N64 ep,I (bd:Nat),Str hd,I (nm:Nat),I i,.slice A1 n1 c1,.slice A2 n2 c2]) V) V λg1 _=>?_
  change J _ _ _ [F,blk g1 [N64 ep,I (bd:Nat),Str hd,I (nm:Nat),I i,.slice A1 n1 c1,.slice A2 n2 c2] 52] _
  refine J.b V<|J.c hK1<|J.A 1 ?_
  refine J.g λK2 hK2=>J.q (qAO V qKB V) V λg3 _=>?_
  change J _ _ _ [_,_,blk g3 _ 188] _
  refine J.c hK2<|J.E 1 3 ?_
  refine J.k λK3 hK3=>J.b7 [blk g1 [N64 ep,I (bd:Nat),Str hd,I (nm:Nat),I i,.slice A1 n1 c1,.slice A2 n2 c2] 52] [] (.y 0 (.y 1 (.y 3 (.y 4 (.y 5 (.y 7 (.y 8 (.y 9 (.e 2 (.e 6 (.e 10 (.e 11 (.y 12 (.y 13 (.y 14 (.y 15 (.y 16 .nil))))))))))))))))) Tryz.wide (by decide+kernel) (by simp) ?_
  refine J.p V (qAA (j:=0) V V qCa V qCG V) V V<|J.p V (qAD 0 V V V qCZ V) V V<|J.p V (qAA (j:=1) V V qCa V z3_ V) V V<|J.p V (qAD 0 V V V b3_ V) V V<|J.p V (qAp V V u3_ qED (m:=bd) (by omega)) V V<|J.p V (qAA (j:=3) V V qCa V z3_ V) V V<|J.p V (qAD 0 V V V b3_ V) V V<|J.p V (qAp V V u3_ qED (m:=nm) (by omega)) V V<|J.b2 V (qAB V V ent83 (Ct.use1 2 (m':=λx:Hp=>x) (new:=λ_=> []) V (λF' _=>qNm F' (blk g3 [.pointer none,.slice none 0 0,I 0] 188) g3 [] 0 (qMd g3) (by decide) ep (by omega) 4 (by omega) (by omega)))) V (by simp) ?_
  rintro m9 hw9
  change J _ _ _ [_,_,m9] _
  rw [(qIl (size:=4) (by omega) (by omega)),qEW,qDH (qIl (size:=4) (by omega) (by omega)),jp] at hw9
  refine J.b2 V (qAB V V ent83 (Ct.use1 2 (m':=λx:Hp=>x) (new:=λ_=> []) V (λF' _=>qE9 F' m9 g3 (Sha.numB (UInt64.ofNat ep) 4) 0 hw9 (by rw [Sha.numB_length];omega) (UInt64.ofNat bd) 1 (by omega) (by omega)))) rfl (by simp) ?_
  rintro m13 hw13
  change J _ _ _ [_,_,m13] _
  rw [(qIl (size:=1) (by omega) (by omega)),qEW,qDH (qIl (size:=1) (by omega) (by omega))] at hw13
  refine J.b2 V (qAB V V ent83 (Ct.use1 2 (m':=λx:Hp=>x) (new:=λ_=> []) V (λF' _=>qE9 F' m13 g3 ((Sha.numB (UInt64.ofNat ep) 4)++Sha.numB (UInt64.ofNat bd) 1) 0 hw13 (by rw [jA,Sha.numB_length,Sha.numB_length];omega) (UInt64.ofNat nm) 2 (by omega) (by omega)))) rfl (by simp) ?_
  rintro m17 hw17
  change J _ _ _ [_,_,m17] _
  rw [(qIl (size:=2) (by omega) (by omega)),qEW,qDH (qIl (size:=2) (by omega) (by omega))] at hw17
  refine J.b2 V (qAB V V ent86 (Ct.use1 2 (m':=λx:Hp=>x) (new:=λ_=> []) V (λF' _=>qFc F' m17 g3 (plB ep bd nm) 0 hw17 (by rw [qNX];omega)))) rfl (by simp) ?_
  rintro m18 _
  change J _ _ _ [_,_,m18] _
  refine J.L ?_
  refine J.d3 (Str (plB ep bd nm)) ?_
  refine J.d3 (I 0) ?_
  refine J.c3 ?_
  refine J.c3 ?_
  refine J.b3<|J.u (J.M hK3 ?_)
  refine J.A 4 ?_
  refine J.g λK4 hK4=>J.j 2 V<|J.c hK4<|J.A 2 ?_
  exact J.D<|J.Z hw0 V () V trivial [0] V (by decide)
theorem qBl(F:Hp)(hK:KF F)(ep bd nm:Nat)(hd:List UInt8)(i:Int)(A1 A2:Option Addr)(n1 c1 n2 c2:Nat)(h1:ep≤4294967295)(h2:bd<16)(h3:nm<64)(h4:hd.length=16):
    Ct prog 22 [.agg #[N64 ep,I (bd:Nat),Str hd,I (nm:Nat),I i,.slice A1 n1 c1,.slice A2 n2 c2]] [F] (λ_:Unit=>Str (atM ep bd nm hd)) (λ_=>True) (λ_=> [F]):=by
  refine Ct.walk func22 rfl ntmps22 rfl (λw0 hw0=>?_)
  change J _ [(0,_)] _ _ _
  refine J.g λK1 hK1=>J.q (qAi V V (l:= [N64 ep,I (bd:Nat),Str hd,I (nm:Nat),I i,.slice A1 n1 c1,.slice A2 n2 c2]) V) V λg1 _=>?_
  change J _ _ _ [F,blk g1 [N64 ep,I (bd:Nat),Str hd,I (nm:Nat),I i,.slice A1 n1 c1,.slice A2 n2 c2] 52] _
  refine J.b V<|J.c hK1<|J.A 1 ?_
  refine J.k λK2 hK2=>J.g λK3 hK3=>J.c8 1 qGM qCi V V V V V<|J.q (qAB V V ent63 (Ct.use0 (λF' hF=>qOi F' ep bd hd nm i A1 A2 n1 c1 n2 c2))) V λg4 _=>J.f ((qAw V V).as (v':= .bool false) (by rw [decide_eq_true (show qG1 ep bd hd nm from⟨h1,by omega,by omega,h4,by omega,by omega⟩)];rfl)) rfl<|J.c hK3<|J.E 1 5 ?_
  refine J.a5 ?_
  refine J.W hK2<|J.A 1 ?_
  refine J.k λK4 hK4=>J.b7 [blk g1 [N64 ep,I (bd:Nat),Str hd,I (nm:Nat),I i,.slice A1 n1 c1,.slice A2 n2 c2] 52] [] (.y 0 (.y 2 (.y 3 (.e 1 (.e 4 (.e 5 (.y 6 .nil))))))) Tryz.wide (by decide+kernel) (by simp) ?_
  refine J.p V (qAm 0 V V V qGM qCi V) V V<|J.p V (qAA (j:=2) V V qCa V z9_ V) V V<|J.p V (qAD 0 V V V b9_ V) V V<|J.b2 V (qAB V V ent64 (Ct.use0 (λF' hF=>qOh F' ep bd nm hd i A1 A2 n1 c1 n2 c2 h1 h2 h3 h4))) V (by simp) λg7 _=>J.b2 rfl (qAJ (l:= [.tmp 7,.tmp 9]) (xs:= [[Str (plB ep bd nm)],[Str (hd)]]) rfl rfl rfl rfl qAh el9 rfl (by decide) (by decide) (by simp)) rfl (by simp) λg10 _=>?_
  change J _ _ _ [_,_,blk g10 [Str (plB ep bd nm),Str (hd)] 9] _
  refine J.b2 V (qAB V V ent44 (Ct.use0 (λF' hF=>qA7 F' (hK.mono (hF _ (by simp))) 18 (some ⟨g10,0,none⟩) 2 2 [plB ep bd nm,hd] ((slS [plB ep bd nm,hd] rfl).mono (hF (blk g10 (([plB ep bd nm,hd]:List (List UInt8)).map λs=>Str s) 9) (by simp))) (by simp only [jW,jw,jS,jA,qNX,h4];decide) (by decide)))) rfl (by simp) λg11 _=>J.c3 ?_
  refine J.b3<|J.u (J.M hK4 ?_)
  refine J.A 2 ?_
  exact J.D<|J.Z hw0 V () V trivial [0] V (by decide)
theorem qMT(F:Hp)(hK:KF F)(ep bd nm:Nat)(hd:List UInt8)(h1:ep≤4294967295)(h2:bd<16)(h3:nm<64)(h4:hd.length=16)(o r:List UInt8)(i:Nat)(A1:Option Addr)(c1:Nat)(ch:List (List UInt8))(hch:Sl F 1 A1 35 c1 (qAH ch))(hc16: ∀s∈ch,s.length=16)(A2:Option Addr)(h c2:Nat)(pt:List (List UInt8))(hpt:Sl F 1 A2 h c2 (qAH pt))(hp16: ∀s∈pt,s.length=16)(ho:o.length≤1048576)(h6:h≤6)(hi:i<2^h):
    Ct prog 25 [.agg #[N64 ep,I (bd:Nat),Str hd,I (nm:Nat),I (i:Nat),.slice A1 35 c1,.slice A2 h c2],.agg #[Str o,Str r,I h]] [F] (λ_:Unit=> .bool (decide (Mk.climb (Wo.publicOf o i (Wo.ends o i (Wo.digs (Xm.digest o i (atM ep bd nm hd))) ch 35)) i pt=r))) (λ_=>True) (λ_=> [F]):=by
  refine Ct.walk func25 rfl ntmps25 rfl (λw0 hw0=>?_)
  change J _ [(0,_),(1,_)] _ _ _
  refine J.g λK1 hK1=>J.q (qAi V V (l:= [N64 ep,I (bd:Nat),Str hd,I (nm:Nat),I (i:Nat),.slice A1 35 c1,.slice A2 h c2]) V) V λg2 _=>?_
  change J _ _ _ [F,blk g2 [N64 ep,I (bd:Nat),Str hd,I (nm:Nat),I (i:Nat),.slice A1 35 c1,.slice A2 h c2] 52] _
  refine J.q (qAi V V (l:= [Str o,Str r,I h]) V) V λg3 _=>?_
  change J _ _ _ [_,_,blk g3 [Str o,Str r,I h] 54] _
  refine J.b V<|J.c hK1<|J.E 2 3 ?_
  refine J.k λK2 hK2=>J.b7 [blk g2 [N64 ep,I (bd:Nat),Str hd,I (nm:Nat),I (i:Nat),.slice A1 35 c1,.slice A2 h c2] 52,blk g3 [Str o,Str r,I h] 54] [] (.y 0 (.e 1 (.y 2 (.y 3 (.y 4 (.y 6 (.y 7 (.e 5 (.e 8 (.y 9 (.y 10 .nil))))))))))) Tryz.wide (by decide+kernel) (by simp) ?_
  refine J.p V (qAm 0 V V V qGM qCi V) V V<|J.b2 V (qAB V V ent63 (Ct.use0 (λF' hF=>(qOi F' ep bd hd nm (i:Nat) A1 A2 35 c1 h c2).mono (φ2:=λ_=>True) (val2:=λ_:Unit=> .bool true) id (λ_ _=>congrArg Value.bool (decide_eq_true (show qG1 ep bd hd nm from⟨h1,by omega,by omega,h4,by omega,by omega⟩))) (λ_ _=>trivial) (λ_ _ _ _ h=>h)))) rfl (by simp) λg6 _=>J.L ?_
  refine J.V V (qAm 1 V V V isAgg54 qMY V) V V<|J.V V (qAm 0 V V V qGM qCi V) V V<|J.V V (qAA (j:=4) V V qCa V qE5 V) V V<|J.V V (qNg 0 V V isAgg50 qE5 (vs:= [I (i:Nat),.slice A1 35 c1,.slice A2 h c2]) V (qAP.blk 4 (λj u hj=>by match j with|0=>exact hj|1=>exact hj|2=>exact hj)) rfl) rfl rfl<|J.e2 rfl (qAB rfl rfl ent22 (Ct.use0 (λF' hF=>qBl F' (hK.mono (hF _ (by simp))) ep bd nm hd (i:Nat) A1 A2 35 c1 h c2 h1 h2 h3 h4))) (Wan.is rfl rfl rfl rfl rfl) rfl rfl (by simp) ?_
  intro g10 _
  refine J.e2 V (qAB V V ent66 (Ct.use0 (λF' hF=>qLa F' (hK.mono (hF _ (by simp))) o r h (atM ep bd nm hd) i A1 c1 ch (hch.mono (hF F (by simp))) hc16 A2 c2 pt (hpt.mono (hF F (by simp))) (qJ1 hp16) ho (by rw [qD6];decide) h6 hi))) (Wan.is rfl rfl rfl rfl rfl) rfl rfl (by simp) ?_
  intro g13 _
  refine J.d1 ?_
  refine J.c3 ?_
  refine J.b3<|J.u (J.M hK2 ?_)
  refine J.A 4 ?_
  exact J.D<|J.Z hw0 V () V trivial [0] V (by decide)
end Go.Proofs.YtfldiegfenndjaaGreatDoor
