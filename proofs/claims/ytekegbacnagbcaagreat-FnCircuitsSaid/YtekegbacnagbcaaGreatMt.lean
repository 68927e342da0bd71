/- Matroids over bit masks: bases with exchange, ranks, circuits. Plain Lean, no program. -/
namespace Go.Proofs.YtekegbacnagbcaaGreat.Mt
def In (i s:Nat):Prop:=s.testBit i=true
def ins (a e:Nat):Nat:=a ||| 2 ^ e
def diff (a b:Nat):Nat:=a ^^^ (a &&& b)
def del (a e:Nat):Nat:=diff a (2 ^ e)
def card (s:Nat):Nat:=(List.range 8).countP fun i=>s.testBit i
def Sub (a b:Nat):Prop:=∀ i,In i a→In i b
theorem in_or (a b i:Nat):In i (a ||| b)↔In i a∨In i b:=by unfold In;simp [Nat.testBit_or]
theorem in_and (a b i:Nat):In i (a &&& b)↔In i a∧In i b:=by unfold In;simp [Nat.testBit_and]
theorem in_diff (a b i:Nat):In i (diff a b)↔In i a∧¬ In i b:=by
 unfold In diff;rw [Nat.testBit_xor,Nat.testBit_and];cases a.testBit i<;>cases b.testBit i<;>simp
theorem in_two (e i:Nat):In i (2 ^ e)↔e=i:=by unfold In;simp [Nat.testBit_two_pow]
theorem in_ins (a e i:Nat):In i (ins a e)↔In i a∨e=i:=by unfold ins;rw [in_or,in_two]
theorem in_del (a e i:Nat):In i (del a e)↔In i a∧e≠i:=by unfold del;rw [in_diff,in_two]
theorem not_in_zero (i:Nat):¬ In i 0:=by unfold In;simp
theorem ext {a b:Nat} (h:∀ i,In i a↔In i b):a=b:=Nat.eq_of_testBit_eq fun i=>Bool.eq_iff_iff.mpr (h i)
theorem Sub.refl (a:Nat):Sub a a:=fun _ h=>h
theorem Sub.trans {a b c:Nat} (h:Sub a b) (k:Sub b c):Sub a c:=fun i hi=>k i (h i hi)
theorem Sub.antisymm {a b:Nat} (h:Sub a b) (k:Sub b a):a=b:=ext fun i=>⟨h i,k i⟩
theorem not_sub {a b:Nat} (h:¬ Sub a b):∃ e,In e a∧¬ In e b:=by
 apply Classical.byContradiction;intro hn
 exact h fun i hi=>Classical.byContradiction fun hb=>hn ⟨i,hi,hb⟩
theorem in_lt {a i:Nat} (h:a<256) (hi:In i a):i<8:=by
 apply Classical.byContradiction;intro hn
 have:a<2 ^ i:=Nat.lt_of_lt_of_le h (show 2 ^ 8≤2 ^ i from Nat.pow_le_pow_right (by decide) (by omega))
 unfold In at hi;rw [Nat.testBit_lt_two_pow this] at hi;cases hi
theorem small_of {a:Nat} (h:∀ i,In i a→i<8):a<256:=by
 refine Nat.lt_pow_two_of_testBit (n:=8) a fun i hi=>?_
 cases hb:a.testBit i with
 | false=>rfl
 | true=>have:=h i hb;omega
theorem small_sub {a b:Nat} (h:Sub a b) (hb:b<256):a<256:=small_of fun i hi=>in_lt hb (h i hi)
theorem small_or {a b:Nat} (ha:a<256) (hb:b<256):a ||| b<256:=small_of fun i hi=>((in_or a b i).mp hi).elim (in_lt ha) (in_lt hb)
theorem small_ins {a e:Nat} (ha:a<256) (he:e<8):ins a e<256:=small_of fun i hi=>((in_ins a e i).mp hi).elim (in_lt ha) (fun h=>h ▸ he)
theorem sub_or_left (a b:Nat):Sub a (a ||| b):=fun i hi=>(in_or a b i).mpr (.inl hi)
theorem sub_or_right (a b:Nat):Sub b (a ||| b):=fun i hi=>(in_or a b i).mpr (.inr hi)
theorem sub_and_left (a b:Nat):Sub (a &&& b) a:=fun i hi=>((in_and a b i).mp hi).1
theorem sub_and_right (a b:Nat):Sub (a &&& b) b:=fun i hi=>((in_and a b i).mp hi).2
theorem sub_ins (a e:Nat):Sub a (ins a e):=fun i hi=>(in_ins a e i).mpr (.inl hi)
theorem sub_del (a e:Nat):Sub (del a e) a:=fun i hi=>((in_del a e i).mp hi).1
theorem in_ins_self (a e:Nat):In e (ins a e):=(in_ins a e e).mpr (.inr rfl)
theorem ins_sub {a b e:Nat} (h:Sub a b) (he:In e b):Sub (ins a e) b:=fun i hi=>((in_ins a e i).mp hi).elim (h i) (fun hh=>hh ▸ he)
theorem or_sub {a b c:Nat} (h:Sub a c) (k:Sub b c):Sub (a ||| b) c:=fun i hi=>((in_or a b i).mp hi).elim (h i) (k i)
/-! cardinality -/
theorem countP_or_and (l:List Nat) (p q:Nat→Bool):l.countP (fun i=>p i || q i)+l.countP (fun i=>p i && q i)=l.countP p+l.countP q:=by
 induction l with
 | nil=>rfl
 | cons x l ih=>simp only [List.countP_cons];cases p x<;>cases q x<;>simp<;>omega
theorem card_or_and (a b:Nat):card (a ||| b)+card (a &&& b)=card a+card b:=by
 unfold card;simp only [Nat.testBit_or,Nat.testBit_and];exact countP_or_and _ _ _
theorem card_zero:card 0=0:=by decide
theorem card_two {e:Nat} (he:e<8):card (2 ^ e)=1:=by
 have:∀ e,e<8→card (2 ^ e)=1:=by decide
 exact this e he
theorem card_mono {a b:Nat} (h:Sub a b):card a≤card b:=List.countP_mono_left fun i _ hi=>h i hi
theorem card_le (a:Nat):card a≤8:=List.countP_le_length
theorem card_ins {a e:Nat} (he:e<8) (hn:¬ In e a):card (ins a e)=card a+1:=by
 have h:=card_or_and a (2 ^ e)
 have h0:a &&& 2 ^ e=0:=ext fun i=>by
  rw [in_and,in_two];constructor
  ·rintro ⟨h1,rfl⟩;exact absurd h1 hn
  ·intro h1;exact absurd h1 (not_in_zero i)
 rw [h0,card_zero,card_two he] at h;exact h
theorem ins_del {a e:Nat} (h:In e a):ins (del a e) e=a:=ext fun i=>by
 rw [in_ins,in_del];constructor
 ·rintro (h1|rfl);exact h1.1;exact h
 ·intro h1;by_cases he:e=i;exact .inr he;exact .inl ⟨h1,he⟩
theorem not_in_del (a e:Nat):¬ In e (del a e):=fun h=>((in_del a e e).mp h).2 rfl
theorem card_del {a e:Nat} (he:e<8) (h:In e a):card (del a e)+1=card a:=by
 have:=card_ins he (not_in_del a e);rw [ins_del h] at this;omega
theorem card_eq {a b:Nat} (h:Sub a b) (hb:b<256) (hc:card b≤card a):a=b:=by
 by_cases hs:Sub b a
 ·exact h.antisymm hs
 ·obtain ⟨e,h1,h2⟩:=not_sub hs
  have h3:=card_ins (in_lt hb h1) h2
  have h4:=card_mono (ins_sub h h1)
  omega
theorem card_diff (a b:Nat):card (diff a b)+card (a &&& b)=card a:=by
 have h:=card_or_and (diff a b) (a &&& b)
 have h0:diff a b &&& (a &&& b)=0:=ext fun i=>by
  rw [in_and,in_diff,in_and];constructor
  ·rintro ⟨⟨_,h1⟩,_,h2⟩;exact absurd h2 h1
  ·intro h1;exact absurd h1 (not_in_zero i)
 have h1:diff a b ||| (a &&& b)=a:=ext fun i=>by
  rw [in_or,in_diff,in_and];constructor
  ·rintro (h1|h1);exact h1.1;exact h1.1
  ·intro h1;by_cases h2:In i b;exact .inr ⟨h1,h2⟩;exact .inl ⟨h1,h2⟩
 rw [h0,h1,card_zero] at h;omega
/-! matroids by their bases -/
structure M (B:List Nat):Prop where
 ne:∃ b,b ∈ B
 sm:∀ b,b ∈ B→b<256
 ex:∀ a,a ∈ B→∀ b,b ∈ B→∀ e,In e a→¬ In e b→∃ f,In f b∧¬ In f a∧ins (del a e) f ∈ B
section
variable {B:List Nat}
theorem M.cardeq0 (m:M B):∀ n a b,a ∈ B→b ∈ B→card (diff a b)=n→card a=card b:=by
 intro n
 induction n with
 | zero =>
  intro a b ha hb h0
  have hs:Sub a b:=by
   intro i hi
   apply Classical.byContradiction;intro hn
   have hd:In i (diff a b):=(in_diff a b i).mpr ⟨hi,hn⟩
   have:=card_del (in_lt (m.sm a ha) hi) hd
   omega
  by_cases hs':Sub b a
  ·rw [hs.antisymm hs']
  ·obtain ⟨e,h1,h2⟩:=not_sub hs'
   obtain ⟨f,h3,h4,_⟩:=m.ex b hb a ha e h1 h2
   exact absurd (hs f h3) h4
 | succ n ih =>
  intro a b ha hb h0
  have hex:∃ e,In e (diff a b):=by
   apply Classical.byContradiction;intro hn
   have h1:Sub (diff a b) 0:=fun i hi=>absurd ⟨i,hi⟩ hn
   have:=card_mono h1
   rw [card_zero] at this;omega
  obtain ⟨e,he⟩:=hex
  obtain ⟨h1,h2⟩:=(in_diff a b e).mp he
  obtain ⟨f,h3,h4,h5⟩:=m.ex a ha b hb e h1 h2
  have e8:=in_lt (m.sm a ha) h1
  have f8:=in_lt (m.sm b hb) h3
  have hd:diff (ins (del a e) f) b=del (diff a b) e:=ext fun i=>by
   rw [in_diff,in_ins,in_del,in_del,in_diff];constructor
   ·rintro ⟨h6|rfl,h7⟩
    ·exact ⟨⟨h6.1,h7⟩,h6.2⟩
    ·exact absurd h3 h7
   ·rintro ⟨⟨h6,h7⟩,h8⟩;exact ⟨.inl ⟨h6,h8⟩,h7⟩
  have hc:=card_del e8 he
  have h6:=ih _ b h5 hb (by rw [hd];omega)
  have h7:¬ In f (del a e):=fun h=>h4 ((in_del a e f).mp h).1
  have h8:=card_ins f8 h7
  have h9:=card_del e8 h1
  omega
theorem M.cardeq (m:M B) {a b:Nat} (ha:a ∈ B) (hb:b ∈ B):card a=card b:=m.cardeq0 _ a b ha hb rfl
def Indep (B:List Nat) (s:Nat):Prop:=∃ b,b ∈ B∧Sub s b
theorem Indep.sub {s t:Nat} (h:Indep B t) (hs:Sub s t):Indep B s:=by obtain ⟨b,hb,k⟩:=h;exact ⟨b,hb,hs.trans k⟩
theorem M.small (m:M B) {s:Nat} (h:Indep B s):s<256:=by obtain ⟨b,hb,k⟩:=h;exact small_sub k (m.sm b hb)
theorem M.around (m:M B) {I b2:Nat} (h2:b2 ∈ B):∀ n b,b ∈ B→Sub I b→card (diff b (I ||| b2))=n→∃ b',b' ∈ B∧Sub I b'∧Sub b' (I ||| b2):=by
 intro n
 induction n with
 | zero =>
  intro b hb hI h0
  refine ⟨b,hb,hI,fun i hi=>?_⟩
  apply Classical.byContradiction;intro hn
  have hd:In i (diff b (I ||| b2)):=(in_diff _ _ i).mpr ⟨hi,hn⟩
  have:=card_del (in_lt (m.sm b hb) hi) hd
  omega
 | succ n ih =>
  intro b hb hI h0
  have hex:∃ e,In e (diff b (I ||| b2)):=by
   apply Classical.byContradiction;intro hn
   have h1:Sub (diff b (I ||| b2)) 0:=fun i hi=>absurd ⟨i,hi⟩ hn
   have:=card_mono h1
   rw [card_zero] at this;omega
  obtain ⟨e,he⟩:=hex
  obtain ⟨h1,h3⟩:=(in_diff _ _ e).mp he
  have h4:¬ In e I:=fun h=>h3 ((in_or _ _ e).mpr (.inl h))
  have h5:¬ In e b2:=fun h=>h3 ((in_or _ _ e).mpr (.inr h))
  obtain ⟨f,h6,h7,h8⟩:=m.ex b hb b2 h2 e h1 h5
  have hd:diff (ins (del b e) f) (I ||| b2)=del (diff b (I ||| b2)) e:=ext fun i=>by
   rw [in_diff,in_ins,in_del,in_del,in_diff,in_or];constructor
   ·rintro ⟨h9|rfl,h10⟩
    ·exact ⟨⟨h9.1,h10⟩,h9.2⟩
    ·exact absurd (Or.inr h6) h10
   ·rintro ⟨⟨h9,h10⟩,h11⟩;exact ⟨.inl ⟨h9,h11⟩,h10⟩
  have hc:=card_del (in_lt (m.sm b hb) h1) he
  exact ih _ h8 (fun i hi=>(in_ins _ _ i).mpr (.inl ((in_del _ _ i).mpr ⟨hI i hi,fun hh=>h4 (hh ▸ hi)⟩))) (by rw [hd];omega)
theorem M.augment (m:M B) {I J:Nat} (hI:Indep B I) (hJ:Indep B J) (hc:card I<card J):∃ e,In e J∧¬ In e I∧Indep B (ins I e):=by
 obtain ⟨b1,hb1,k1⟩:=hI
 obtain ⟨b2,hb2,k2⟩:=hJ
 obtain ⟨b,hb,k3,k4⟩:=m.around hb2 _ b1 hb1 k1 rfl
 apply Classical.byContradiction;intro hn
 have hs:Sub b (I ||| diff b2 J):=by
  intro i hi
  rw [in_or,in_diff]
  by_cases hiI:In i I
  ·exact .inl hiI
  ·refine .inr ⟨((in_or _ _ i).mp (k4 i hi)).resolve_left hiI,fun hiJ=>hn ⟨i,hiJ,hiI,b,hb,ins_sub k3 hi⟩⟩
 have h1:=card_mono hs
 have h2:=card_or_and I (diff b2 J)
 have h3:=card_diff b2 J
 have h4:b2 &&& J=J:=ext fun i=>by rw [in_and];exact ⟨fun h=>h.2,fun h=>⟨k2 i h,h⟩⟩
 rw [h4] at h3
 have h5:=m.cardeq hb hb2
 omega
def IsRank (B:List Nat) (s r:Nat):Prop:=(∃ b,b ∈ B∧card (b &&& s)=r)∧∀ b,b ∈ B→card (b &&& s)≤r
theorem IsRank.upper {s r I:Nat} (h:IsRank B s r) (hI:Indep B I) (hs:Sub I s):card I≤r:=by
 obtain ⟨b,hb,k⟩:=hI
 have h1:Sub I (b &&& s):=fun i hi=>(in_and _ _ i).mpr ⟨k i hi,hs i hi⟩
 have:=card_mono h1;have:=h.2 b hb;omega
theorem IsRank.le {s r:Nat} (h:IsRank B s r):r≤card s:=by
 obtain ⟨⟨b,hb,e⟩,_⟩:=h;have:=card_mono (sub_and_right b s);omega
theorem IsRank.mono {s t r q:Nat} (h:IsRank B s r) (k:IsRank B t q) (hs:Sub s t):r≤q:=by
 obtain ⟨⟨b,hb,e⟩,_⟩:=h
 have h1:Sub (b &&& s) (b &&& t):=fun i hi=>(in_and _ _ i).mpr ⟨((in_and _ _ i).mp hi).1,hs i ((in_and _ _ i).mp hi).2⟩
 have:=card_mono h1;have:=k.2 b hb;omega
theorem M.grow (m:M B) {s r:Nat} (h:IsRank B s r):∀ n I,Indep B I→Sub I s→card I+n=r→∃ K,Indep B K∧Sub I K∧Sub K s∧card K=r:=by
 intro n
 induction n with
 | zero=>intro I hI hs hc;exact ⟨I,hI,Sub.refl I,hs,by omega⟩
 | succ n ih =>
  intro I hI hs hc
  obtain ⟨⟨b,hb,e⟩,h2⟩:=h
  have hJ:Indep B (b &&& s):=⟨b,hb,sub_and_left b s⟩
  obtain ⟨x,h3,h4,h5⟩:=m.augment hI hJ (by omega)
  have h6:=card_ins (in_lt (m.sm b hb) (sub_and_left b s x h3)) h4
  obtain ⟨K,k1,k2,k3,k4⟩:=ih (ins I x) h5 (ins_sub hs (sub_and_right b s x h3)) (by omega)
  exact ⟨K,k1,(sub_ins I x).trans k2,k3,k4⟩
theorem M.within (m:M B) {s r I:Nat} (h:IsRank B s r) (hI:Indep B I) (hs:Sub I s):∃ K,Indep B K∧Sub I K∧Sub K s∧card K=r:=by
 have:=h.upper hI hs
 exact m.grow h (r - card I) I hI hs (by omega)
theorem M.empty (m:M B):Indep B 0:=by obtain ⟨b,hb⟩:=m.ne;exact ⟨b,hb,fun i hi=>absurd hi (not_in_zero i)⟩
theorem M.submodular (m:M B) {s t rs rt ru ri:Nat} (hs:IsRank B s rs) (ht:IsRank B t rt) (hu:IsRank B (s ||| t) ru) (hi:IsRank B (s &&& t) ri):ru+ri≤rs+rt:=by
 obtain ⟨I,i1,_,i3,i4⟩:=m.within hi m.empty (fun i hh=>absurd hh (not_in_zero i))
 obtain ⟨J,j1,j2,j3,j4⟩:=m.within hu i1 (i3.trans ((sub_and_left s t).trans (sub_or_left s t)))
 have h1:=hs.upper (j1.sub (sub_and_left J s)) (sub_and_right J s)
 have h2:=ht.upper (j1.sub (sub_and_left J t)) (sub_and_right J t)
 have h3:=card_or_and (J &&& s) (J &&& t)
 have h4:(J &&& s) ||| (J &&& t)=J:=ext fun i=>by
  rw [in_or,in_and,in_and];constructor
  ·rintro (h|h);exact h.1;exact h.1
  ·intro h;rcases (in_or _ _ i).mp (j3 i h) with k|k;exact .inl ⟨h,k⟩;exact .inr ⟨h,k⟩
 have h5:Sub I ((J &&& s) &&& (J &&& t)):=fun i hh=>by
  rw [in_and,in_and,in_and]
  exact ⟨⟨j2 i hh,sub_and_left s t i (i3 i hh)⟩,⟨j2 i hh,sub_and_right s t i (i3 i hh)⟩⟩
 have h6:=card_mono h5
 rw [h4] at h3;omega
theorem M.closure (m:M B) {s c r q:Nat} (hs:IsRank B s r) (hc:IsRank B c q) (hsc:Sub s c) (h:∀ e,In e c→IsRank B (ins s e) r):q=r:=by
 have h1:=hs.mono hc hsc
 apply Classical.byContradiction;intro hn
 obtain ⟨I,i1,_,i3,i4⟩:=m.within hs m.empty (fun i hh=>absurd hh (not_in_zero i))
 obtain ⟨K,k1,_,k3,k4⟩:=m.within hc m.empty (fun i hh=>absurd hh (not_in_zero i))
 obtain ⟨e,e1,e2,e3⟩:=m.augment i1 k1 (by omega)
 have h2:=(h e (k3 e e1)).upper e3 (ins_sub (i3.trans (sub_ins s e)) (in_ins_self s e))
 have h3:=card_ins (in_lt (m.small k1) e1) e2
 omega
/-! circuits -/
theorem M.elim (m:M B) {C D e rc rd ru ri:Nat} (hC:¬ Indep B C) (mC:∀ t,Sub t C→t≠C→Indep B t) (hD:¬ Indep B D) (mD:∀ t,Sub t D→t≠D→Indep B t)
  (sC:C<256) (sD:D<256) (hne:C≠D) (eC:In e C) (_eD:In e D) (r1:IsRank B C rc) (r2:IsRank B D rd) (r3:IsRank B (C ||| D) ru) (r4:IsRank B (C &&& D) ri):¬ Indep B (del (C ||| D) e):=by
 intro hI
 have low:∀ X r,X<256→¬ Indep B X→IsRank B X r→r+1≤card X:=by
  intro X r sX dX hr
  have h1:=hr.le
  apply Classical.byContradiction;intro hn
  obtain ⟨K,k1,_,k3,k4⟩:=m.within hr m.empty (fun i hh=>absurd hh (not_in_zero i))
  have:=card_eq k3 sX (by omega)
  exact dX (this ▸ k1)
 have h1:=low C rc sC hC r1
 have h2:=low D rd sD hD r2
 have h3:Indep B (C &&& D):=by
  refine mC _ (sub_and_left C D) fun hq=>?_
  have hs:Sub C D:=fun i hi=>sub_and_right C D i (hq.symm ▸ hi)
  exact hC (mD C hs hne)
 have h4:=r4.upper h3 (Sub.refl _)
 have h5:=m.submodular r1 r2 r3 r4
 have h6:=card_or_and C D
 have h7:=r3.upper hI (sub_del _ e)
 have h8:=card_del (in_lt (small_or sC sD) ((in_or C D e).mpr (.inl eC))) ((in_or C D e).mpr (.inl eC))
 omega
theorem M.fundamental (m:M B) {b e c:Nat} (hb:b ∈ B) (e8:e<8) (he:¬ In e b) (hc:∀ f,In f c↔f=e∨In f b∧ins (del b f) e ∈ B):¬ Indep B c∧∀ t,Sub t c→t≠c→Indep B t:=by
 constructor
 ·rintro ⟨b1,hb1,k1⟩
  obtain ⟨b2,h1,h2,h3⟩:=m.around hb _ b1 hb1 k1 rfl
  have h4:=m.cardeq h1 hb
  have e2:In e b2:=h2 e ((hc e).mpr (.inl rfl))
  have h5:¬ Sub b b2:=by
   intro hs
   have:=card_mono (ins_sub hs e2)
   rw [card_ins e8 he] at this;omega
  obtain ⟨g,g1,g2⟩:=not_sub h5
  have hs2:Sub b2 (ins (del b g) e):=by
   intro i hi
   rw [in_ins,in_del]
   rcases (in_or c b i).mp (h3 i hi) with k|k
   ·rcases (hc i).mp k with k|k
    ·exact .inr k.symm
    ·exact .inl ⟨k.1,fun hg=>g2 (hg ▸ hi)⟩
   ·exact .inl ⟨k,fun hg=>g2 (hg ▸ hi)⟩
  have g8:=in_lt (m.sm b hb) g1
  have h6:=card_del g8 g1
  have h7:¬ In e (del b g):=fun h=>he ((in_del b g e).mp h).1
  have h8:=card_ins e8 h7
  have h9:=card_eq hs2 (small_ins (small_sub (sub_del b g) (m.sm b hb)) e8) (by omega)
  exact g2 (h2 g ((hc g).mpr (.inr ⟨g1,h9 ▸ h1⟩)))
 ·intro t ht hne
  have hn:¬ Sub c t:=fun hs=>hne (ht.antisymm hs)
  obtain ⟨f,f1,f2⟩:=not_sub hn
  rcases (hc f).mp f1 with rfl|⟨k1,k2⟩
  ·refine ⟨b,hb,fun i hi=>?_⟩
   rcases (hc i).mp (ht i hi) with rfl|k
   ·exact absurd hi f2
   ·exact k.1
  ·refine ⟨_,k2,fun i hi=>?_⟩
   rw [in_ins,in_del]
   rcases (hc i).mp (ht i hi) with rfl|k
   ·exact .inr rfl
   ·exact .inl ⟨k.1,fun hg=>f2 (hg ▸ hi)⟩
theorem least_dep (P:Nat→Prop):∀ n s,s<256→P s→card s=n→∃ c,Sub c s∧P c∧∀ t,Sub t c→t≠c→¬ P t:=by
 intro n
 induction n using Nat.strongRecOn with
 | ind n ih =>
  intro s hs hp hn
  by_cases h:∃ t,Sub t s∧t≠s∧P t
  ·obtain ⟨t,h1,h2,h3⟩:=h
   have h4:card t<n:=by
    have:=card_mono h1
    apply Classical.byContradiction;intro hq
    exact h2 (card_eq h1 hs (by omega))
   obtain ⟨c,c1,c2,c3⟩:=ih _ h4 t (small_sub h1 hs) h3 rfl
   exact ⟨c,c1.trans h1,c2,c3⟩
  ·exact ⟨s,Sub.refl s,hp,fun t h1 h2 h3=>h ⟨t,h1,h2,h3⟩⟩
end
structure CA (L:List Nat):Prop where
 z:0 ∉ L
 sm:∀ c,c ∈ L→c<256
 anti:∀ a,a ∈ L→∀ b,b ∈ L→Sub a b→a=b
 el:∀ a,a ∈ L→∀ b,b ∈ L→a≠b→∀ e,In e a→In e b→∃ c,c ∈ L∧Sub c (del (a ||| b) e)
def Free (L:List Nat) (s:Nat):Prop:=∀ c,c ∈ L→¬ Sub c s
section
variable {L:List Nat}
theorem Free.sub {s t:Nat} (h:Free L t) (k:Sub s t):Free L s:=fun c hc hs=>h c hc (hs.trans k)
theorem not_free {s:Nat} (h:¬ Free L s):∃ c,c ∈ L∧Sub c s:=by
 apply Classical.byContradiction;intro hn;exact h fun c hc hs=>hn ⟨c,hc,hs⟩
theorem CA.strong (h:CA L):∀ n C D,C ∈ L→D ∈ L→card (C ||| D)≤n→∀ f e,In f C→In f D→In e C→¬ In e D→∃ X,X ∈ L∧In e X∧Sub X (del (C ||| D) f):=by
 intro n
 induction n with
 | zero =>
  intro C D hC hD hn f e fC fD eC eD
  have:=card_del (in_lt (h.sm C hC) eC) eC
  have:=card_mono (sub_or_left C D)
  omega
 | succ n ih =>
  intro C D hC hD hn f e fC fD eC eD
  obtain ⟨X,hX,kX⟩:=h.el C hC D hD (fun hq=>eD (hq ▸ eC)) f fC fD
  by_cases eX:In e X
  ·exact ⟨X,hX,eX,kX⟩
  ·have fX:¬ In f X:=fun hf=>not_in_del _ _ (kX f hf)
   have nX:¬ Sub X C:=fun hs=>fX (h.anti X hX C hC hs ▸ fC)
   obtain ⟨g,gX,gC⟩:=not_sub nX
   have gD:In g D:=((in_or C D g).mp (sub_del _ _ g (kX g gX))).resolve_left gC
   have s1:Sub (D ||| X) (C ||| D):=or_sub (sub_or_right C D) (kX.trans (sub_del _ _))
   have e8:=in_lt (h.sm C hC) eC
   have n1:¬ In e (D ||| X):=fun hh=>((in_or D X e).mp hh).elim eD eX
   have c1:=card_ins e8 n1
   have c2:=card_mono (ins_sub s1 ((in_or C D e).mpr (.inl eC)))
   obtain ⟨Y,hY,fY,kY⟩:=ih D X hD hX (by omega) g f gD gX fD fX
   have eY:¬ In e Y:=fun hh=>n1 (sub_del _ _ e (kY e hh))
   have gY:¬ In g Y:=fun hh=>not_in_del _ _ (kY g hh)
   have s2:Sub (C ||| Y) (C ||| D):=or_sub (sub_or_left C D) ((kY.trans (sub_del _ _)).trans s1)
   have n2:¬ In g (C ||| Y):=fun hh=>((in_or C Y g).mp hh).elim gC gY
   have c3:=card_ins (in_lt (h.sm D hD) gD) n2
   have c4:=card_mono (ins_sub s2 ((in_or C D g).mpr (.inr gD)))
   obtain ⟨Z,hZ,eZ,kZ⟩:=ih C Y hC hY (by omega) f e fC fY eC eY
   refine ⟨Z,hZ,eZ,fun i hi=>?_⟩
   obtain ⟨q1,q2⟩:=(in_del _ _ i).mp (kZ i hi)
   exact (in_del _ _ i).mpr ⟨s2 i q1,q2⟩
structure Bs (L:List Nat) (n b:Nat):Prop where
 lt:∀ i,In i b→i<n
 fr:Free L b
 mx:∀ e,e<n→¬ In e b→¬ Free L (ins b e)
theorem CA.exchange (h:CA L) {n a b e:Nat} (ha:Bs L n a) (hb:Bs L n b) (ea:In e a) (eb:¬ In e b):∃ f,In f b∧¬ In f a∧Bs L n (ins (del a e) f):=by
 have step:∃ f,In f b∧¬ In f a∧Free L (ins (del a e) f):=by
  apply Classical.byContradiction;intro hn
  obtain ⟨D,hD,kD⟩:=not_free (hb.mx e (ha.lt e ea) eb)
  have eD:In e D:=Classical.byContradiction fun hh=>hb.fr D hD fun i hi=>((in_ins b e i).mp (kD i hi)).elim id (fun hq=>absurd (hq ▸ hi) hh)
  have key:∀ k D,D ∈ L→In e D→Sub D (a ||| b)→card (diff D a)≤k→False:=by
   intro k
   induction k with
   | zero =>
    intro D hD eD kD hk
    refine ha.fr D hD fun i hi=>Classical.byContradiction fun hh=>?_
    have:=card_del (in_lt (h.sm D hD) hi) ((in_diff D a i).mpr ⟨hi,hh⟩)
    omega
   | succ k ih =>
    intro D hD eD kD hk
    obtain ⟨f,fD,fa⟩:=not_sub (ha.fr D hD)
    have fb:In f b:=((in_or a b f).mp (kD f fD)).resolve_left fa
    obtain ⟨C,hC,kC⟩:=not_free fun hh=>hn ⟨f,fb,fa,hh⟩
    have fC:In f C:=Classical.byContradiction fun hh=>ha.fr C hC fun i hi=>((in_ins _ _ i).mp (kC i hi)).elim (fun q=>sub_del a e i q) (fun q=>absurd (q ▸ hi) hh)
    have eC:¬ In e C:=fun hh=>((in_ins _ _ e).mp (kC e hh)).elim (not_in_del a e) (fun q=>fa (q ▸ ea))
    obtain ⟨X,hX,eX,kX⟩:=h.strong _ D C hD hC (Nat.le_refl _) f e fD fC eD eC
    have s1:Sub X (a ||| b):=fun i hi=>by
     rcases (in_or D C i).mp (sub_del _ _ i (kX i hi)) with q|q
     ·exact kD i q
     ·rcases (in_ins _ _ i).mp (kC i q) with q|q
      ·exact (in_or a b i).mpr (.inl (sub_del a e i q))
      ·exact (in_or a b i).mpr (.inr (q ▸ fb))
    have s2:Sub (diff X a) (del (diff D a) f):=fun i hi=>by
     obtain ⟨q1,q2⟩:=(in_diff X a i).mp hi
     obtain ⟨q3,q4⟩:=(in_del _ _ i).mp (kX i q1)
     refine (in_del _ _ i).mpr ⟨(in_diff D a i).mpr ⟨?_,q2⟩,q4⟩
     rcases (in_or D C i).mp q3 with q|q
     ·exact q
     ·rcases (in_ins _ _ i).mp (kC i q) with q|q
      ·exact absurd (sub_del a e i q) q2
      ·exact absurd q q4
    have c1:=card_del (in_lt (h.sm D hD) fD) ((in_diff D a f).mpr ⟨fD,fa⟩)
    have c2:=card_mono s2
    exact ih X hX eX s1 (by omega)
  exact key _ D hD eD (kD.trans (ins_sub (sub_or_right a b) ((in_or a b e).mpr (.inl ea)))) (Nat.le_refl _)
 obtain ⟨f,fb,fa,hf⟩:=step
 refine ⟨f,fb,fa,⟨fun i hi=>?_,hf,fun x xn xa hx=>?_⟩⟩
 ·rcases (in_ins _ _ i).mp hi with q|q
  ·exact ha.lt i (sub_del a e i q)
  ·exact q ▸ hb.lt f fb
 ·have fn:=hb.lt f fb
  by_cases hxe:x=e
  ·subst hxe
   refine ha.mx f fn fa (hx.sub fun i hi=>?_)
   rw [in_ins,in_ins,in_del]
   rcases (in_ins _ _ i).mp hi with q|q
   ·by_cases hi2:x=i
    ·exact .inr hi2
    ·exact .inl (.inl ⟨q,hi2⟩)
   ·exact .inl (.inr q)
  ·have xa1:¬ In x a:=fun hh=>xa ((in_ins _ _ x).mpr (.inl ((in_del _ _ x).mpr ⟨hh,fun q=>hxe q.symm⟩)))
   have xf:f≠x:=fun q=>xa ((in_ins _ _ x).mpr (.inr q))
   obtain ⟨C,hC,kC⟩:=not_free (ha.mx x xn xa1)
   obtain ⟨D,hD,kD⟩:=not_free (ha.mx f fn fa)
   have xC:In x C:=Classical.byContradiction fun hh=>ha.fr C hC fun i hi=>((in_ins _ _ i).mp (kC i hi)).elim id (fun q=>absurd (q ▸ hi) hh)
   by_cases eC:In e C
   ·have eD:In e D:=Classical.byContradiction fun hh=>hf D hD fun i hi=>by
     rw [in_ins,in_del]
     rcases (in_ins _ _ i).mp (kD i hi) with q|q
     ·exact .inl ⟨q,fun hq=>hh (hq ▸ hi)⟩
     ·exact .inr q
    have hne:C≠D:=fun hq=>by
     rcases (in_ins _ _ x).mp (kD x (hq ▸ xC)) with q|q
     ·exact xa1 q
     ·exact xf q
    obtain ⟨Y,hY,kY⟩:=h.el C hC D hD hne e eC eD
    refine hx Y hY fun i hi=>?_
    obtain ⟨q1,q2⟩:=(in_del _ _ i).mp (kY i hi)
    rw [in_ins,in_ins,in_del]
    rcases (in_or C D i).mp q1 with q|q
    ·rcases (in_ins _ _ i).mp (kC i q) with q|q
     ·exact .inl (.inl ⟨q,q2⟩)
     ·exact .inr q
    ·rcases (in_ins _ _ i).mp (kD i q) with q|q
     ·exact .inl (.inl ⟨q,q2⟩)
     ·exact .inl (.inr q)
   ·refine hx C hC fun i hi=>?_
    rw [in_ins,in_ins,in_del]
    rcases (in_ins _ _ i).mp (kC i hi) with q|q
    ·exact .inl (.inl ⟨q,fun hq=>eC (hq ▸ hi)⟩)
    ·exact .inr q
theorem free_extends {n:Nat} (n8:n≤8):∀ k s,(∀ i,In i s→i<n)→Free L s→8≤card s+k→∃ b,Bs L n b∧Sub s b:=by
 intro k
 induction k with
 | zero =>
  intro s hs hf hk
  refine ⟨s,⟨hs,hf,fun e he hn=>?_⟩,Sub.refl s⟩
  have:=card_ins (show e<8 by omega) hn
  have:=card_le (ins s e)
  omega
 | succ k ih =>
  intro s hs hf hk
  by_cases h:∃ e,e<n∧¬ In e s∧Free L (ins s e)
  ·obtain ⟨e,h1,h2,h3⟩:=h
   have h4:=card_ins (show e<8 by omega) h2
   obtain ⟨b,b1,b2⟩:=ih (ins s e) (fun i hi=>((in_ins s e i).mp hi).elim (hs i) (fun q=>q ▸ h1)) h3 (by omega)
   exact ⟨b,b1,(sub_ins s e).trans b2⟩
  ·exact ⟨s,⟨hs,hf,fun e h1 h2 h3=>h ⟨e,h1,h2,h3⟩⟩,Sub.refl s⟩
section
variable {B:List Nat} {n:Nat}
theorem CA.matroid (h:CA L) (n8:n≤8) (hB:∀ s,s ∈ B↔Bs L n s):M B where
 ne:=by
  have h0:Free L 0:=fun c hc hs=>h.z ((hs.antisymm fun i hi=>absurd hi (not_in_zero i)) ▸ hc)
  obtain ⟨b,b1,_⟩:=free_extends n8 8 0 (fun i hi=>absurd hi (not_in_zero i)) h0 (by omega)
  exact ⟨b,(hB b).mpr b1⟩
 sm:=fun b hb=>small_of fun i hi=>by have:=((hB b).mp hb).lt i hi;omega
 ex:=fun a ha b hb e ea eb=>by
  obtain ⟨f,f1,f2,f3⟩:=h.exchange ((hB a).mp ha) ((hB b).mp hb) ea eb
  exact ⟨f,f1,f2,(hB _).mpr f3⟩
theorem indep_iff_free (n8:n≤8) (hB:∀ s,s ∈ B↔Bs L n s) {s:Nat} (hs:∀ i,In i s→i<n):Indep B s↔Free L s:=by
 constructor
 ·rintro ⟨b,hb,k⟩;exact ((hB b).mp hb).fr.sub k
 ·intro hf
  obtain ⟨b,b1,b2⟩:=free_extends n8 8 s hs hf (by omega)
  exact ⟨b,(hB b).mpr b1,b2⟩
theorem CA.circuits (h:CA L) (n8:n≤8) (hL:∀ c,c ∈ L→∀ i,In i c→i<n) (hB:∀ s,s ∈ B↔Bs L n s) {s:Nat} (hs:∀ i,In i s→i<n) :
  (¬ Indep B s∧∀ t,Sub t s→t≠s→Indep B t)↔s ∈ L:=by
 constructor
 ·rintro ⟨h1,h2⟩
  obtain ⟨c,c1,c2⟩:=not_free fun hf=>h1 ((indep_iff_free n8 hB hs).mpr hf)
  have:c=s:=Classical.byContradiction fun hne=>(indep_iff_free n8 hB (hL c c1)).mp (h2 c c2 hne) c c1 (Sub.refl c)
  exact this ▸ c1
 ·intro hL1
  refine ⟨fun hI=>(indep_iff_free n8 hB hs).mp hI s hL1 (Sub.refl s),fun t ht hne=>(indep_iff_free n8 hB fun i hi=>hs i (ht i hi)).mpr fun c hc hs1=>?_⟩
  have:=h.anti c hc s hL1 (hs1.trans ht)
  subst this;exact hne (ht.antisymm hs1)
def AllCirc (B L:List Nat) (n:Nat):Prop:=∀ s,s ∈ L↔(∀ i,In i s→i<n)∧¬ Indep B s∧∀ t,Sub t s→t≠s→Indep B t
theorem rank_ex (m:M B) (s:Nat):∃ r,IsRank B s r:=by
 have key:∀ l:List Nat,(∃ b,b ∈ l)→∃ r,IsRank l s r:=by
  intro l
  induction l with
  | nil=>rintro ⟨b,hb⟩;cases hb
  | cons x l ih =>
   intro _
   by_cases hl:∃ b,b ∈ l
   ·obtain ⟨r,⟨b,hb,e1⟩,h2⟩:=ih hl
    by_cases hx:r≤card (x &&& s)
    ·refine ⟨_,⟨x,List.mem_cons_self,rfl⟩,fun c hc=>?_⟩
     rcases List.mem_cons.mp hc with rfl|hc
     ·exact Nat.le_refl _
     ·exact Nat.le_trans (h2 c hc) hx
    ·refine ⟨r,⟨b,List.mem_cons_of_mem _ hb,e1⟩,fun c hc=>?_⟩
     rcases List.mem_cons.mp hc with rfl|hc
     ·omega
     ·exact h2 c hc
   ·refine ⟨_,⟨x,List.mem_cons_self,rfl⟩,fun c hc=>?_⟩
    rcases List.mem_cons.mp hc with rfl|hc
    ·exact Nat.le_refl _
    ·exact absurd ⟨c,hc⟩ hl
 exact key B m.ne
theorem M.ca (m:M B) (n8:n≤8) (hL:AllCirc B L n):CA L where
 z:=fun h=>((hL 0).mp h).2.1 m.empty
 sm:=fun c hc=>small_of fun i hi=>by have:=((hL c).mp hc).1 i hi;omega
 anti:=fun a ha b hb hs=>Classical.byContradiction fun hne=>((hL a).mp ha).2.1 (((hL b).mp hb).2.2 a hs hne)
 el:=fun a ha b hb hne e ea eb=>by
  obtain ⟨a1,a2,a3⟩:=(hL a).mp ha
  obtain ⟨b1,b2,b3⟩:=(hL b).mp hb
  have sa:a<256:=small_of fun i hi=>by have:=a1 i hi;omega
  have sb:b<256:=small_of fun i hi=>by have:=b1 i hi;omega
  obtain ⟨_,r1⟩:=rank_ex m a
  obtain ⟨_,r2⟩:=rank_ex m b
  obtain ⟨_,r3⟩:=rank_ex m (a ||| b)
  obtain ⟨_,r4⟩:=rank_ex m (a &&& b)
  have hd:=m.elim a2 a3 b2 b3 sa sb hne ea eb r1 r2 r3 r4
  have sd:del (a ||| b) e<256:=small_sub (sub_del _ _) (small_or sa sb)
  obtain ⟨c,c1,c2,c3⟩:=least_dep (fun t=>¬ Indep B t) _ _ sd hd rfl
  refine ⟨c,(hL c).mpr ⟨fun i hi=>?_,c2,fun t h1 h2=>Classical.byContradiction (c3 t h1 h2)⟩,c1⟩
  rcases (in_or a b i).mp (sub_del _ _ i (c1 i hi)) with q|q
  ·exact a1 i q
  ·exact b1 i q
theorem M.free (_m:M B) (n8:n≤8) (hL:AllCirc B L n) {s:Nat} (hs:∀ i,In i s→i<n):Indep B s↔Free L s:=by
 constructor
 ·intro hI c hc hsub;exact ((hL c).mp hc).2.1 (hI.sub hsub)
 ·intro hf
  apply Classical.byContradiction;intro hd
  have s8:s<256:=small_of fun i hi=>by have:=hs i hi;omega
  obtain ⟨c,c1,c2,c3⟩:=least_dep (fun t=>¬ Indep B t) _ _ s8 hd rfl
  exact hf c ((hL c).mpr ⟨fun i hi=>hs i (c1 i hi),c2,fun t h1 h2=>Classical.byContradiction (c3 t h1 h2)⟩) c1
theorem M.bases (m:M B) (n8:n≤8) (hn:∀ b,b ∈ B→∀ i,In i b→i<n) (hL:AllCirc B L n) (s:Nat):s ∈ B↔Bs L n s:=by
 constructor
 ·intro hs
  refine ⟨hn s hs,(m.free n8 hL (hn s hs)).mp ⟨s,hs,Sub.refl s⟩,fun e he hne hf=>?_⟩
  obtain ⟨b,hb,k⟩:=(m.free n8 hL (fun i hi=>((in_ins s e i).mp hi).elim (hn s hs i) (fun q=>q ▸ he))).mpr hf
  have h1:=card_mono k
  have h2:=card_ins (show e<8 by omega) hne
  have h3:=m.cardeq hs hb
  omega
 ·intro hs
  obtain ⟨b,hb,k⟩:=(m.free n8 hL hs.lt).mpr hs.fr
  by_cases hq:Sub b s
  ·exact (k.antisymm hq) ▸ hb
  ·obtain ⟨e,e1,e2⟩:=not_sub hq
   have h1:Indep B (ins s e):=⟨b,hb,ins_sub k e1⟩
   exact absurd ((m.free n8 hL (fun i hi=>((in_ins s e i).mp hi).elim (hs.lt i) (fun q=>q ▸ hn b hb e e1))).mp h1) (hs.mx e (hn b hb e e1) e2)
end
end
end Go.Proofs.YtekegbacnagbcaaGreat.Mt
