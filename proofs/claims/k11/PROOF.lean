import PyProof.Rows.All
import Wide.All
import OpenK.AllK
import Wide.FinOn
import HandS.ForMost
import HandS.Flow
import HandS.Style
import HandS.Strs
import HandS.SetFor
import HandS.SortInts
import HandS.IsInst
import HandS.Property
import HandS.OwnEq
import HandS.MakeKw
import HandS.Deep
import HandS.TupAny
import HandS.Conv
import HandS.WideBits
import KE.SortData
import PyProof.ReprRoads
import HandS.FStrTup
import HandS.MakeKwOnly
import PySem.Challenge.RW_twoabove_k11_whole_stores_made_of_stores
set_option Elab.async false
set_option linter.all false
set_option maxRecDepth 100000
set_option maxHeartbeats 4000000
namespace TA
/-! ### lists in a strict order -/
theorem ext_lt {α : Type} (lt : α → α → Prop) (asym : ∀ a b, lt a b → lt b a → False) : ∀ l m : List α, l.Pairwise lt → m.Pairwise lt → (∀ x, x ∈ l ↔ x ∈ m) → l = m
  | [], [], _, _, _ => rfl
  | [], b :: m, _, _, h => by
    have := (h b).mpr List.mem_cons_self
    cases this
  | a :: l, [], _, _, h => by
    have := (h a).mp List.mem_cons_self
    cases this
  | a :: l, b :: m, hl, hm, h => by
    have hl1 := (List.pairwise_cons.mp hl)
    have hm1 := (List.pairwise_cons.mp hm)
    have irr : ∀ x, ¬ lt x x := fun x hx => asym x x hx hx
    have eab : a = b := by
      have h1 := (h a).mp List.mem_cons_self
      have h2 := (h b).mpr List.mem_cons_self
      rcases List.mem_cons.mp h1 with e | e
      · exact e
      · rcases List.mem_cons.mp h2 with e2 | e2
        · exact e2.symm
        · exact (asym a b (hl1.1 b e2) (hm1.1 a e)).elim
    subst eab
    have : l = m := by
      refine ext_lt lt asym l m hl1.2 hm1.2 fun x => ⟨fun hx => ?_, fun hx => ?_⟩
      · rcases List.mem_cons.mp ((h x).mp (List.mem_cons_of_mem _ hx)) with e | e
        · subst e
          exact (irr x (hl1.1 x hx)).elim
        · exact e
      · rcases List.mem_cons.mp ((h x).mpr (List.mem_cons_of_mem _ hx)) with e | e
        · subst e
          exact (irr x (hm1.1 x hx)).elim
        · exact e
    rw [this]
theorem ext_nat {l m : List Nat} (hl : l.Pairwise (· < ·)) (hm : m.Pairwise (· < ·)) (h : ∀ x, x ∈ l ↔ x ∈ m) : l = m :=
  ext_lt (· < ·) (fun a b h1 h2 => by omega) l m hl hm h
theorem lt_asymL {a b : List Nat} (h1 : a < b) (h2 : b < a) : False := List.lt_irrefl a (List.lt_trans h1 h2)
theorem ext_lots {l m : List (List Nat)} (hl : l.Pairwise (· < ·)) (hm : m.Pairwise (· < ·)) (h : ∀ x, x ∈ l ↔ x ∈ m) : l = m :=
  ext_lt (· < ·) (fun _ _ h1 h2 => lt_asymL h1 h2) l m hl hm h
theorem nodup_lt {l : List Nat} (h : l.Pairwise (· < ·)) : l.Nodup := h.imp fun h => by omega
theorem tri {a b : List Nat} (h1 : ¬ a < b) (h2 : ¬ a = b) : b < a := by
  have h3 : b ≤ a := List.not_lt.mp h1
  rcases (List.le_iff_lt_or_eq.mp h3) with h | h
  · exact h
  · exact absurd h.symm h2

/-! ### bits -/
def bitsN (l : List Nat) : Nat := l.foldl (fun f s => f ||| 2 ^ s) 0
theorem bits_fold (i : Nat) : ∀ (l : List Nat) (f : Nat), (l.foldl (fun f s => f ||| 2 ^ s) f).testBit i = (f.testBit i || decide (i ∈ l))
  | [], f => by simp
  | s :: l, f => by
    rw [List.foldl_cons, bits_fold i l, Nat.testBit_or, Nat.testBit_two_pow, Bool.or_assoc]
    congr 1
    by_cases h : s = i
    · simp [h]
    · simp [h, Ne.symm h]
theorem testBit_bitsN (l : List Nat) (i : Nat) : (bitsN l).testBit i = decide (i ∈ l) := by
  unfold bitsN
  rw [bits_fold, Nat.zero_testBit, Bool.false_or]
def spots (b : Nat) : List Nat := (List.range 8).filter fun i => b.testBit i
theorem mem_spots {b i : Nat} : i ∈ spots b ↔ i < 8 ∧ b.testBit i = true := by
  unfold spots
  rw [List.mem_filter, List.mem_range]
theorem spots_up (b : Nat) : (spots b).Pairwise (· < ·) := List.pairwise_lt_range.filter _
def norm (l : List Nat) : List Nat := spots (bitsN l)
def In8 (l : List Nat) : Prop := ∀ x ∈ l, x < 8
theorem mem_norm {l : List Nat} (h : In8 l) {i : Nat} : i ∈ norm l ↔ i ∈ l := by
  unfold norm
  rw [mem_spots, testBit_bitsN, decide_eq_true_iff]
  exact ⟨fun h => h.2, fun q => ⟨h i q, q⟩⟩
theorem norm_up (l : List Nat) : (norm l).Pairwise (· < ·) := spots_up _
theorem norm_in8 (l : List Nat) : In8 (norm l) := fun x hx => (mem_spots.mp hx).1
theorem norm_of_up {l : List Nat} (h : In8 l) (u : l.Pairwise (· < ·)) : norm l = l := ext_nat (norm_up l) u fun _ => mem_norm h
theorem bits_ext {l m : List Nat} (h : ∀ x, x ∈ l ↔ x ∈ m) : bitsN l = bitsN m := by
  apply Nat.eq_of_testBit_eq
  intro i
  rw [testBit_bitsN, testBit_bitsN]
  exact decide_eq_decide.mpr (h i)
theorem norm_ext {l m : List Nat} (h : ∀ x, x ∈ l ↔ x ∈ m) : norm l = norm m := by
  unfold norm
  rw [bits_ext h]
theorem bits_norm {l : List Nat} (h : In8 l) : bitsN (norm l) = bitsN l := bits_ext fun _ => mem_norm h
theorem norm_norm {l : List Nat} (h : In8 l) : norm (norm l) = norm l := norm_ext fun _ => mem_norm h
theorem spots_in8 (b : Nat) : In8 (spots b) := fun x hx => (mem_spots.mp hx).1
theorem bits_lt {l : List Nat} (h : In8 l) : bitsN l < 256 := by
  have : bitsN l < 2 ^ 8 := Nat.lt_pow_two_of_testBit _ fun i hi => by
    rw [testBit_bitsN]
    exact decide_eq_false fun q => by have := h i q; omega
  exact this
theorem bits_spots {b : Nat} (h : b < 256) : bitsN (spots b) = b := by
  apply Nat.eq_of_testBit_eq
  intro i
  rw [testBit_bitsN]
  by_cases hi : i < 8
  · have : (i ∈ spots b) ↔ b.testBit i = true := by rw [mem_spots]; exact ⟨fun h => h.2, fun h => ⟨hi, h⟩⟩
    cases e : b.testBit i with
    | true => exact decide_eq_true (this.mpr e)
    | false => exact decide_eq_false fun q => by rw [this.mp q] at e; cases e
  · have e : b.testBit i = false := Nat.testBit_lt_two_pow (Nat.lt_of_lt_of_le (show b < 2 ^ 8 from h) (Nat.pow_le_pow_right (by omega) (by omega)))
    rw [e]
    exact decide_eq_false fun q => hi (spots_in8 b i q)
theorem spots_inj {a b : Nat} (ha : a < 256) (hb : b < 256) (h : spots a = spots b) : a = b := by
  rw [← bits_spots ha, ← bits_spots hb, h]
theorem norm_spots {b : Nat} : norm (spots b) = spots b := norm_of_up (spots_in8 b) (spots_up b)

/-! ### kinds: sorted, each once -/
def ins (x : List Nat) : List (List Nat) → List (List Nat)
  | [] => [x]
  | y :: ys => if x < y then x :: y :: ys else if x = y then y :: ys else y :: ins x ys
def canon (ks : List (List Nat)) : List (List Nat) := ks.foldr ins []
theorem mem_ins {x z : List Nat} : ∀ {l : List (List Nat)}, z ∈ ins x l ↔ z = x ∨ z ∈ l
  | [] => by simp [ins]
  | y :: ys => by
    unfold ins
    split
    · simp
    · split
      · rename_i h
        subst h
        simp
      · rw [List.mem_cons, mem_ins, List.mem_cons]
        constructor
        · rintro (h | h | h)
          · exact .inr (.inl h)
          · exact .inl h
          · exact .inr (.inr h)
        · rintro (h | h | h)
          · exact .inr (.inl h)
          · exact .inl h
          · exact .inr (.inr h)
theorem ins_up {x : List Nat} : ∀ {l : List (List Nat)}, l.Pairwise (· < ·) → (ins x l).Pairwise (· < ·)
  | [], _ => by simp [ins]
  | y :: ys, h => by
    have h1 := List.pairwise_cons.mp h
    unfold ins
    split
    · rename_i q
      refine List.pairwise_cons.mpr ⟨fun z hz => ?_, h⟩
      rcases List.mem_cons.mp hz with e | e
      · rw [e]; exact q
      · exact List.lt_trans q (h1.1 z e)
    · split
      · exact h
      · rename_i q1 q2
        refine List.pairwise_cons.mpr ⟨fun z hz => ?_, ins_up h1.2⟩
        rcases mem_ins.mp hz with e | e
        · rw [e]; exact tri q1 q2
        · exact h1.1 z e
theorem canon_up : ∀ ks : List (List Nat), (canon ks).Pairwise (· < ·)
  | [] => List.Pairwise.nil
  | k :: ks => ins_up (canon_up ks)
theorem mem_canon {z : List Nat} : ∀ {ks : List (List Nat)}, z ∈ canon ks ↔ z ∈ ks
  | [] => Iff.rfl
  | k :: ks => by
    show z ∈ ins k (canon ks) ↔ _
    rw [mem_ins, mem_canon, List.mem_cons]
theorem canon_is {l ks : List (List Nat)} (u : l.Pairwise (· < ·)) (h : ∀ x, x ∈ l ↔ x ∈ ks) : l = canon ks :=
  ext_lots u (canon_up ks) fun x => by rw [h x, mem_canon]
theorem canon_ext {a b : List (List Nat)} (h : ∀ x, x ∈ a ↔ x ∈ b) : canon a = canon b := canon_is (canon_up a) fun x => by rw [mem_canon, h x]
theorem canon_iff {a b : List (List Nat)} : canon a = canon b ↔ ∀ x, x ∈ a ↔ x ∈ b :=
  ⟨fun e x => by rw [← mem_canon, e, mem_canon], canon_ext⟩
theorem canon_of_up {l : List (List Nat)} (u : l.Pairwise (· < ·)) : canon l = l := (canon_is u fun _ => Iff.rfl).symm
theorem nodup_up {l : List (List Nat)} (h : l.Pairwise (· < ·)) : l.Nodup := h.imp fun h e => by
  subst e
  exact List.lt_irrefl _ h
theorem ins_len (x : List Nat) : ∀ l : List (List Nat), (ins x l).length ≤ l.length + 1
  | [] => by simp [ins]
  | y :: ys => by
    unfold ins
    split
    · simp
    · split
      · simp
      · have := ins_len x ys
        simp only [List.length_cons]
        omega
theorem canon_len : ∀ ks : List (List Nat), (canon ks).length ≤ ks.length
  | [] => Nat.le_refl _
  | k :: ks => by
    have h1 := canon_len ks
    have h2 := ins_len k (canon ks)
    show (ins k (canon ks)).length ≤ _
    simp only [List.length_cons]
    omega
/-- as the law tells kinds -/
def once (l : List (List Nat)) : List (List Nat) := l.foldl (fun f k => if k ∈ f then f else f ++ [k]) []
theorem once_up : ∀ (l f : List (List Nat)), l.Pairwise (· ≤ ·) → f.Pairwise (· < ·) → (∀ x ∈ f, ∀ y ∈ l, x ≤ y) →
    (l.foldl (fun f k => if k ∈ f then f else f ++ [k]) f).Pairwise (· < ·) ∧ ∀ z, z ∈ l.foldl (fun f k => if k ∈ f then f else f ++ [k]) f ↔ z ∈ f ∨ z ∈ l
  | [], f, _, hf, _ => ⟨hf, fun z => by simp⟩
  | k :: l, f, hl, hf, hx => by
    have h1 := List.pairwise_cons.mp hl
    rw [List.foldl_cons]
    by_cases hk : k ∈ f
    · rw [if_pos hk]
      obtain ⟨a, b⟩ := once_up l f h1.2 hf fun x hx' y hy => hx x hx' y (List.mem_cons_of_mem _ hy)
      refine ⟨a, fun z => ?_⟩
      rw [b z, List.mem_cons]
      constructor
      · rintro (h | h)
        · exact .inl h
        · exact .inr (.inr h)
      · rintro (h | h | h)
        · exact .inl h
        · exact .inl (h ▸ hk)
        · exact .inr h
    · rw [if_neg hk]
      have up : (f ++ [k]).Pairwise (· < ·) := by
        refine List.pairwise_append.mpr ⟨hf, List.pairwise_singleton _ _, fun x hx' y hy => ?_⟩
        rw [List.mem_singleton.mp hy]
        rcases List.le_iff_lt_or_eq.mp (hx x hx' k List.mem_cons_self) with q | q
        · exact q
        · exact absurd (q ▸ hx') hk
      obtain ⟨a, b⟩ := once_up l (f ++ [k]) h1.2 up fun x hx' y hy => by
        rcases List.mem_append.mp hx' with q | q
        · exact hx x q y (List.mem_cons_of_mem _ hy)
        · rw [List.mem_singleton.mp q]
          exact h1.1 y hy
      refine ⟨a, fun z => ?_⟩
      rw [b z, List.mem_append, List.mem_singleton, List.mem_cons, or_assoc]
theorem once_canon {l ks : List (List Nat)} (u : l.Pairwise (· ≤ ·)) (h : ∀ x, x ∈ l ↔ x ∈ ks) : once l = canon ks := by
  obtain ⟨a, b⟩ := once_up l [] u List.Pairwise.nil (fun x hx => absurd hx List.not_mem_nil)
  exact canon_is a fun x => by
    show x ∈ l.foldl (fun f k => if k ∈ f then f else f ++ [k]) [] ↔ _
    rw [b x, ← h x]
    simp
/-- kinds told: each rising, sorted, once -/
def told (ks : List (List Nat)) : List (List Nat) := canon (ks.map norm)
end TA
namespace TA
open PySem PySem.Spec PyProof.Rows L2

/-! ### repr of data, nothing being shown around -/
def rRepr (K : PySem.W.Frag) : List V → Hp → VK → Prop := fun xs H Q => ∃ (a : Addr) (d : PyData), xs = [.ref a] ∧ Dp K H (.ref a) d ∧ d.showable = true ∧ d.hasDict = false ∧ d.depth ≤ 50 ∧ d.shown.length ≤ sizeLine ∧ Q (.str d.shown) H
theorem cr_repr {X : Cx} (hg : X.A.guards = some []) (hu : X.A.units + 64 < cLine) : CallR X (.builtin "repr") (rRepr X.K) := by
  intro pins s σ H xs us Q I r h
  obtain ⟨a, d, rfl, hd, h1, h2, h3, h4, q⟩ := h
  have e := Vals.ref1 r
  subst e
  obtain ⟨as, rd⟩ := Dp.reads I d (.ref a) (.ref a) hd rfl
  refine repr_of_reads' rd h1 (PyData.noDict_hsm h2) hg (by omega) (fun _ _ e => e) (fun h' u tk k => ?_) h4
  exact ⟨.str d.shown, H, I.kept (t' := tk) k, ⟨u, rfl⟩, q⟩

/-! ### a def's promise where nothing is being shown around -/
structure FnG (P : Program) (w : World) (K : PySem.W.Frag) (mg : Str → Option Value) (base : Heap) (k : Nat) (f : Addr) (fd : FuncData) (ps : List Str) (sp : Sp) : Prop where
  len : ∀ vs H Q E, sp vs H Q E → vs.length = ps.length
  run : ∀ (A : Around) (outer : List Env) (s : Shared) (H : Hp) (args : Args) (us : List Value) (vs : List V) (Q : VK) (E : XK), A.guards = some [] → Room k A → Env0 P w K mg base A outer s H →
    BindsTo s fd args (ps.zip us) → Vals vs us → sp vs H Q E → codeAny (model P w) A (.call (.ref f) args) (CR CX0 outer P w H s Q E) s
theorem FnG.of {P : Program} {w : World} {K : PySem.W.Frag} {mg : Str → Option Value} {base : Heap} {k : Nat} {f : Addr} {fd : FuncData} {ps : List Str} {sp : Sp} (F : FnOk P w K mg base CX0 k f fd ps sp) : FnG P w K mg base k f fd ps sp :=
  ⟨F.len, fun A outer s H args us vs Q E _ => F.run A outer s H args us vs Q E⟩
section
variable {X : Cx} {k : Nat} {f : Addr} {fd : FuncData} {ps : List Str} {sp : Sp} {x : Str} {p pos : Pos} {e : Expr} {es : List Expr} {t : TA}
theorem run_fnG {pins : List (Addr × Obj)} {σ : L2.St} {H : Hp} {s : Shared} {Q : VK} {us : List Value} {vs : List V} (F : FnG X.prog X.w X.K X.mg X.base k f fd ps sp) (hg : X.A.guards = some []) (hr : Room k X.A) (hb : Binds X.K fd ps [])
    (I : Inv X pins σ H s) (r : Vals vs us) (h : sp vs H Q E0) : wpAny (model X.prog X.w) X.A (call (.ref f) us) (EP X pins σ Q) X.xe s := by
  have hl : us.length = ps.length := r.length.symm.trans (F.len _ _ _ _ h)
  have hbb := hb s us I.kIn (by rw [List.append_nil]; exact hl)
  rw [List.append_nil] at hbb
  refine wpAny_call (codeAny_mono (F.run X.A X.stack s H ⟨us, []⟩ us vs Q E0 hg hr I.env0 hbb r h) fun res s' hq => ?_)
  match res, hq with
  | .error e, hq => exact False.elim hq
  | .ok (.ret u), hq => exact I.after hq
  | .ok .next, hq => exact False.elim hq
  | .ok .brk, hq => exact False.elim hq
  | .ok .cont, hq => exact False.elim hq
theorem pe_callG (F : FnG X.prog X.w X.K X.mg X.base k f fd ps sp) (hgd : X.A.guards = some []) (hr : Room k X.A) (hg : Gl X x) (hm : X.mg x = some (.ref f)) (hk : PySem.W.keepIn X.K (.ref f) = true) (hb : Binds X.K fd ps [])
    (ha : PA X (e :: es) t) (hdb : (x == ("__debug__" : Str)) = false := by decide) (he : starEach (e :: es) X.env = (false, eval e X.env) :: starEach es X.env := by rfl) (hpl : (backTo pos (starEach es X.env)).any (·.1) = false := by rfl) :
    PE X (.Call (.Name x p) (e :: es) [] pos) (tCall sp [] E0 t) := by
  refine ⟨fun pins s σ H Q I h => wpAny_Call_Name_kw (ld_glob I hg hm ?_ hdb)⟩
  refine PySem.W.callWith_K (h₀ := X.base) I.ok.mod.kin hk (thn (ha.run pos pins s σ H _ I h) fun us s1 ⟨vs, H1, I1, r, q⟩ => ⟨I1.kIn, ?_⟩) he hpl
  have q' : sp (vs ++ []) H1 Q E0 := q
  rw [List.append_nil] at q'
  exact run_fnG F hgd hr hb I1 r q'
end

section
variable {P : Program} {w : World} {K : PySem.W.Frag} {mg : Str → Option Value} {base : Heap}
/-- as Fun.ok -/
theorem okG {x qual : Str} {st : Stmt} {f : Addr} {fd : FuncData} {N ps : List Str} {k : Nat} {sp : Sp} (F : Fun K x qual st f fd) (S : FnScope N ps (defScope st)) (len : ∀ vs H Q E, sp vs H Q E → vs.length = ps.length)
    (hbody : ∀ (cdv : Value) (A : Around) (outer : List Env) (s : Shared) (H : Hp) (vs : List V) (Q : VK) (E : XK), A.guards = some [] → Room k (A.deeper (envOfC qual (defScope st) s.heap.objs.size f cdv)) → sp vs H Q E →
      ∃ t, PSs (cxOf CX0 P w K mg base N qual (defScope st) f cdv A outer s H E).nox (defBody st) t ∧ t { nx := fun _ H' => Q .non H', rt := Q } (start N vs) H) : FnG P w K mg base (k + 1) f fd ps sp := by
  obtain ⟨oc, od, kV, doc, pm, an, cdv, ct, osl, rfl, lk, hcd⟩ := F.ex
  refine ⟨len, fun A outer s H args us vs Q E hgd hr e0 hb r hsp => ?_⟩
  have KX : K.In s.heap := e0.mod.kin.keeps fun b o e => (e0.bs b o e).1
  have lim : s.heap.NoLimit := e0.mod.nolimit.keeps fun b o e => (e0.bs b o e).1
  obtain ⟨t, ht, hq⟩ := hbody cdv A outer s H vs Q E hgd (hr.deeper _) hsp
  have kinds : ∀ y ∈ ps.zip us, (defScope st).names.lookup y.1 = some .local ∨ ((defScope st).names.lookup y.1 = some .cell ∧ ((cellsFrom (s.heap.objs.size + 1) (defScope st).names []).lookup y.1).isSome = true) := by
    rintro ⟨n, v⟩ hy
    exact (S.par n (List.of_mem_zip hy).1).elim .inl fun q => .inr ⟨q, PySem.W.cellsFrom_some _ _ _ (.inl q)⟩
  refine codeAny_call_function hr.depth (KX _ _ lk) rfl S.co S.gen rfl (PySem.W.codeRec_of KX hcd) (hb _ _ _ _ (wpAny_newFunctionEnv_cells S.kind kinds fun env he s1 x => ?_))
  subst he
  refine ⟨lim.keeps x.toInCall.keep, codeAny_func ?_⟩
  have I : Inv (cxOf CX0 P w K mg base N qual (defScope st) f cdv A outer s H E) [] (start N vs) H s1 := inv_start S hr.hd e0 (len _ _ _ _ hsp) r x
  refine wpAny_mono (ht.nox.run [] s1 (start N vs) H _ I hq) (fun fl s' hs => ?_) fun _ _ hs => hs
  match fl, hs with
  | .ret u, ⟨v, σ', H', J, rv, q⟩ => exact ⟨v, H', J.os, J.bare, J.base, J.hok, rv, q⟩
  | .next, ⟨σ', H', J, q⟩ => exact ⟨V.non, H', J.os, J.bare, J.base, J.hok, rfl, q⟩
  | .brk, ⟨_, _, _, q⟩ => exact False.elim q
  | .cont, ⟨_, _, _, q⟩ => exact False.elim q
end
end TA
namespace TA
open PySem PySem.Spec PyProof.Rows L2
section
variable {P : Program} {w : World} {A : Around} {E : Value → Shared → Prop} {s : Shared}
/-- the empty set as set(..) lays it -/
abbrev set0 (w : World) : Obj := { cls := .type "set", dict := none, data := .set #[] 0 (.fresh 0 0 (!w.params.followText "set-order")) }
theorem set_of_list {l : Addr} {items : Array Value} (ns : List Int) {Q : Value → Shared → Prop} (hh : A.handled = none) (hl : s.heap.IsList l items) (hit : IntsAre items.toList ns) (hb : ns.length + 1 < scanBound)
    (h : ∀ (h' : Heap) (tk c : Nat), SetR w h' s.heap.objs.size (fun j => decide (j ∈ ns)) c → c ≤ ns.length → (∀ b o, s.heap.get? b = some o → h'.get? b = some o) → Q (.ref s.heap.objs.size) { s with heap := h', toks := tk }) :
    wpAny (model P w) A (call (.type "set") [.ref l]) Q E s := by
  have hisz : items.size = ns.length := by
    have q := IntsAre.length hit
    rw [Array.length_toList] at q
    exact q
  obtain ⟨c, tl, hmro⟩ := F.called_set.mro
  have hmade := F.called_set.made
  have hsub := F.called_set.sub
  refine wpAny_call (codeAny_of_tree ?_)
  show wpAny _ _ (callAny (.type "set") _) _ _ _
  refine wpAny_pure ⟨Code.quiet_builtin _ (by decide +kernel), codeAny_builtin F.entry_type_call ?_⟩
  rw [Around.under_plain (weight_type_call_type "set" [.ref l] []) rfl]
  have h1 := F.called_set.notType
  have h2 := F.called_set.canCreate
  have hct := F.typeCall_set_1 (.ref l)
  repeat (any_goals (first | assumption | wp_step))
  refine codeAny_mono (code_set_led1 (.ref l) (E := E) (Q₁ := fun obj s₁ => obj = .ref s.heap.objs.size ∧ s₁ = { s with heap := s.heap.push (set0 w) }) ⟨rfl, rfl⟩) fun r s₁ hr => ?_
  match r, hr with
  | .error e, hr => exact hr
  | .ok .next, hr => exact hr.elim
  | .ok .brk, hr => exact hr.elim
  | .ok .cont, hr => exact hr.elim
  | .ok (.ret obj), hr =>
    obtain ⟨rfl, rfl⟩ := hr
    have hS : (s.heap.push (set0 w)).get? s.heap.objs.size = some (set0 w) := Heap.get?_push_size _ rfl
    have hT : Shared.TypeIs { s with heap := s.heap.push (set0 w) } (.ref s.heap.objs.size) "set" := ⟨_, hS, rfl⟩
    have hli := F.called_set.init.lookup
    have hbi := F.called_set.init.bind (.ref s.heap.objs.size)
    repeat (any_goals (first | assumption | wp_step))
    refine codeAny_mono (codeAny_call_builtin (R := wants (fun r s₂ => r = .none ∧ ∃ h' tk c, s₂ = { s with heap := h', toks := tk } ∧ SetR w h' s.heap.objs.size (fun j => decide (j ∈ ns)) c ∧ c ≤ ns.length ∧
        (∀ b o, s.heap.get? b = some o → h'.get? b = some o)) E) F.called_set.init.plain F.entry_set_init (check_set_init_1 hT ?_)) fun r₂ s₂ hr₂ => ?_
    · obtain ⟨⟨ocls, odict, odata, oslots⟩, hol, hcl, nl, hdl⟩ := hl
      simp only at hcl hdl
      subst hcl; subst hdl
      have hol' : (s.heap.push (set0 w)).get? l = some { cls := .type "list", dict := odict, data := .seq items nl, slots := oslots } := Heap.get?_push_of_some _ hol
      have hsls := F.sub_list_set
      have hslf := F.sub_list_frozenset
      have hne : (Value.type "list" == Value.type "dict") = false := by decide
      have hl1 : (s.heap.push (set0 w)).IsList l items := ⟨_, hol', rfl, nl, rfl⟩
      unfold Builtin.«set.__init__» noKeywords Builtin.Frozenset.updateFrom
      generalize hPI : pyIter = PI
      wp_walk
      subst hPI
      refine wpAny_pyIter_list hl1 (wpAny_bind (wpAny_runValue ?_))
      have hlS : l < s.heap.objs.size := Heap.lt_size hol
      have hh3 : A.in1.in1.in1.handled = none := by simp [hh]
      have hneI : l ≠ (s.heap.push (set0 w)).objs.size := by
        rw [Heap.size_push]; exact Nat.ne_of_lt (Nat.lt_succ_of_lt hlS)
      have hSf : s.heap.objs.size ∉ [(s.heap.push (set0 w)).objs.size, l] := by
        rw [Heap.size_push]; simp only [List.mem_cons, List.mem_singleton, List.not_mem_nil, or_false, not_or]
        exact ⟨Nat.ne_of_lt (Nat.lt_succ_self _), Nat.ne_of_gt hlS⟩
      have hval : ∀ (i : Nat) (v : Value), items[i]? = some v → ∃ k t, ns[i]? = some k ∧ v = .int k t := fun i v hv => by
        have hi : i < ns.length := by rw [← hisz]; exact (Array.getElem?_eq_some_iff.mp hv).1
        obtain ⟨t, e⟩ := PyProof.Rows.IntsAre.int_at hit i v (by rw [Array.getElem?_toList]; exact hv)
        refine ⟨ns[i], t, List.getElem?_eq_getElem hi, ?_⟩
        rw [e, List.getD_eq_getElem?_getD, List.getElem?_eq_getElem hi] <;> rfl
      refine set_update_ints ((Walks.list hh3 _ l hneI items).toS) s.heap.objs.size
        hSf ns hisz hb hval (items.size - 0) 0 _ (by omega) (Nat.zero_le _)
        ⟨⟨_, Heap.get?_push_size _ rfl, rfl, rfl⟩, (hl1.push _)⟩ ?hS0 ?hR
      case hS0 => exact ⟨0, Nat.le_refl 0, setR_new_at (Heap.get?_push_of_some _ hS)⟩
      case hR =>
        rintro ⟨h', g2, d', tk', os'⟩ c' hm hc' hS'
        have eg : g2 = s.gens := hm.gens
        have ed : d' = s.drawn := hm.drawn
        have eo : os' = s.os := hm.os
        subst eg; subst ed; subst eo
        show wpAny _ _ _ _ _ _
        refine wpAny_pure ?_
        show wpAny _ _ (ret Value.none) _ _ _
        rw [hisz] at hc'
        refine wpAny_pure ⟨rfl, h', tk', c', rfl, hS', hc', fun b o e => ?_⟩
        have hb0 : b < s.heap.objs.size := Heap.lt_size e
        refine hm.heap b o ?_ (Heap.get?_push_of_some _ (Heap.get?_push_of_some _ e))
        rw [Heap.size_push]
        simp only [List.mem_cons, List.not_mem_nil, or_false, not_or]
        exact ⟨Nat.ne_of_lt hb0, Nat.ne_of_lt (Nat.lt_succ_of_lt hb0)⟩
    · match r₂, hr₂ with
      | .error e, hr₂ => exact hr₂
      | .ok .next, hr₂ => exact hr₂.elim
      | .ok .brk, hr₂ => exact hr₂.elim
      | .ok .cont, hr₂ => exact hr₂.elim
      | .ok (.ret r), hr₂ =>
        obtain ⟨rfl, h', tk, c', rfl, hS', hc', hk'⟩ := hr₂
        repeat (any_goals (first | assumption | wp_step))
        exact h _ _ _ hS' hc' hk'
end
/-- set(x) of a list or tuple of ints -/
def rSetI (K : PySem.W.Frag) (w : World) : List V → Hp → VK → Prop := fun xs H Q => ∃ (a : Addr) (ns : List Int), xs = [.ref a] ∧ (SqL K H a (ns.map V.int) ∨ SqT K H a (ns.map V.int)) ∧ ns.length ≤ 1000 ∧
  ∀ p c, H p = none → c ≤ ns.length → Q (.ref p) (upd H p (SetO w p (fun j => decide (j ∈ ns)) c))
theorem cr_setI {X : Cx} (hc : X.calm = true) : CallR X (.type "set") (rSetI X.K X.w) := by
  intro pins s σ H xs us Q I r h
  obtain ⟨a, ns, rfl, hq, hl, q⟩ := h
  have e := Vals.ref1 r
  subst e
  have hd := I.ok.hd hc
  have hf : H s.heap.objs.size = none := I.hok.fresh (Nat.le_refl _)
  have fin : ∀ (h' : Heap) (tk c : Nat), SetR X.w h' s.heap.objs.size (fun j => decide (j ∈ ns)) c → c ≤ ns.length → (∀ b o, s.heap.get? b = some o → h'.get? b = some o) → EP X pins σ Q (.ref s.heap.objs.size) { s with heap := h', toks := tk } :=
    fun h' tk c R hcn k => ⟨.ref s.heap.objs.size, _, I.laid (t' := tk) k (Nat.le_refl _) (setO_new R), rfl, q _ c hf hcn⟩
  rcases hq with hq | hq
  · obtain ⟨its, rv, p, _⟩ := I.list hq
    exact set_of_list ns hd p.isList (ints_of_vals rv) (by unfold scanBound; omega) fin
  · obtain ⟨its, rv, p, _⟩ := I.tuple hq
    exact call_set_tupI ns hd (show s.heap.IsTuple a its.toArray from p) (ints_of_vals rv) (by unfold scanBound; omega) fin
end TA
namespace TA
open PySem PySem.Spec PyProof.Rows L2
/-! ### sorted of rows of small numbers -/
def vN (n : Nat) : V := .int n
abbrev cI (k : List Nat) : List Int := k.map fun n : Nat => (n : Int)
def dL (k : List Nat) : PyData := .list ((cI k).map .int)
def dLL (ks : List (List Nat)) : PyData := .list (ks.map dL)
theorem cI_lt : ∀ a b : List Nat, cI a < cI b ↔ a < b
  | [], [] => by simp
  | [], b :: bs => by simp
  | a :: as, [] => by simp
  | a :: as, b :: bs => by
    rw [show cI (a :: as) = (a : Int) :: cI as from rfl, show cI (b :: bs) = (b : Int) :: cI bs from rfl, List.cons_lt_cons_iff, List.cons_lt_cons_iff, cI_lt as bs]
    constructor
    · rintro (h | ⟨h1, h2⟩)
      · exact .inl (by omega)
      · exact .inr ⟨by omega, h2⟩
    · rintro (h | ⟨h1, h2⟩)
      · exact .inl (by omega)
      · exact .inr ⟨by omega, h2⟩
theorem cI_le (a b : List Nat) : cI a ≤ cI b ↔ a ≤ b := by
  rw [← List.not_lt, ← List.not_lt, cI_lt]
theorem alike_row (a b : List Nat) : PySem.W.alike (dL a) (dL b) = true := by
  show PySem.W.alike (.list ((cI a).map .int)) (.list ((cI b).map .int)) = true
  simp only [PySem.W.alike]
  exact PySem.W.alike_ints _ _
theorem depth_row (a : List Nat) : (dL a).depth = 1 := by
  show PyData.depth (.list ((cI a).map .int)) = 1
  simp only [PyData.depth]
  rw [PySem.W.depth_ints]
theorem each_of {R : Value → List Nat → Prop} {Pr : V → List Nat → Prop} (h : ∀ x u k, RelV x u → Pr x k → R u k) : ∀ {vs : List V} {us : List Value} {ks : List (List Nat)}, Vals vs us → Paired Pr vs ks → PySem.W.EachIs R us ks
  | _, _, _, .nil, .nil => .nil
  | _, _, _, .cons r rs, .cons p ps => .cons (h _ _ _ r p) (each_of h rs ps)
theorem of_each {Pr : V → List Nat → Prop} : ∀ {us : List Value} {ks : List (List Nat)}, PySem.W.EachIs (fun u k => ∃ x, RelV x u ∧ Pr x k) us ks → ∃ vs, Vals vs us ∧ Paired Pr vs ks
  | _, _, .nil => ⟨[], .nil, .nil⟩
  | _, _, .cons ⟨x, r, p⟩ t => by
    obtain ⟨vs, r2, p2⟩ := of_each t
    exact ⟨x :: vs, .cons r r2, .cons p p2⟩
/-- sorted(xs), xs a list of rows: Pr is whatever is known of each -/
def rSortRows (K : PySem.W.Frag) : List V → Hp → VK → Prop := fun xs H Q => ∃ (a : Addr) (vs : List V) (ks : List (List Nat)) (Pr : V → List Nat → Prop), xs = [.ref a] ∧ SqL K H a vs ∧ Paired Pr vs ks ∧ (∀ x k, Pr x k → Dp K H x (dL k)) ∧ ks.length ≤ 1000 ∧
  ∀ p vs' ks', H p = none → ks'.Perm ks → ks'.Pairwise (· ≤ ·) → Paired Pr vs' ks' → Q (.ref p) (upd H p (.lst vs'))
theorem cr_sortRows {X : Cx} (hu : X.A.units + 64 < cLine) : CallR X (.builtin "sorted") (rSortRows X.K) := by
  intro pins s σ H xs us Q I r h
  obtain ⟨a, vs, ks, Pr, rfl, hq, hp, hd, hl, q⟩ := h
  have e := Vals.ref1 r
  subst e
  obtain ⟨its, rv, p, hz⟩ := I.list hq
  have hlen : its.length = ks.length := rv.length.symm.trans hp.length
  refine PySem.W.sorted_data (β := List Nat) (bs := ks) (enc := dL) (R := fun u k => ∃ x, RelV x u ∧ Pr x k) (vs := its) p.isList (each_of (fun x u k r p => ⟨x, r, p⟩) rv hp)
    (each_of (fun x u k r p => Dp.reads I (dL k) x u (hd x k p) r) rv hp) (PySem.W.AllAlike.of alike_row) (PySem.W.Sortable.others fun b => ⟨nofun, nofun⟩) (Nat.le_trans hl (by decide)) (fun b _ => by rw [depth_row]; omega) fun out ho he => ?_
  obtain ⟨vs', r', p'⟩ := of_each he
  have hle : PySem.W.dataLe false dL = fun p q : List Nat => decide (cI p ≤ cI q) := PySem.W.dataLe_rows cI
  rw [hle] at p'
  obtain ⟨ep, he'⟩ := PyProof.Rows.sortedAll_at s.heap its out.toArray
  have hn : H (s.heap.objs.size + 1) = none := I.hok.fresh (Nat.le_succ _)
  have hpl := p'.length
  rw [List.length_mergeSort] at hpl
  have J := I.laid (t' := s.toks) (a := s.heap.objs.size + 1) (o := .lst vs') (h' := sortedAll s.heap its out.toArray) (fun _ _ => PyProof.Rows.sortedAll_old) (Nat.le_succ _) ⟨by rw [hpl]; exact Nat.le_trans hl (by decide), out, ep, r', he'⟩
  refine ⟨.ref _, _, J, rfl, q _ vs' _ hn (List.mergeSort_perm _ _) ?_ p'⟩
  have hs := List.pairwise_mergeSort (le := fun p q : List Nat => decide (cI p ≤ cI q)) (fun a b c h1 h2 => decide_eq_true (List.le_trans (of_decide_eq_true h1) (of_decide_eq_true h2)))
    (fun a b => by
      rcases List.le_total (cI a) (cI b) with h | h
      · rw [decide_eq_true h]; rfl
      · rw [decide_eq_true h, Bool.or_true]) ks
  exact hs.imp fun h => (cI_le _ _).mp (of_decide_eq_true h)
end TA
namespace TA
open PySem PySem.Spec PyProof.Rows L2
theorem sub_ls : isSubtype (.type "list") (.type "str") = pure false := by rw [isSubtype_type]; kernel_rfl
theorem sub_lb : isSubtype (.type "list") (.type "bytes") = pure false := by rw [isSubtype_type]; kernel_rfl
theorem sub_lba : isSubtype (.type "list") (.type "bytearray") = pure false := by rw [isSubtype_type]; kernel_rfl
theorem args_sum2 (a b : Value) : argsOk "sum" ⟨[a, b], []⟩ := by unfold argsOk; kernel_rfl
abbrev lO (vs : List Value) (n : Nat) : Obj := { cls := .type "list", data := .seq vs.toArray n }
section
variable {prog : Program} {w : World} {A : Around} {E : Value → Shared → Prop} {R : Result → Shared → Prop}
/-- sum(xs, l0) of lists: the loop -/
theorem sumL_loop {h0 : Heap} {I l S : Addr} {items : Array Value} (hh : A.in1.handled = none) (hl0 : h0.IsList l items) (subs : List (List Value)) (hn : subs.length = items.size)
    (hval : ∀ (i : Nat) (v : Value), items[i]? = some v → ∃ a m su, subs[i]? = some su ∧ v = .ref a ∧ h0.get? a = some (lO su m)) (hS0 : h0.objs.size ≤ S) (hI0 : h0.objs.size ≤ I) (hSI : S ≠ I)
    (st : List Value) (hz : st.length + subs.flatten.length ≤ 10000) :
    ∀ (k i : Nat) (s : Shared) (T m c : Nat), items.size - i = k → i ≤ items.size → s.heap.IsListIter I l i → s.heap.get? S = some (lO [.ref T] c) → T ≠ S → T ≠ I → s.heap.get? T = some (lO (st ++ (subs.take i).flatten) m) →
      (∀ b o, h0.get? b = some o → s.heap.get? b = some o) →
      (∀ h' T' m', (∀ b o, h0.get? b = some o → h'.get? b = some o) → h'.get? T' = some (lO (st ++ subs.flatten) m') → (T' = T ∨ h0.objs.size ≤ T') → R (.ok (.ret (.ref T'))) { s with heap := h' }) →
      codeAny (model prog w) A (.builtin "sum.loop" ⟨[.ref I, .ref S, rawInt 2, rawInt 0], []⟩) R s := by
  have b0 : ∀ {b : Addr} {o : Obj} {c : Addr}, h0.get? b = some o → h0.objs.size ≤ c → b ≠ c := fun e h q => absurd (Heap.lt_size e) (Nat.not_lt.mpr (q ▸ h))
  intro k
  induction k with
  | zero =>
    intro i s T m c hk hi hit hS hTS hTI hT hkeep hR
    have hin : i = items.size := by omega
    subst hin
    refine codeAny_builtin F.entry_sum_loop ?_
    rw [Around.under_plainId F.plain_sum_loop _]
    show wpAny _ A.in1 (seqItems? (.ref S) >>= _) _ _ s
    refine wpAny_bind (wpAny_seqItems hS rfl ?_)
    show wpAny _ A.in1 (tryCatch (pyNext (.ref I)) _ >>= _) _ _ s
    obtain ⟨ol, h1, h2⟩ := hl0
    refine wpAny_bind (wpAny_tryCatch (wpAny_pyNext_list_end hh hit ⟨ol, hkeep _ _ h1, h2⟩ (by simp) fun h' eb => ?_))
    rw [show subs.take items.size = subs from List.take_of_length_le (by omega)] at hT
    exact wpAny_pure (hR h' T m (fun b o e => eb b o (b0 e hI0) (hkeep b o e)) (eb T _ hTI hT) (.inl rfl))
  | succ k ih =>
    intro i s T m c hk hi hit hS hTS hTI hT hkeep hR
    have hlt : i < items.size := by omega
    refine codeAny_builtin F.entry_sum_loop ?_
    rw [Around.under_plainId F.plain_sum_loop _]
    show wpAny _ A.in1 (seqItems? (.ref S) >>= _) _ _ s
    refine wpAny_bind (wpAny_seqItems hS rfl ?_)
    show wpAny _ A.in1 (tryCatch (pyNext (.ref I)) _ >>= _) _ _ s
    obtain ⟨a, ma, su, hsu, hv, ha⟩ := hval i items[i] (by simp [hlt])
    obtain ⟨ol, h1, h2⟩ := id hl0
    refine wpAny_bind (wpAny_tryCatch (wpAny_pyNext_list_item hit ⟨ol, hkeep _ _ h1, h2⟩ (x := items[i]) (by simp [hlt]) fun h' hit' sb => ?_))
    rw [hv]
    have sb2 : ∀ b o, b ≠ I → s.heap.get? b = some o → h'.get? b = some o := fun b o hb e => (sb.2 b hb).trans e
    have hk' : ∀ b o, h0.get? b = some o → h'.get? b = some o := fun b o e => sb2 b o (b0 e hI0) (hkeep b o e)
    have hS' := sb2 S _ hSI hS
    have hT' := sb2 T _ hTI hT
    have ha' := hk' a _ ha
    have hst2 : subs.take (i + 1) = subs.take i ++ [su] := by rw [List.take_add_one, hsu]; rfl
    have hlen : (st ++ (subs.take i).flatten).length + su.length ≤ 10000 := by
      have h1 : subs.flatten = (subs.take (i + 1)).flatten ++ (subs.drop (i + 1)).flatten := by rw [← List.flatten_append, List.take_append_drop]
      have h2 := congrArg List.length h1
      rw [hst2, List.flatten_append, List.length_append, List.length_append] at h2
      rw [List.length_append]
      simp only [List.flatten_cons, List.flatten_nil, List.append_nil] at h2
      omega
    show wpAny _ A.in1 ((holding [Value.ref a] (binaryOp .Add (.ref T) (.ref a))).attempt >>= _) _ _ { s with heap := h' }
    have hsl : (10000 : Nat) ≤ sizeLine := by decide
    refine wpAny_bind (wpAny_attempt (wpAny_holding (PySem.P.add_list hT' ha' ?_ (by rw [List.size_toArray, List.size_toArray]; omega))))
    show wpAny _ A.in1 (updateSeq S (fun _ => #[Value.ref h'.objs.size]) >>= _) _ _ _
    have ea : (st ++ (subs.take i).flatten).toArray ++ su.toArray = (st ++ (subs.take i).flatten ++ su).toArray := by simp
    rw [ea]
    have hS1 : (h'.push (lO (st ++ (subs.take i).flatten ++ su) 0)).get? S = some (lO [.ref T] c) := Heap.get?_push_of_some _ hS'
    refine wpAny_bind (wpAny_updateSeq hS1 rfl ?_)
    have hS2 := Heap.get?_update_self (Obj.mapSeq fun _ => #[Value.ref h'.objs.size]) hS1 rfl
    refine wpAny_bind (wpAny_letGo ?_)
    have hne : S ≠ h'.objs.size := Nat.ne_of_lt (Heap.lt_size hS')
    obtain ⟨oi, hoi, hoi2⟩ := id hit'
    have hIlt : I < h'.objs.size := Heap.lt_size hoi
    have oth : ∀ b o, b ≠ S → h'.get? b = some o → (((h'.push (lO (st ++ (subs.take i).flatten ++ su) 0)).update S (Obj.mapSeq fun _ => #[Value.ref h'.objs.size])).update S (Obj.mapSeq fun _ => #[Value.ref h'.objs.size])).get? b = some o := fun b o hb e =>
      (Heap.get?_update_other _ _ (Ne.symm hb)).trans ((Heap.get?_update_other _ _ (Ne.symm hb)).trans (Heap.get?_push_of_some _ e))
    have hnew : (((h'.push (lO (st ++ (subs.take i).flatten ++ su) 0)).update S (Obj.mapSeq fun _ => #[Value.ref h'.objs.size])).update S (Obj.mapSeq fun _ => #[Value.ref h'.objs.size])).get? h'.objs.size = some (lO (st ++ (subs.take i).flatten ++ su) 0) :=
      (Heap.get?_update_other _ _ hne).trans ((Heap.get?_update_other _ _ hne).trans (Heap.get?_push_size _ rfl))
    refine wpAny_bind (wpAny_updateSeq hS2 rfl (wpAny_pure ⟨plainId_quiet F.plain_sum_loop _, ih (i + 1) _ h'.objs.size 0 _ (by omega) hlt ⟨oi, oth I _ hSI.symm hoi, hoi2⟩ (Heap.get?_update_self _ hS2 rfl) hne.symm (Nat.ne_of_gt hIlt) ?_
      (fun b o e => oth b o (b0 e hS0) (hk' b o e)) fun h'' T' m' k1 t1 n1 => hR h'' T' m' k1 t1 (.inr ?_)⟩))
    · rw [hst2, List.flatten_append]
      simp only [List.flatten_cons, List.flatten_nil, List.append_nil]
      rw [← List.append_assoc]
      exact hnew
    · rcases n1 with e | e
      · rw [e]
        exact Nat.le_of_lt (Nat.lt_of_le_of_lt hI0 hIlt)
      · exact e
theorem sumL_call {s : Shared} {l b : Addr} {items : Array Value} {Q : Value → Shared → Prop} (hh : A.handled = none) (hl0 : s.heap.IsList l items) (subs : List (List Value)) (hn : subs.length = items.size)
    (hval : ∀ (i : Nat) (v : Value), items[i]? = some v → ∃ a m su, subs[i]? = some su ∧ v = .ref a ∧ s.heap.get? a = some (lO su m)) (st : List Value) {m : Nat} (hb : s.heap.get? b = some (lO st m)) (hz : st.length + subs.flatten.length ≤ 10000)
    (hQ : ∀ h' T' m', (∀ c o, s.heap.get? c = some o → h'.get? c = some o) → h'.get? T' = some (lO (st ++ subs.flatten) m') → (T' = b ∨ s.heap.objs.size ≤ T') → Q (.ref T') { s with heap := h' }) :
    wpAny (model prog w) A (call (.builtin "sum") [.ref l, .ref b]) Q E s := by
  refine call_function_tree F.kind_sum F.plain_sum F.entry_sum (args_sum2 _ _) ?_
  unfold Builtin.«sum»
  simp only [List.length_cons, List.length_nil]
  rw [if_neg (by decide)]
  refine wpAny_bind (wpAny_of_eq (show Builtin.Builtins.bindParams "sum" ["start"] 0 ⟨[.ref b], []⟩ = pure [some (.ref b)] from rfl) ?_)
  refine wpAny_bind (wpAny_pyIter_list hl0 ?_)
  refine wpAny_bind (wpAny_pure ?_)
  have hb1 : (s.heap.push { cls := .type "list_iterator", data := .fields #[.ref l, .int 0 0] }).get? b = some (lO st m) := Heap.get?_push_of_some _ hb
  have hT : Shared.TypeIs { s with heap := s.heap.push { cls := .type "list_iterator", data := .fields #[.ref l, .int 0 0] } } (.ref b) "list" := ⟨_, hb1, rfl⟩
  simp only [List.forIn_cons, List.forIn_nil]
  refine wpAny_bind (wpAny_bind (wpAny_bind (wpAny_isInstance (T := "list") (b := false) hT sub_ls ?_)))
  simp only [Bool.false_eq_true, if_false]
  refine wpAny_pure (wpAny_bind (wpAny_bind (wpAny_isInstance (T := "list") (b := false) hT sub_lb ?_)))
  simp only [Bool.false_eq_true, if_false]
  refine wpAny_pure (wpAny_bind (wpAny_bind (wpAny_isInstance (T := "list") (b := false) hT sub_lba ?_)))
  simp only [Bool.false_eq_true, if_false]
  refine wpAny_pure (wpAny_pure ?_)
  refine wpAny_bind (wpAny_newObj_type ?_)
  have hblt : b < s.heap.objs.size := Heap.lt_size hb
  have hsz1 : (s.heap.push { cls := .type "list_iterator", data := .fields #[.ref l, .int 0 0] }).objs.size = s.heap.objs.size + 1 := Heap.size_push ..
  refine wpAny_pure ⟨plainId_quiet F.plain_sum_loop _, sumL_loop (h0 := s.heap) (I := s.heap.objs.size) (l := l) (S := (s.heap.push { cls := .type "list_iterator", data := .fields #[.ref l, .int 0 0] }).objs.size) hh hl0 subs hn hval (by rw [hsz1]; exact Nat.le_succ _) (Nat.le_refl _) (by rw [hsz1]; exact Nat.succ_ne_self _) st hz items.size 0 _ b m 0 rfl (Nat.zero_le _)
    ⟨_, Heap.get?_push_of_some _ (Heap.get?_push_size _ rfl), rfl, rfl⟩ (Heap.get?_push_size _ rfl) (by rw [hsz1]; exact Nat.ne_of_lt (Nat.lt_succ_of_lt hblt)) (Nat.ne_of_lt hblt) ?_ (fun c o e => Heap.get?_push_of_some _ (Heap.get?_push_of_some _ e)) fun h' T' m' k t n => hQ h' T' m' k t n⟩
  rw [List.take_zero, List.flatten_nil, List.append_nil]
  exact Heap.get?_push_of_some _ hb1
end

/-- sum(xs, l0), lists: the lists' items one behind another, in a new list (or l0 itself, where xs is empty) -/
def rSumL : List V → Hp → VK → Prop := fun xs H Q => ∃ (a b : Addr) (vs st : List V) (subs : List (List V)), xs = [.ref a, .ref b] ∧ H a = some (.lst vs) ∧ H b = some (.lst st) ∧ Paired (fun v su => ∃ c, v = .ref c ∧ H c = some (.lst su)) vs subs ∧
  st.length + subs.flatten.length ≤ 10000 ∧ ∀ H' p, Same H H' → H' p = some (.lst (st ++ subs.flatten)) → Q (.ref p) H'
theorem subs_of {X : Cx} {pins : List (Addr × Obj)} {σ : L2.St} {H : Hp} {s : Shared} (I : Inv X pins σ H s) : ∀ {vs : List V} {us : List Value} {subs : List (List V)}, Vals vs us → Paired (fun v su => ∃ c, v = .ref c ∧ H c = some (.lst su)) vs subs →
    ∃ ws : List (List Value), ws.length = us.length ∧ (∀ (i : Nat) (v : Value), us[i]? = some v → ∃ a m su, ws[i]? = some su ∧ v = .ref a ∧ s.heap.get? a = some (lO su m)) ∧ Vals subs.flatten ws.flatten
  | _, _, _, .nil, .nil => ⟨[], rfl, fun i v h => by simp at h, .nil⟩
  | _, _, _, .cons r rs, .cons ⟨c, e, h⟩ ps => by
    subst e
    obtain ⟨ws, h1, h2, h3⟩ := subs_of I rs ps
    obtain ⟨_, its, n, rv, _, hg⟩ := I.lstM h
    have er : _ = Value.ref c := r
    subst er
    refine ⟨its :: ws, by simp [h1], fun i v hv => ?_, ?_⟩
    · cases i with
      | zero =>
        have e := Option.some.inj hv
        exact ⟨c, n, its, rfl, e.symm, hg⟩
      | succ i => exact h2 i v (by simpa using hv)
    · rw [List.flatten_cons, List.flatten_cons]
      exact rv.append h3
theorem cr_sumL {X : Cx} (hc : X.calm = true) : CallR X (.builtin "sum") rSumL := by
  intro pins s σ H xs us Q I r h
  obtain ⟨a, b, vs, st, subs, rfl, ha, hb, hp, hz, q⟩ := h
  obtain ⟨u, u2, rfl, ru, ru2⟩ := vals2 r
  have e1 : u = Value.ref a := ru
  have e2 : u2 = Value.ref b := ru2
  subst e1 e2
  obtain ⟨_, its, n, rv, _, hg⟩ := I.lstM ha
  obtain ⟨_, its2, n2, rv2, _, hg2⟩ := I.lstM hb
  obtain ⟨ws, h1, h2, h3⟩ := subs_of I rv hp
  refine sumL_call (I.ok.hd hc) ⟨_, hg, rfl, n, rfl⟩ ws (by simpa using h1) (fun i v hv => h2 i v (by simpa using hv)) its2 hg2 (by rw [← rv2.length, ← h3.length]; exact hz) fun h' T' m' k t tn => ?_
  have hvv := rv2.append h3
  have hl : (st ++ subs.flatten).length ≤ sizeLine := by
    rw [List.length_append]
    exact Nat.le_trans hz (by decide)
  rcases tn with e | e
  · subst e
    have e3 : lO (its2 ++ ws.flatten) m' = lO its2 n2 := Option.some.inj (t.symm.trans (k _ _ hg2))
    have e4 : its2 ++ ws.flatten = its2 := by
      have e5 : ((its2 ++ ws.flatten).toArray : Array Value) = its2.toArray := by
        have := congrArg Obj.data e3
        injection this
      simpa using e5
    have e6 : st ++ subs.flatten = st := by
      rw [e4] at hvv
      exact Vals.inj hvv rv2
    exact ⟨.ref T', H, I.kept (t' := s.toks) k, rfl, q H T' (Same.refl H) (by rw [e6]; exact hb)⟩
  · have hn : H T' = none := I.hok.fresh e
    exact ⟨.ref T', upd H T' (.lst (st ++ subs.flatten)), I.laid (t' := s.toks) k e ⟨hl, _, m', hvv, t⟩, rfl, q _ T' (fun c o z => by rw [upd_ne (ne_of_none z hn)]; exact z) upd_same⟩
end TA
namespace TA
open PySem PySem.Spec PyProof.Rows L2
/-! ### == by the class's own __eq__, whatever it answers; the other one of the class too, or a tuple -/
def rEqOwn (C : Addr) (sp : Sp) : R2 := fun x y H Q => ∃ (a dx : Addr) (fs : List (Str × V)) (b : Addr), x = .ref a ∧ y = .ref b ∧ H a = some (.ins C dx fs) ∧ ((∃ dy gs, H b = some (.ins C dy gs)) ∨ ∃ xs, H b = some (.tup xs)) ∧
  sp [.ref a, .ref b] H (fun v H' => (∃ c, v = .bl c) ∧ Q v H') E0
theorem op_eqOwn {X : Cx} {n : Nat} {C f : Addr} {fd : FuncData} {ps : List Str} {sp : Sp} (F : FnOk X.prog X.w X.K X.mg X.base CX0 n f fd ps sp) (hr : Room n X.A) (hs : PySem.W.findIn X.K (.ref C) "__eq__" = some (some (.ref f)))
    (hf : PySem.W.isFn X.K (.ref f) = true) (ht : PySem.W.subIn X.K (.type "tuple") (.ref C) = some false) (hb : Binds X.K fd ps []) : OpR X (compareOp .Eq) (rEqOwn C sp) := by
  intro pins s σ H x y v u Q I rx ry h
  obtain ⟨a, dx, fs, b, rfl, rfl, ha, hy, hsp⟩ := h
  cases rx
  cases ry
  show wpAny (model X.prog X.w) X.A (richCompare .Eq (.ref a) (.ref b)) (EP X pins σ Q) X.xe s
  obtain ⟨mA, J, _⟩ := ins_get I.hok ha
  obtain ⟨od, J, _⟩ := J.look
  obtain ⟨m, hF⟩ := I.fr
  have ty : ∃ tb, PySem.W.Looks (model X.prog X.w) s.heap (typeOf (.ref b)) tb ∧ PySem.W.notFirst X.K C tb = true := by
    rcases hy with ⟨dy, gs, e⟩ | ⟨xs, e⟩
    · obtain ⟨mB, J', _⟩ := ins_get I.hok e
      obtain ⟨od', J', _⟩ := J'.look
      exact ⟨_, J'.type, by simp [PySem.W.notFirst]⟩
    · obtain ⟨_, its, _, o, ho, hc, _⟩ := I.hok b _ e
      exact ⟨.type "tuple", hc ▸ (PySem.W.Looks.ld ho).andThen .now, by simp [PySem.W.notFirst, ht]⟩
  obtain ⟨tb, htb, hn⟩ := ty
  refine PySem.W.cmp_K (op := .Eq) hr.units0 hF I.ok.mod.kin J htb hn hs hf (wpAny_mono (run_fn (dvs := []) (ds := []) (vs := [.ref a, .ref b]) F hr hb .nil pass0 I (.cons rfl (.cons rfl .nil)) hsp) (fun r s' q => ?_) fun _ _ z => z)
  obtain ⟨z, H', I', rz, ⟨c, ez⟩, q⟩ := q
  subst ez
  have er : r = Value.bool c := rz
  subst er
  exact ⟨.bl c, H', I', rfl, q⟩
end TA
namespace TA
open PySem PySem.Spec PyProof.Rows L2

/-! ### parts of a heap -/
/-- what H' tracks and H doesn't -/
def Nw (H H' : Hp) : Hp := fun b => match H b with
  | none => H' b
  | some _ => none
theorem nw_get {H H' : Hp} {b : Addr} {o : HO} (h : H b = none) (h' : H' b = some o) : Nw H H' b = some o := by
  unfold Nw
  rw [h]
  exact h'
theorem of_nw {H H' : Hp} {b : Addr} {o : HO} (h : Nw H H' b = some o) : H b = none ∧ H' b = some o := by
  unfold Nw at h
  split at h
  · rename_i e
    exact ⟨e, h⟩
  · cases h
theorem nw_same {H H' : Hp} : Same (Nw H H') H' := fun _ _ h => (of_nw h).2
theorem nw_mono {H H1 H2 : Hp} (k : Same H1 H2) : Same (Nw H H1) (Nw H H2) := fun b o h => nw_get (of_nw h).1 (k b o (of_nw h).2)
/-- new behind a later heap is new behind an earlier one -/
theorem nw_back {H0 H H' : Hp} (k : Same H0 H) : Same (Nw H H') (Nw H0 H') := fun b o h => nw_get (k.free (of_nw h).1) (of_nw h).2
/-- all but p -/
def hid (p : Addr) (H : Hp) : Hp := fun b => if b = p then none else H b
theorem hid_get {p b : Addr} {H : Hp} {o : HO} (h : H b = some o) (ne : b ≠ p) : hid p H b = some o := by
  unfold hid
  rw [if_neg ne]
  exact h
theorem of_hid {p b : Addr} {H : Hp} {o : HO} (h : hid p H b = some o) : b ≠ p ∧ H b = some o := by
  unfold hid at h
  split at h
  · cases h
  · rename_i ne
    exact ⟨ne, h⟩
theorem hid_same {p : Addr} {H : Hp} : Same (hid p H) H := fun _ _ h => (of_hid h).2
theorem hid_mono {p : Addr} {H H' : Hp} (k : Same H H') : Same (hid p H) (hid p H') := fun b o h => hid_get (k b o (of_hid h).2) (of_hid h).1
theorem hid_upd {p : Addr} {H : Hp} {o : HO} : Same (hid p H) (hid p (upd H p o)) := fun b u h => hid_get (by rw [upd_ne (of_hid h).1]; exact (of_hid h).2) (of_hid h).1
theorem nw_hid {p : Addr} {H H' : Hp} {o : HO} (h : H p = some o) : Same (Nw H H') (hid p H') := fun b u q => hid_get (of_nw q).2 (ne_of_none h (of_nw q).1).symm
theorem nw_free {H H' : Hp} {b : Addr} {o : HO} (h : H b = some o) : Nw H H' b = none := by
  unfold Nw
  rw [h]
theorem hid_none {p b : Addr} {H : Hp} (h : H b = none) : hid p H b = none := by
  unfold hid
  split
  · rfl
  · exact h
theorem same_new {H : Hp} {p : Addr} {o : HO} (h : H p = none) : Same H (upd H p o) := fun b u e => by
  rw [upd_ne (ne_of_none e h)]
  exact e
/-- a change at an address that H doesn't know -/
theorem same_mut {H H' : Hp} {p : Addr} {o : HO} (k : Same H H') (h : H p = none) : Same H (upd H' p o) := fun b u e => by
  rw [upd_ne (ne_of_none e h)]
  exact k b u e
theorem same_tup {K : PySem.W.Frag} {H H' : Hp} {a : Addr} {xs : List V} (e : Same H H') (h : SqT K H a xs) : SqT K H' a xs := by
  rcases h with (h | ⟨o, h⟩) | h
  · exact .inl (.inl (e _ _ h))
  · exact .inl (.inr ⟨o, e _ _ h⟩)
  · exact .inr h
theorem same_hidp {p : Addr} {H H' : Hp} (k : Same (hid p H) (hid p H')) {q : Addr} {o : HO} (h : H q = some o) (ne : q ≠ p) : H' q = some o := (of_hid (k q o (hid_get h ne))).2

/-! ### lists in a heap -/
abbrev vs1 (l : List Nat) : List V := l.map vN
def L1 (H : Hp) (v : V) (l : List Nat) : Prop := ∃ a, v = .ref a ∧ H a = some (.lst (vs1 l))
def T1 (H : Hp) (v : V) (l : List Nat) : Prop := ∃ a, v = .ref a ∧ H a = some (.tup (vs1 l))
def S1 (H : Hp) (v : V) (l : List Nat) : Prop := L1 H v l ∨ T1 H v l
def L2s (H : Hp) (v : V) (ks : List (List Nat)) : Prop := ∃ a vs, v = .ref a ∧ H a = some (.lst vs) ∧ Paired (L1 H) vs ks
/-- a list or a tuple of lists -/
def S2s (H : Hp) (v : V) (ks : List (List Nat)) : Prop := ∃ a vs, v = .ref a ∧ (H a = some (.lst vs) ∨ H a = some (.tup vs)) ∧ Paired (L1 H) vs ks
theorem L1.mono {H H' : Hp} {v : V} {l : List Nat} (h : L1 H v l) (k : Same H H') : L1 H' v l := by
  obtain ⟨a, e, q⟩ := h
  exact ⟨a, e, k _ _ q⟩
theorem T1.mono {H H' : Hp} {v : V} {l : List Nat} (h : T1 H v l) (k : Same H H') : T1 H' v l := by
  obtain ⟨a, e, q⟩ := h
  exact ⟨a, e, k _ _ q⟩
theorem S1.mono {H H' : Hp} {v : V} {l : List Nat} (h : S1 H v l) (k : Same H H') : S1 H' v l := h.elim (fun h => .inl (h.mono k)) fun h => .inr (h.mono k)
theorem paired_mono {H H' : Hp} {vs : List V} {ks : List (List Nat)} (h : Paired (L1 H) vs ks) (k : Same H H') : Paired (L1 H') vs ks := Paired.mono (fun _ _ q => L1.mono q k) h
theorem L2s.mono {H H' : Hp} {v : V} {ks : List (List Nat)} (h : L2s H v ks) (k : Same H H') : L2s H' v ks := by
  obtain ⟨a, vs, e, q, p⟩ := h
  exact ⟨a, vs, e, k _ _ q, paired_mono p k⟩
theorem S2s.mono {H H' : Hp} {v : V} {ks : List (List Nat)} (h : S2s H v ks) (k : Same H H') : S2s H' v ks := by
  obtain ⟨a, vs, e, q, p⟩ := h
  exact ⟨a, vs, e, q.imp (k _ _) (k _ _), paired_mono p k⟩
theorem L2s.s2 {H : Hp} {v : V} {ks : List (List Nat)} (h : L2s H v ks) : S2s H v ks := by
  obtain ⟨a, vs, e, q, p⟩ := h
  exact ⟨a, vs, e, .inl q, p⟩
theorem paired_get {α β : Type} {F : α → β → Prop} : ∀ {l : List α} {m : List β}, Paired F l m → ∀ (i : Nat) (x : α), l[i]? = some x → ∃ y, m[i]? = some y ∧ F x y
  | _, _, .nil, _, _, h => by simp at h
  | _, _, .cons r t, 0, x, h => by
    have e := Option.some.inj h
    subst e
    exact ⟨_, rfl, r⟩
  | _, _, .cons r t, i + 1, x, h => by
    obtain ⟨y, h1, h2⟩ := paired_get t i x (by simpa using h)
    exact ⟨y, by simpa using h1, h2⟩
theorem paired_get' {α β : Type} {F : α → β → Prop} : ∀ {l : List α} {m : List β}, Paired F l m → ∀ (i : Nat) (y : β), m[i]? = some y → ∃ x, l[i]? = some x ∧ F x y
  | _, _, .nil, _, _, h => by simp at h
  | _, _, .cons r t, 0, x, h => by
    have e := Option.some.inj h
    subst e
    exact ⟨_, rfl, r⟩
  | _, _, .cons r t, i + 1, x, h => by
    obtain ⟨y, h1, h2⟩ := paired_get' t i x (by simpa using h)
    exact ⟨y, by simpa using h1, h2⟩
theorem paired_app {α β : Type} {F : α → β → Prop} : ∀ {l l' : List α} {m m' : List β}, Paired F l m → Paired F l' m' → Paired F (l ++ l') (m ++ m')
  | _, _, _, _, .nil, s => s
  | _, _, _, _, .cons r t, s => .cons r (paired_app t s)
theorem paired_map {α β γ : Type} {F : α → γ → Prop} {f : β → γ} : ∀ {l : List α} {m : List β}, Paired (fun a b => F a (f b)) l m → Paired F l (m.map f)
  | _, _, .nil => .nil
  | _, _, .cons r t => .cons r (paired_map t)
/-- values that are known -/
theorem paired_fun {α : Type} {f : α → V} : ∀ {vs : List V} {ds : List α}, Paired (fun v d => v = f d) vs ds → vs = ds.map f
  | _, _, .nil => rfl
  | _, _, .cons r t => by rw [List.map_cons, ← r, ← paired_fun t]
/-! as data -/
theorem dpAll_ints {K : PySem.W.Frag} {H : Hp} : ∀ l : List Nat, DpAll K H (vs1 l) ((cI l).map .int)
  | [] => .nil
  | n :: l => .cons (.int n) (dpAll_ints l)
theorem L1.dp {K : PySem.W.Frag} {H : Hp} {v : V} {l : List Nat} (h : L1 H v l) : Dp K H v (dL l) := by
  obtain ⟨a, rfl, q⟩ := h
  exact .lst (SqL.of q) (dpAll_ints l)
theorem dpAll_rows {K : PySem.W.Frag} {H : Hp} : ∀ {vs : List V} {ks : List (List Nat)}, Paired (L1 H) vs ks → DpAll K H vs (ks.map dL)
  | _, _, .nil => .nil
  | _, _, .cons r t => .cons r.dp (dpAll_rows t)
theorem L2s.dp {K : PySem.W.Frag} {H : Hp} {v : V} {ks : List (List Nat)} (h : L2s H v ks) : Dp K H v (dLL ks) := by
  obtain ⟨a, vs, rfl, q, p⟩ := h
  exact .lst (SqL.of q) (dpAll_rows p)

/-! ### what is walked -/
/-- J walks xs, whatever is laid beside -/
structure Runs (J : It) (xs : List V) (H : Hp) : Prop where
  go : ∀ H' i, Same H H' → i < xs.length → J.go i H'
  yld : ∀ H' i x H'', Same H H' → i < xs.length → J.yld i H' x H'' → H'' = H' ∧ xs[i]? = some x
  stop : ∀ H', Same H H' → J.stop xs.length H'
theorem runs_list {K : PySem.W.Frag} {H : Hp} {a : Addr} {xs : List V} (h : SqL K H a xs) : Runs (Itl K a) xs H :=
  ⟨fun H' i k hi => ⟨xs, xs[i], k.seq h, List.getElem?_eq_getElem hi⟩, fun H' i x H'' k hi y => ⟨y.1, y.2 xs (k.seq h)⟩, fun H' k => ⟨xs, k.seq h, Nat.le_refl _⟩⟩
theorem runs_tup {K : PySem.W.Frag} {H : Hp} {a : Addr} {xs : List V} (h : SqT K H a xs) : Runs (Itt K a) xs H :=
  ⟨fun H' i k hi => ⟨xs, xs[i], same_tup k h, List.getElem?_eq_getElem hi⟩, fun H' i x H'' k hi y => ⟨y.1, y.2 xs (same_tup k h)⟩, fun H' k => ⟨xs, same_tup k h, Nat.le_refl _⟩⟩
theorem runs_range {H : Hp} (n : Nat) : Runs (Itr 0 n) (vs1 (List.range n)) H := by
  have hl : (vs1 (List.range n)).length = n := by simp
  refine ⟨fun H' i k hi => ?_, fun H' i x H'' k hi y => ?_, fun H' k => ?_⟩
  · rw [hl] at hi
    exact hi
  · obtain ⟨e, y⟩ := y
    rw [hl] at hi
    refine ⟨e, ?_⟩
    rw [y, List.getElem?_map, List.getElem?_range hi]
    show some (V.int (i : Int)) = some (V.int (0 + (i : Int)))
    rw [Int.zero_add]
  · rw [hl]
    exact Nat.le_refl _
theorem same_nw {H0 H : Hp} {D : Addr} {o : HO} : Same (Nw H0 H) (Nw H0 H) := Same.refl _

/-- a list or a tuple is walked -/
def iSeq (K : PySem.W.Frag) (tl : TE) : TI := fun σ H R => tl σ H fun x H1 => ∃ a xs, x = .ref a ∧ (SqL K H1 a xs ∨ SqT K H1 a xs) ∧ ∀ J, Runs J xs H1 → R J H1
theorem pi_seq {X : Cx} {tg l : Expr} {tl : TE} (hl : PE X l tl) : PI X tg l (iSeq X.K tl) := by
  refine ⟨fun pins s σ H R I h => thn (hl.run pins s σ H _ I h) fun v s1 ⟨x, H1, I1, r1, a, xs, e, hq, q⟩ => ?_⟩
  subst e
  have er : v = Value.ref a := r1
  subst er
  have new : ∀ b ∈ [s1.heap.objs.size], FpOk X pins H1 b := fun b hb => by
    rw [List.mem_singleton.mp hb]
    exact I1.fpOk (Nat.le_refl _) (I1.hok.fresh (Nat.le_refl _))
  rcases hq with hq | hq
  · obtain ⟨its, _, p, _⟩ := I1.list hq
    exact wpAny_pyIter_list p.isList ⟨_, [s1.heap.objs.size], _, _, H1, rfl, I1.kept (t' := s1.toks) fun b o e => Heap.get?_push_of_some _ e, turn_list a _, ⟨_, Heap.get?_push_size _ rfl, rfl, rfl⟩, new, q _ (runs_list hq)⟩
  · obtain ⟨its, _, p, _⟩ := I1.tuple hq
    exact wpAny_pyIter_tuple (show s1.heap.IsTuple a its.toArray from p) ⟨_, [s1.heap.objs.size], _, _, H1, rfl, I1.kept (t' := s1.toks) fun b o e => Heap.get?_push_of_some _ e, turn_tuple a _, ⟨_, Heap.get?_push_size _ rfl, rfl, rfl⟩, new, q _ (runs_tup hq)⟩
/-- for x in J: .., Pv by the turn -/
theorem for_by {J : It} {xs : List V} {g : TG} {tb : TS} {D : Ends} {σ : L2.St} {H : Hp} {H0 : Hp} (hJ : Runs J xs H0) (Pv : Nat → L2.St → Hp → Prop) (hk : ∀ i σ H, Pv i σ H → Same H0 H) (h0 : Pv 0 σ H)
    (hs : ∀ i x σ H, xs[i]? = some x → Pv i σ H → g x σ H fun σ2 H2 => tb { D with nx := Pv (i + 1), ct := Pv (i + 1), bk := D.nx } σ2 H2) (hd : ∀ σ H, Pv xs.length σ H → D.nx σ H) :
    ∃ W : Nat → Nat → L2.St → Hp → Prop, (∃ m, W 0 m σ H) ∧ ∀ i m σ H, W i m σ H →
      (J.stop i H ∧ D.nx σ H) ∨ (J.go i H ∧ ∃ N : L2.St → Hp → Prop, (∀ σ' H', N σ' H' → ∃ m', m' < m ∧ W (i + 1) m' σ' H') ∧ ∀ x H', J.yld i H x H' → g x σ H' fun σ2 H2 => tb { D with nx := N, ct := N, bk := D.nx } σ2 H2) := by
  refine ⟨fun i m σ H => m = xs.length - i ∧ i ≤ xs.length ∧ Pv i σ H, ⟨xs.length, by simp, Nat.zero_le _, h0⟩, ?_⟩
  rintro i m σ H ⟨rfl, hi, p⟩
  have k := hk i σ H p
  by_cases hlt : i < xs.length
  · refine .inr ⟨hJ.go H i k hlt, Pv (i + 1), fun σ' H' p' => ⟨xs.length - (i + 1), by omega, rfl, hlt, p'⟩, fun x H' y => ?_⟩
    obtain ⟨rfl, hx⟩ := hJ.yld H i x H' k hlt y
    exact hs i x σ H' hx p
  · have e : i = xs.length := by omega
    subst e
    exact .inl ⟨hJ.stop H k, hd σ H p⟩

/-! ### comprehensions -/
/-- [e for x in J if t]: ds, what the items stand for; keep, the test's answer; R, what is known of an element (in the heap's new part) -/
theorem comp_by {α : Type} {J : It} {xs : List V} {g : TG} {tt : TT} {te : TE} {vs : List Nat} {σ : L2.St} {H1 : Hp} {D : Addr} {Qd : Hp → Prop} (ds : List α) (hJ : Runs J xs H1) (hn : xs.length = ds.length) (hz : ds.length ≤ 10000) (hD : H1 D = none)
    (keep : α → Bool) (R : α → Hp → V → Prop) (mono : ∀ d N N' v, Same N N' → R d N v → R d N' v)
    (turn : ∀ (i : Nat) (x : V) (d : α) (H : Hp) (Z : V → Hp → Prop) (Zn : Hp → Prop), xs[i]? = some x → ds[i]? = some d → Same H1 H → (∀ y H4, keep d = true → Same H H4 → R d (Nw H H4) y → Z y H4) → (∀ H3, keep d = false → Same H H3 → Zn H3) →
      g x (wipe σ vs) H fun σ2 H2 => wipe σ2 vs = wipe σ vs ∧ tt σ2 H2 fun b H3 => if b = true then te σ2 H3 Z else Zn H3)
    (fin : ∀ H' ys, Same H1 H' → H' D = some (.lst ys) → Paired (fun v d => R d (Nw (upd H1 D (.lst [])) H') v) ys (ds.filter keep) → Qd H') :
    ∃ W : Nat → Nat → Hp → Prop, (∃ m, W 0 m (upd H1 D (.lst []))) ∧ ∀ i m H, W i m H →
      (J.stop i H ∧ Qd H) ∨ (J.go i H ∧ ∃ Nx : Hp → Prop, (∀ H', Nx H' → ∃ m', m' < m ∧ W (i + 1) m' H') ∧ ∀ x H', J.yld i H x H' → g x (wipe σ vs) H' fun σ2 H2 => wipe σ2 vs = wipe σ vs ∧ tt σ2 H2 fun b H3 =>
        if b = true then te σ2 H3 fun y H4 => ∃ acc, H4 D = some (.lst acc) ∧ acc.length < sizeLine ∧ Nx (upd H4 D (.lst (acc ++ [y]))) else Nx H3) := by
  have Rm : ∀ {H H' : Hp} {ys : List V} {es : List α}, Same H H' → Paired (fun v d => R d (Nw (upd H1 D (.lst [])) H) v) ys es → Paired (fun v d => R d (Nw (upd H1 D (.lst [])) H') v) ys es := fun k p => Paired.mono (fun v d q => mono d _ _ v (nw_mono k) q) p
  let Pv : Nat → Hp → Prop := fun i H => Same H1 H ∧ ∃ ys, H D = some (.lst ys) ∧ ys.length ≤ i ∧ Paired (fun v d => R d (Nw (upd H1 D (.lst [])) H) v) ys ((ds.take i).filter keep)
  refine ⟨fun i m H => m = xs.length - i ∧ i ≤ xs.length ∧ Pv i H, ⟨xs.length, by simp, Nat.zero_le _, same_new hD, [], upd_same, Nat.le_refl _, .nil⟩, ?_⟩
  rintro i m H ⟨rfl, hi, k, ys, hy, hyl, hp⟩
  by_cases hlt : i < xs.length
  · refine .inr ⟨hJ.go H i k hlt, Pv (i + 1), fun H' p' => ⟨xs.length - (i + 1), by omega, rfl, hlt, p'⟩, fun x H' y => ?_⟩
    obtain ⟨rfl, hx⟩ := hJ.yld H i x H' k hlt y
    have hdl : i < ds.length := by omega
    have hd : ds[i]? = some ds[i] := List.getElem?_eq_getElem hdl
    refine turn i x ds[i] H' _ _ hx hd k (fun y H4 hk k4 hR => ⟨ys, k4 _ _ hy, Nat.lt_of_le_of_lt hyl (Nat.lt_of_lt_of_le hdl (Nat.le_trans hz (by decide))), ?_⟩) fun H3 hk k3 => ⟨k.trans k3, ys, k3 _ _ hy, by omega, ?_⟩
    · have sm : ∀ {A B : Hp}, Same (Nw (upd H1 D (.lst [])) H4) (Nw (upd H1 D (.lst [])) (upd H4 D (.lst (ys ++ [y])))) := fun {A B} b o q => by
        obtain ⟨q1, q2⟩ := of_nw q
        have ne : b ≠ D := fun e => by
          rw [e, upd_same] at q1
          cases q1
        exact nw_get q1 (by rw [upd_ne ne]; exact q2)
      refine ⟨same_mut (k.trans k4) hD, ys ++ [y], upd_same, by rw [List.length_append]; exact Nat.succ_le_succ hyl, ?_⟩
      rw [List.take_add_one, hd, List.filter_append]
      have e1 : (some ds[i]).toList.filter keep = [ds[i]] := by
        show List.filter keep [ds[i]] = [ds[i]]
        rw [List.filter_cons, if_pos hk]
        rfl
      rw [e1]
      refine paired_app (Paired.mono (fun v d q => mono d _ _ v (sm (A := H4) (B := H4)) q) (Rm k4 hp)) (.cons (mono _ _ _ _ (sm (A := H4) (B := H4)) (mono _ _ _ _ ?_ hR)) .nil)
      intro b o q
      obtain ⟨q1, q2⟩ := of_nw q
      have ne : b ≠ D := fun e => by
        rw [e, hy] at q1
        cases q1
      exact nw_get (by rw [upd_ne ne]; exact k.free q1) q2
    · rw [List.take_add_one, hd, List.filter_append]
      have e1 : (some ds[i]).toList.filter keep = [] := by
        show List.filter keep [ds[i]] = []
        rw [List.filter_cons, if_neg (by rw [hk]; exact Bool.false_ne_true)]
        rfl
      rw [e1, List.append_nil]
      exact Rm k3 hp
  · have e : i = xs.length := by omega
    subst e
    refine .inl ⟨hJ.stop H k, fin H ys k hy ?_⟩
    rw [show ds.take xs.length = ds from List.take_of_length_le (by omega)] at hp
    exact hp
/-- [e for x in J] -/
theorem comp_all {α : Type} {J : It} {xs : List V} {g : TG} {te : TE} {vs : List Nat} {σ : L2.St} {H1 : Hp} {D : Addr} {Qd : Hp → Prop} (ds : List α) (hJ : Runs J xs H1) (hn : xs.length = ds.length) (hz : ds.length ≤ 10000) (hD : H1 D = none)
    (R : α → Hp → V → Prop) (mono : ∀ d N N' v, Same N N' → R d N v → R d N' v)
    (turn : ∀ (i : Nat) (x : V) (d : α) (H : Hp) (Z : V → Hp → Prop), xs[i]? = some x → ds[i]? = some d → Same H1 H → (∀ y H4, Same H H4 → R d (Nw H H4) y → Z y H4) → g x (wipe σ vs) H fun σ2 H2 => wipe σ2 vs = wipe σ vs ∧ te σ2 H2 Z)
    (fin : ∀ H' ys, Same H1 H' → H' D = some (.lst ys) → Paired (fun v d => R d (Nw (upd H1 D (.lst [])) H') v) ys ds → Qd H') (gw : ∃ i, g = gName i) :
    ∃ W : Nat → Nat → Hp → Prop, (∃ m, W 0 m (upd H1 D (.lst []))) ∧ ∀ i m H, W i m H →
      (J.stop i H ∧ Qd H) ∨ (J.go i H ∧ ∃ Nx : Hp → Prop, (∀ H', Nx H' → ∃ m', m' < m ∧ W (i + 1) m' H') ∧ ∀ x H', J.yld i H x H' → g x (wipe σ vs) H' fun σ2 H2 => wipe σ2 vs = wipe σ vs ∧ tYes σ2 H2 fun b H3 =>
        if b = true then te σ2 H3 fun y H4 => ∃ acc, H4 D = some (.lst acc) ∧ acc.length < sizeLine ∧ Nx (upd H4 D (.lst (acc ++ [y]))) else Nx H3) := by
  obtain ⟨gi, rfl⟩ := gw
  refine comp_by (tt := tYes) ds hJ hn hz hD (fun _ => true) R mono (fun i x d H Z Zn hx hd k z1 z2 => ?_) fun H' ys k hy hp => fin H' ys k hy ?_
  · obtain ⟨e, q⟩ := turn i x d H Z hx hd k fun y H4 k4 hR => z1 y H4 rfl k4 hR
    refine ⟨e, ?_⟩
    show (if true = true then te ((wipe σ vs).set gi (some x)) H Z else Zn H)
    rw [if_pos rfl]
    exact q
  · rw [List.filter_eq_self.mpr fun _ _ => rfl] at hp
    exact hp
end TA
namespace TA
open PySem PySem.Spec PyProof.Rows L2
/-! ### lists of numbers as data: ==, what is shown -/
theorem eqv_ints : ∀ a b : List Nat, PyData.eqvAll ((cI a).map .int) ((cI b).map .int) = decide (a = b)
  | [], [] => rfl
  | [], _ :: _ => rfl
  | _ :: _, [] => rfl
  | a :: as, b :: bs => by
    show PyData.eqvAll (.int (a : Int) :: (cI as).map .int) (.int (b : Int) :: (cI bs).map .int) = _
    rw [PyData.eqvAll, eqv_ints as bs, PyData.eqv]
    by_cases h : a = b
    · subst h
      simp
    · have h2 : ((a : Int) == (b : Int)) = false := beq_eq_false_iff_ne.mpr (by omega)
      rw [h2, Bool.false_and]
      exact (decide_eq_false fun e => h (List.cons.inj e).1).symm
theorem eqv_row (a b : List Nat) : PyData.eqv (dL a) (dL b) = decide (a = b) := by
  unfold dL
  rw [PyData.eqv]
  exact eqv_ints a b
theorem eqv_rowsAll : ∀ a b : List (List Nat), PyData.eqvAll (a.map dL) (b.map dL) = decide (a = b)
  | [], [] => rfl
  | [], _ :: _ => rfl
  | _ :: _, [] => rfl
  | a :: as, b :: bs => by
    rw [List.map_cons, List.map_cons, PyData.eqvAll, eqv_rowsAll as bs, eqv_row]
    by_cases h : a = b
    · subst h
      simp
    · rw [decide_eq_false h, Bool.false_and]
      exact (decide_eq_false fun e => h (List.cons.inj e).1).symm
theorem eqv_rows (a b : List (List Nat)) : PyData.eqv (dLL a) (dLL b) = decide (a = b) := by
  unfold dLL
  rw [PyData.eqv]
  exact eqv_rowsAll a b
def dT (k : List Nat) : PyData := .tuple ((cI k).map .int)
theorem eqv_tup (a b : List Nat) : PyData.eqv (dT a) (dT b) = decide (a = b) := by
  unfold dT
  rw [PyData.eqv]
  exact eqv_ints a b
theorem T1.dp {K : PySem.W.Frag} {H : Hp} {v : V} {l : List Nat} (h : T1 H v l) : Dp K H v (dT l) := by
  obtain ⟨a, rfl, q⟩ := h
  exact .tup (SqT.of q) (dpAll_ints l)
theorem lay_ints : ∀ a : List Nat, PyData.canLayAll0 ((cI a).map .int) = true
  | [] => rfl
  | a :: as => by
    show PyData.canLayAll0 (.int (a : Int) :: (cI as).map .int) = true
    rw [PyData.canLayAll0, lay_ints as, PyData.canLay0]
    rfl
theorem lay_rows : ∀ a : List (List Nat), PyData.canLayAll0 (a.map dL) = true
  | [] => rfl
  | a :: as => by
    rw [List.map_cons, PyData.canLayAll0, lay_rows as, dL, PyData.canLay0, lay_ints]
    rfl
theorem depth_rows : ∀ a : List (List Nat), PyData.depthAll (a.map dL) ≤ 1
  | [] => by simp [PyData.depthAll]
  | a :: as => by
    have := depth_rows as
    rw [List.map_cons, PyData.depthAll, depth_row]
    omega
theorem shaped_row (a : List Nat) : SeqAt.shaped (dL a) = true := by
  unfold SeqAt.shaped
  rw [depth_row, dL, PyData.canLay0, lay_ints]
  rfl
theorem shaped_tup (a : List Nat) : SeqAt.shaped (dT a) = true := by
  unfold SeqAt.shaped
  rw [dT, PyData.canLay0, lay_ints, PyData.depth, PySem.W.depth_ints]
  rfl
theorem shaped_rows (a : List (List Nat)) : SeqAt.shaped (dLL a) = true := by
  unfold SeqAt.shaped
  have := depth_rows a
  rw [dLL, PyData.canLay0, lay_rows, PyData.depth, Bool.true_and]
  exact decide_eq_true (by omega)
/-! what is shown -/
theorem listText_le (ts : List Str) : (listText ts).length ≤ piled ts + 2 := by
  have e1 : ((("[" : String) : Str)).length = 1 := rfl
  have e2 : ((("]" : String) : Str)).length = 1 := rfl
  unfold listText
  rw [strLen_append, e2]
  cases ts with
  | nil => exact Nat.le_refl _
  | cons t r =>
    have h := textFrom_length_pos r 1 ("[" ++ t) (by decide)
    have e3 : (("[" : Str) ++ t).length = 1 + t.length := by rw [strLen_append, e1]
    rw [e3] at h
    rw [piled_cons]
    show (textFrom 1 ("[" ++ t) r).length + 1 ≤ _
    omega
theorem piled_le {c : Nat} : ∀ {ts : List Str}, (∀ t ∈ ts, t.length ≤ c) → piled ts ≤ ts.length * (c + 2)
  | [], _ => Nat.zero_le _
  | t :: ts, h => by
    have h1 := h t List.mem_cons_self
    have h2 := piled_le (ts := ts) fun x hx => h x (List.mem_cons_of_mem _ hx)
    rw [piled_cons, List.length_cons, Nat.succ_mul]
    omega
theorem shownAll_map : ∀ ds : List PyData, PyData.shownAll ds = ds.map PyData.shown
  | [] => rfl
  | d :: ds => by rw [PyData.shownAll, shownAll_map ds, List.map_cons]
/-- small rows, few of them -/
def SmR (k : List Nat) : Prop := k.length ≤ 60 ∧ ∀ x ∈ k, x < 1000
def SmRs (ks : List (List Nat)) : Prop := ks.length ≤ 60 ∧ ∀ k ∈ ks, SmR k
theorem shown_num {n : Nat} (h : n < 1000) : (PyData.shown (.int (n : Int))).length ≤ 3 := by
  rw [PyData.shown]
  exact toString_length_le (Int.natCast_nonneg _) (by decide) (by omega)
theorem shown_row {k : List Nat} (h : SmR k) : (dL k).shown.length ≤ 302 := by
  unfold dL
  rw [PyData.shown, shownAll_map]
  refine Nat.le_trans (listText_le _) ?_
  have := piled_le (c := 3) (ts := ((cI k).map PyData.int).map PyData.shown) fun t ht => by
    obtain ⟨d, hd, rfl⟩ := List.mem_map.mp ht
    obtain ⟨i, hi, rfl⟩ := List.mem_map.mp hd
    obtain ⟨n, hn, rfl⟩ := List.mem_map.mp hi
    exact shown_num (h.2 n hn)
  rw [List.length_map, List.length_map, List.length_map] at this
  have := h.1
  omega
theorem shown_rows {ks : List (List Nat)} (h : SmRs ks) : (dLL ks).shown.length ≤ 18300 := by
  unfold dLL
  rw [PyData.shown, shownAll_map]
  refine Nat.le_trans (listText_le _) ?_
  have := piled_le (c := 302) (ts := (ks.map dL).map PyData.shown) fun t ht => by
    obtain ⟨d, hd, rfl⟩ := List.mem_map.mp ht
    obtain ⟨k, hk, rfl⟩ := List.mem_map.mp hd
    exact shown_row (h.2 k hk)
  rw [List.length_map, List.length_map] at this
  have := h.1
  omega
theorem showable_ints : ∀ a : List Nat, (∀ x ∈ a, x < 1000) → PyData.showableAll ((cI a).map .int) = true
  | [], _ => rfl
  | a :: as, h => by
    show PyData.showableAll (.int (a : Int) :: (cI as).map .int) = true
    rw [PyData.showableAll, showable_ints as fun x hx => h x (List.mem_cons_of_mem _ hx), PyData.showable]
    have h1 := h a List.mem_cons_self
    have : (a : Int).natAbs.log2 < 1920 := by
      rw [Int.natAbs_natCast]
      by_cases h0 : a = 0
      · subst h0
        decide
      · exact Nat.lt_of_lt_of_le (Nat.log2_lt h0 |>.mpr (show a < 2 ^ 10 by omega)) (by decide)
    rw [decide_eq_true this]
    rfl
theorem showable_rows : ∀ a : List (List Nat), (∀ k ∈ a, SmR k) → PyData.showableAll (a.map dL) = true
  | [], _ => rfl
  | a :: as, h => by
    rw [List.map_cons, PyData.showableAll, showable_rows as fun x hx => h x (List.mem_cons_of_mem _ hx), dL, PyData.showable, showable_ints a (h a List.mem_cons_self).2]
    rfl
theorem nodict_ints : ∀ a : List Nat, PyData.hasDictAll ((cI a).map .int) = false
  | [] => rfl
  | a :: as => by
    show PyData.hasDictAll (.int (a : Int) :: (cI as).map .int) = false
    rw [PyData.hasDictAll, nodict_ints as, PyData.hasDict]
    rfl
theorem nodict_rows : ∀ a : List (List Nat), PyData.hasDictAll (a.map dL) = false
  | [] => rfl
  | a :: as => by
    rw [List.map_cons, PyData.hasDictAll, nodict_rows as, dL, PyData.hasDict, nodict_ints]
    rfl
/-- what may be shown -/
structure Shows (d : PyData) : Prop where
  sh : d.showable = true
  nd : d.hasDict = false
  dp : d.depth ≤ 50
  sz : d.shown.length ≤ sizeLine
theorem shows_rows {ks : List (List Nat)} (h : SmRs ks) : Shows (dLL ks) :=
  ⟨by rw [dLL, PyData.showable]; exact showable_rows ks h.2, by rw [dLL, PyData.hasDict]; exact nodict_rows ks, by have := depth_rows ks; rw [dLL, PyData.depth]; omega, Nat.le_trans (shown_rows h) (by decide)⟩
/-- a store's parts, a world -/
def dW (n : Nat) (D S : List (List Nat)) : List PyData := [.int (n : Int), dLL D, dLL S]
theorem shown_dW {n : Nat} {D S : List (List Nat)} (hn : n < 1000) (hD : SmRs D) (hS : SmRs S) : piled ((dW n D S).map PyData.shown) ≤ 60000 := by
  have := piled_le (c := 18300) (ts := (dW n D S).map PyData.shown) fun t ht => by
    obtain ⟨d, hd, rfl⟩ := List.mem_map.mp ht
    rcases List.mem_cons.mp hd with e | hd
    · subst e
      exact Nat.le_trans (shown_num hn) (by decide)
    · rcases List.mem_cons.mp hd with e | hd
      · subst e
        exact shown_rows hD
      · have e := List.mem_singleton.mp hd
        subst e
        exact shown_rows hS
  have e : ((dW n D S).map PyData.shown).length = 3 := rfl
  rw [e] at this
  exact Nat.le_trans this (by decide)
theorem showable_dW {n : Nat} {D S : List (List Nat)} (hn : n < 1000) (hD : SmRs D) (hS : SmRs S) : PyData.showableAll (dW n D S) = true := by
  have h1 : PyData.showableAll ((cI [n]).map .int) = true := showable_ints [n] fun x hx => by
    have := List.mem_singleton.mp hx
    omega
  have h2 : PyData.showable (.int (n : Int)) = true := by
    have e : PyData.showableAll [.int (n : Int)] = true := h1
    rw [PyData.showableAll, PyData.showableAll, Bool.and_true] at e
    exact e
  unfold dW
  rw [PyData.showableAll, PyData.showableAll, PyData.showableAll, PyData.showableAll, h2, (shows_rows hD).sh, (shows_rows hS).sh]
  rfl
theorem nodict_dW (n : Nat) {D S : List (List Nat)} (hD : SmRs D) (hS : SmRs S) : PyData.hasDictAll (dW n D S) = false := by
  unfold dW
  rw [PyData.hasDictAll, PyData.hasDictAll, PyData.hasDictAll, PyData.hasDictAll, (shows_rows hD).nd, (shows_rows hS).nd, PyData.hasDict]
  rfl
theorem depth_dW (n : Nat) (D S : List (List Nat)) : PyData.depthAll (dW n D S) ≤ 2 := by
  have h1 := depth_rows D
  have h2 := depth_rows S
  unfold dW
  rw [PyData.depthAll, PyData.depthAll, PyData.depthAll, PyData.depthAll, dLL, dLL, PyData.depth, PyData.depth, PyData.depth]
  omega
theorem shows_list {n : Nat} {D S : List (List Nat)} (hn : n < 1000) (hD : SmRs D) (hS : SmRs S) : Shows (.list (dW n D S)) := by
  refine ⟨by rw [PyData.showable]; exact showable_dW hn hD hS, by rw [PyData.hasDict]; exact nodict_dW n hD hS, by have := depth_dW n D S; rw [PyData.depth]; omega, ?_⟩
  rw [PyData.shown, shownAll_map]
  have := shown_dW hn hD hS
  exact Nat.le_trans (listText_le _) (Nat.le_trans (Nat.add_le_add_right this 2) (by decide))
theorem shows_tup {n : Nat} {D S : List (List Nat)} (hn : n < 1000) (hD : SmRs D) (hS : SmRs S) : Shows (.tuple (dW n D S)) := by
  refine ⟨by rw [PyData.showable]; exact showable_dW hn hD hS, by rw [PyData.hasDict]; exact nodict_dW n hD hS, by have := depth_dW n D S; rw [PyData.depth]; omega, ?_⟩
  rw [PyData.shown, shownAll_map]
  have := shown_dW hn hD hS
  exact Nat.le_trans (fmt_text _) (Nat.le_trans (Nat.add_le_add_right this 2) (by decide))
end TA
namespace TA
open PySem PySem.Spec PyProof.Rows L2
/-! ### the text by places -/
def topS (i : Nat) : Stmt := PySem.Challenge.pw_twoabove_k11_whole_stores_made_of_stores.main.body.getD i (.Pass ⟨0, 0, 0, 0⟩)
abbrev s_is_integer : Stmt := topS 13
theorem sc_is_integer : FnScope ["value"] ["value"] (defScope s_is_integer) := ⟨rfl, rfl, rfl, by decide +kernel, rfl, by decide +kernel, by decide +kernel⟩
abbrev s_is_count : Stmt := topS 14
theorem sc_is_count : FnScope ["value"] ["value"] (defScope s_is_count) := ⟨rfl, rfl, rfl, by decide +kernel, rfl, by decide +kernel, by decide +kernel⟩
abbrev s_is_list : Stmt := topS 15
theorem sc_is_list : FnScope ["value"] ["value"] (defScope s_is_list) := ⟨rfl, rfl, rfl, by decide +kernel, rfl, by decide +kernel, by decide +kernel⟩
abbrev s_want_at_most : Stmt := topS 16
theorem sc_want_at_most : FnScope ["what", "limit", "number"] ["what", "limit", "number"] (defScope s_want_at_most) := ⟨rfl, rfl, rfl, by decide +kernel, rfl, by decide +kernel, by decide +kernel⟩
abbrev s_are_shelves : Stmt := topS 20
theorem sc_are_shelves : FnScope ["value"] ["value"] (defScope s_are_shelves) := ⟨rfl, rfl, rfl, by decide +kernel, rfl, by decide +kernel, by decide +kernel⟩
abbrev s_want_shelves : Stmt := topS 21
theorem sc_want_shelves : FnScope ["value"] ["value"] (defScope s_want_shelves) := ⟨rfl, rfl, rfl, by decide +kernel, rfl, by decide +kernel, by decide +kernel⟩
abbrev s_is_lot_of : Stmt := topS 22
theorem sc_is_lot_of : FnScope ["shelves", "value", "shelf"] ["shelves", "value"] (defScope s_is_lot_of) := ⟨rfl, rfl, rfl, by decide +kernel, rfl, by decide +kernel, by decide +kernel⟩
abbrev s_want_lot : Stmt := topS 23
theorem sc_want_lot : FnScope ["shelves", "value"] ["shelves", "value"] (defScope s_want_lot) := ⟨rfl, rfl, rfl, by decide +kernel, rfl, by decide +kernel, by decide +kernel⟩
abbrev s_bits_of : Stmt := topS 24
theorem sc_bits_of : FnScope ["lot", "found", "shelf"] ["lot"] (defScope s_bits_of) := ⟨rfl, rfl, rfl, by decide +kernel, rfl, by decide +kernel, by decide +kernel⟩
abbrev s_spots_of : Stmt := topS 25
theorem sc_spots_of : FnScope ["bits", "shelf"] ["bits"] (defScope s_spots_of) := ⟨rfl, rfl, rfl, by decide +kernel, rfl, by decide +kernel, by decide +kernel⟩
abbrev s_told_lot : Stmt := topS 26
theorem sc_told_lot : FnScope ["bits"] ["bits"] (defScope s_told_lot) := ⟨rfl, rfl, rfl, by decide +kernel, rfl, by decide +kernel, by decide +kernel⟩
abbrev s_two_lots : Stmt := topS 27
theorem sc_two_lots : FnScope ["shelves", "lot", "other", "near"] ["shelves", "lot", "other"] (defScope s_two_lots) := ⟨rfl, rfl, rfl, by decide +kernel, rfl, by decide +kernel, by decide +kernel⟩
abbrev s_joined : Stmt := topS 28
theorem sc_joined : FnScope ["shelves", "lot", "other", "near", "far"] ["shelves", "lot", "other"] (defScope s_joined) := ⟨rfl, rfl, rfl, by decide +kernel, rfl, by decide +kernel, by decide +kernel⟩
abbrev s_without : Stmt := topS 29
theorem sc_without : FnScope ["shelves", "lot", "other", "near", "far"] ["shelves", "lot", "other"] (defScope s_without) := ⟨rfl, rfl, rfl, by decide +kernel, rfl, by decide +kernel, by decide +kernel⟩
abbrev s_common : Stmt := topS 30
theorem sc_common : FnScope ["shelves", "lot", "other", "near", "far"] ["shelves", "lot", "other"] (defScope s_common) := ⟨rfl, rfl, rfl, by decide +kernel, rfl, by decide +kernel, by decide +kernel⟩
abbrev s_is_within : Stmt := topS 31
theorem sc_is_within : FnScope ["shelves", "lot", "other", "near", "far"] ["shelves", "lot", "other"] (defScope s_is_within) := ⟨rfl, rfl, rfl, by decide +kernel, rfl, by decide +kernel, by decide +kernel⟩
abbrev s_is_kind : Stmt := topS 34
theorem sc_is_kind : FnScope ["shelves", "value"] ["shelves", "value"] (defScope s_is_kind) := ⟨rfl, rfl, rfl, by decide +kernel, rfl, by decide +kernel, by decide +kernel⟩
abbrev s_are_kinds : Stmt := topS 35
theorem sc_are_kinds : FnScope ["shelves", "value", "one"] ["shelves", "value"] (defScope s_are_kinds) := ⟨rfl, rfl, rfl, by decide +kernel, rfl, by decide +kernel, by decide +kernel⟩
abbrev s_plain_kinds : Stmt := topS 36
theorem sc_plain_kinds : FnScope ["kinds", "bits", "lot"] ["kinds"] (defScope s_plain_kinds) := ⟨rfl, rfl, rfl, by decide +kernel, rfl, by decide +kernel, by decide +kernel⟩
abbrev s_Stinit : Stmt := inClass (topS 37) 0
theorem sc_Stinit : FnScope ["self", "shelves", "deliveries", "sales", "kind"] ["self", "shelves", "deliveries", "sales"] (defScope s_Stinit) := ⟨rfl, rfl, rfl, by decide +kernel, rfl, by decide +kernel, by decide +kernel⟩
abbrev s_Stshelves : Stmt := inClass (topS 37) 1
theorem sc_Stshelves : FnScope ["self"] ["self"] (defScope s_Stshelves) := ⟨rfl, rfl, rfl, by decide +kernel, rfl, by decide +kernel, by decide +kernel⟩
abbrev s_Stdeliveries : Stmt := inClass (topS 37) 2
theorem sc_Stdeliveries : FnScope ["self", "kind"] ["self"] (defScope s_Stdeliveries) := ⟨rfl, rfl, rfl, by decide +kernel, rfl, by decide +kernel, by decide +kernel⟩
abbrev s_Stsales : Stmt := inClass (topS 37) 3
theorem sc_Stsales : FnScope ["self", "kind"] ["self"] (defScope s_Stsales) := ⟨rfl, rfl, rfl, by decide +kernel, rfl, by decide +kernel, by decide +kernel⟩
abbrev s_Steq : Stmt := inClass (topS 37) 4
theorem sc_Steq : FnScope ["self", "other"] ["self", "other"] (defScope s_Steq) := ⟨rfl, rfl, rfl, by decide +kernel, rfl, by decide +kernel, by decide +kernel⟩
abbrev s_made : Stmt := topS 38
theorem sc_made : FnScope ["shelves", "deliveries", "sales", "near", "far", "kind"] ["shelves", "deliveries", "sales"] (defScope s_made) := ⟨rfl, rfl, rfl, by decide +kernel, rfl, by decide +kernel, by decide +kernel⟩
abbrev s_want_store : Stmt := topS 39
theorem sc_want_store : FnScope ["value"] ["value"] (defScope s_want_store) := ⟨rfl, rfl, rfl, by decide +kernel, rfl, by decide +kernel, by decide +kernel⟩
abbrev s_want_kind : Stmt := topS 40
theorem sc_want_kind : FnScope ["store", "value"] ["store", "value"] (defScope s_want_kind) := ⟨rfl, rfl, rfl, by decide +kernel, rfl, by decide +kernel, by decide +kernel⟩
abbrev s_want_delivery : Stmt := topS 41
theorem sc_want_delivery : FnScope ["store", "value"] ["store", "value"] (defScope s_want_delivery) := ⟨rfl, rfl, rfl, by decide +kernel, rfl, by decide +kernel, by decide +kernel⟩
abbrev s_want_sale : Stmt := topS 42
theorem sc_want_sale : FnScope ["store", "value"] ["store", "value"] (defScope s_want_sale) := ⟨rfl, rfl, rfl, by decide +kernel, rfl, by decide +kernel, by decide +kernel⟩
abbrev s_want_order : Stmt := topS 43
theorem sc_want_order : FnScope ["store", "value"] ["store", "value"] (defScope s_want_order) := ⟨rfl, rfl, rfl, by decide +kernel, rfl, by decide +kernel, by decide +kernel⟩
abbrev s_with_delivery : Stmt := topS 44
theorem sc_with_delivery : FnScope ["store", "kind"] ["store", "kind"] (defScope s_with_delivery) := ⟨rfl, rfl, rfl, by decide +kernel, rfl, by decide +kernel, by decide +kernel⟩
abbrev s_with_sale : Stmt := topS 45
theorem sc_with_sale : FnScope ["store", "kind"] ["store", "kind"] (defScope s_with_sale) := ⟨rfl, rfl, rfl, by decide +kernel, rfl, by decide +kernel, by decide +kernel⟩
abbrev s_without_delivery : Stmt := topS 46
theorem sc_without_delivery : FnScope ["store", "position", "left"] ["store", "position"] (defScope s_without_delivery) := ⟨rfl, rfl, rfl, by decide +kernel, rfl, by decide +kernel, by decide +kernel⟩
abbrev s_without_sale : Stmt := topS 47
theorem sc_without_sale : FnScope ["store", "position"] ["store", "position"] (defScope s_without_sale) := ⟨rfl, rfl, rfl, by decide +kernel, rfl, by decide +kernel, by decide +kernel⟩
abbrev s_moved : Stmt := topS 48
theorem sc_moved : FnScope ["kinds", "order", "kind", "shelf"] ["kinds", "order"] (defScope s_moved) := ⟨rfl, rfl, rfl, by decide +kernel, rfl, by decide +kernel, by decide +kernel⟩
abbrev s_renamed : Stmt := topS 49
theorem sc_renamed : FnScope ["store", "order", "told"] ["store", "order"] (defScope s_renamed) := ⟨rfl, rfl, rfl, by decide +kernel, rfl, by decide +kernel, by decide +kernel⟩
abbrev s_beside : Stmt := topS 50
theorem sc_beside : FnScope ["store", "other", "shift", "deliveries", "sales", "kind"] ["store", "other"] (defScope s_beside) := ⟨rfl, rfl, rfl, by decide +kernel, rfl, by decide +kernel, by decide +kernel⟩
abbrev s_named : Stmt := topS 51
theorem sc_named : FnScope ["store", "found", "kind"] ["store"] (defScope s_named) := ⟨rfl, rfl, rfl, by decide +kernel, rfl, by decide +kernel, by decide +kernel⟩
abbrev s_lw_pot : Stmt := topS 53
theorem sc_lw_pot : FnScope ["_law_script", "_law_k", "_law_cell"] ["_law_script", "_law_k"] (defScope s_lw_pot) := ⟨rfl, rfl, rfl, by decide +kernel, rfl, by decide +kernel, by decide +kernel⟩
abbrev s_lw_draw : Stmt := topS 54
theorem sc_lw_draw : FnScope ["_law_pot_here", "_law_many", "_law_digit"] ["_law_pot_here", "_law_many"] (defScope s_lw_draw) := ⟨rfl, rfl, rfl, by decide +kernel, rfl, by decide +kernel, by decide +kernel⟩
abbrev s_lw_lot : Stmt := topS 55
theorem sc_lw_lot : FnScope ["_law_pot_here", "_law_shelves", "_law_least", "_law_left", "_law_found", "_law_turn"] ["_law_pot_here", "_law_shelves", "_law_least"] (defScope s_lw_lot) := ⟨rfl, rfl, rfl, by decide +kernel, rfl, by decide +kernel, by decide +kernel⟩
abbrev s_lw_kinds : Stmt := topS 56
theorem sc_lw_kinds : FnScope ["_law_pot_here", "_law_shelves", "_law_most", "_law_found", "_law_turn"] ["_law_pot_here", "_law_shelves", "_law_most"] (defScope s_lw_kinds) := ⟨rfl, rfl, rfl, by decide +kernel, rfl, by decide +kernel, by decide +kernel⟩
abbrev s_lw_told : Stmt := topS 57
theorem sc_lw_told : FnScope ["_law_kinds_here", "_law_found", "_law_kind"] ["_law_kinds_here"] (defScope s_lw_told) := ⟨rfl, rfl, rfl, by decide +kernel, rfl, by decide +kernel, by decide +kernel⟩
abbrev s_lw_lots_right : Stmt := topS 58
theorem sc_lw_lots_right : FnScope ["_law_pot_here", "_law_shelves", "_law_one", "_law_other", "_law_shown", "_law_near", "_law_far", "_law_told_here", "_law_due", "_law_shelf"] ["_law_pot_here"] (defScope s_lw_lots_right) := ⟨rfl, rfl, rfl, by decide +kernel, rfl, by decide +kernel, by decide +kernel⟩
abbrev s_lw_moved : Stmt := topS 59
theorem sc_lw_moved : FnScope ["_law_kinds_here", "_law_order_here", "_law_kind", "_law_shelf"] ["_law_kinds_here", "_law_order_here"] (defScope s_lw_moved) := ⟨rfl, rfl, rfl, by decide +kernel, rfl, by decide +kernel, by decide +kernel⟩
abbrev s_lw_is : Stmt := topS 60
theorem sc_lw_is : FnScope ["_law_store_here", "_law_shelves", "_law_deliveries", "_law_sales"] ["_law_store_here", "_law_shelves", "_law_deliveries", "_law_sales"] (defScope s_lw_is) := ⟨rfl, rfl, rfl, by decide +kernel, rfl, by decide +kernel, by decide +kernel⟩
abbrev s_lw_store : Stmt := topS 61
theorem sc_lw_store : FnScope ["_law_pot_here", "_law_most", "_law_kinds_here", "_law_shelves", "_law_deliveries", "_law_sales"] ["_law_pot_here", "_law_most", "_law_kinds_here"] (defScope s_lw_store) := ⟨rfl, rfl, rfl, by decide +kernel, rfl, by decide +kernel, by decide +kernel⟩
abbrev s_lw_made_right : Stmt := topS 62
theorem sc_lw_made_right : FnScope ["_law_pot_here", "_law_one", "_law_world", "_law_shelves", "_law_deliveries", "_law_sales", "_law_kind", "_law_told_here", "_law_more", "_law_position", "_law_have", "_law_at"] ["_law_pot_here", "_law_one", "_law_world"] (defScope s_lw_made_right) := ⟨rfl, rfl, rfl, by decide +kernel, rfl, by decide +kernel, by decide +kernel⟩
abbrev s_lw_order : Stmt := topS 63
theorem sc_lw_order : FnScope ["_law_pot_here", "_law_shelves", "_law_left", "_law_found"] ["_law_pot_here", "_law_shelves"] (defScope s_lw_order) := ⟨rfl, rfl, rfl, by decide +kernel, rfl, by decide +kernel, by decide +kernel⟩
abbrev s_lw_renamed_right : Stmt := topS 64
theorem sc_lw_renamed_right : FnScope ["_law_pot_here", "_law_one", "_law_world", "_law_shelves", "_law_deliveries", "_law_sales", "_law_order_here", "_law_late", "_law_back", "_law_kind", "_law_shelf"] ["_law_pot_here", "_law_one", "_law_world"] (defScope s_lw_renamed_right) := ⟨rfl, rfl, rfl, by decide +kernel, rfl, by decide +kernel, by decide +kernel⟩
abbrev s_lw_beside_right : Stmt := topS 65
theorem sc_lw_beside_right : FnScope ["_law_one", "_law_world", "_law_other", "_law_far", "_law_shelves", "_law_deliveries", "_law_sales", "_law_both", "_law_raised", "_law_turned", "_law_kinds_here", "_law_kind", "_law_shelf"] ["_law_one", "_law_world", "_law_other", "_law_far"] (defScope s_lw_beside_right) := ⟨rfl, rfl, rfl, by decide +kernel, rfl, by decide +kernel, by decide +kernel⟩
abbrev s_law : Stmt := topS 66
theorem sc_law : FnScope ["_law_script", "_law_pot_here", "_law_world", "_law_far", "_law_shown", "_law_one", "_law_other", "_law_kind", "_law_told_here", "_law_turned"] ["_law_script"] (defScope s_law) := ⟨rfl, rfl, rfl, by decide +kernel, rfl, by decide +kernel, by decide +kernel⟩
end TA
namespace TA
open PySem PySem.Spec PyProof.Rows L2
/-- a def of the text: where it stands, how it is bound -/
structure Df (K : PySem.W.Frag) (mg : Str → Option Value) (x : Str) (st : Stmt) (ps : List Str) where
  f : Addr
  fd : FuncData
  F : Fun K x x st f fd
  g : mg x = some (.ref f)
  b : Binds K fd ps []
structure Tx (K : PySem.W.Frag) (mg : Str → Option Value) where
  is_integer : Df K mg "is_integer" s_is_integer ["value"]
  is_count : Df K mg "is_count" s_is_count ["value"]
  is_list : Df K mg "is_list" s_is_list ["value"]
  want_at_most : Df K mg "want_at_most" s_want_at_most ["what", "limit", "number"]
  are_shelves : Df K mg "are_shelves" s_are_shelves ["value"]
  want_shelves : Df K mg "want_shelves" s_want_shelves ["value"]
  is_lot_of : Df K mg "is_lot_of" s_is_lot_of ["shelves", "value"]
  want_lot : Df K mg "want_lot" s_want_lot ["shelves", "value"]
  bits_of : Df K mg "bits_of" s_bits_of ["lot"]
  spots_of : Df K mg "spots_of" s_spots_of ["bits"]
  told_lot : Df K mg "told_lot" s_told_lot ["bits"]
  two_lots : Df K mg "two_lots" s_two_lots ["shelves", "lot", "other"]
  joined : Df K mg "joined" s_joined ["shelves", "lot", "other"]
  without : Df K mg "without" s_without ["shelves", "lot", "other"]
  common : Df K mg "common" s_common ["shelves", "lot", "other"]
  is_within : Df K mg "is_within" s_is_within ["shelves", "lot", "other"]
  is_kind : Df K mg "is_kind" s_is_kind ["shelves", "value"]
  are_kinds : Df K mg "are_kinds" s_are_kinds ["shelves", "value"]
  plain_kinds : Df K mg "plain_kinds" s_plain_kinds ["kinds"]
  made : Df K mg "made" s_made ["shelves", "deliveries", "sales"]
  want_store : Df K mg "want_store" s_want_store ["value"]
  want_kind : Df K mg "want_kind" s_want_kind ["store", "value"]
  want_delivery : Df K mg "want_delivery" s_want_delivery ["store", "value"]
  want_sale : Df K mg "want_sale" s_want_sale ["store", "value"]
  want_order : Df K mg "want_order" s_want_order ["store", "value"]
  with_delivery : Df K mg "with_delivery" s_with_delivery ["store", "kind"]
  with_sale : Df K mg "with_sale" s_with_sale ["store", "kind"]
  without_delivery : Df K mg "without_delivery" s_without_delivery ["store", "position"]
  without_sale : Df K mg "without_sale" s_without_sale ["store", "position"]
  moved : Df K mg "moved" s_moved ["kinds", "order"]
  renamed : Df K mg "renamed" s_renamed ["store", "order"]
  beside : Df K mg "beside" s_beside ["store", "other"]
  named : Df K mg "named" s_named ["store"]
  lw_pot : Df K mg "_law_pot" s_lw_pot ["_law_script", "_law_k"]
  lw_draw : Df K mg "_law_draw" s_lw_draw ["_law_pot_here", "_law_many"]
  lw_lot : Df K mg "_law_lot" s_lw_lot ["_law_pot_here", "_law_shelves", "_law_least"]
  lw_kinds : Df K mg "_law_kinds" s_lw_kinds ["_law_pot_here", "_law_shelves", "_law_most"]
  lw_told : Df K mg "_law_told" s_lw_told ["_law_kinds_here"]
  lw_lots_right : Df K mg "_law_lots_right" s_lw_lots_right ["_law_pot_here"]
  lw_moved : Df K mg "_law_moved" s_lw_moved ["_law_kinds_here", "_law_order_here"]
  lw_is : Df K mg "_law_is" s_lw_is ["_law_store_here", "_law_shelves", "_law_deliveries", "_law_sales"]
  lw_store : Df K mg "_law_store" s_lw_store ["_law_pot_here", "_law_most", "_law_kinds_here"]
  lw_made_right : Df K mg "_law_made_right" s_lw_made_right ["_law_pot_here", "_law_one", "_law_world"]
  lw_order : Df K mg "_law_order" s_lw_order ["_law_pot_here", "_law_shelves"]
  lw_renamed_right : Df K mg "_law_renamed_right" s_lw_renamed_right ["_law_pot_here", "_law_one", "_law_world"]
  lw_beside_right : Df K mg "_law_beside_right" s_lw_beside_right ["_law_one", "_law_world", "_law_other", "_law_far"]
  law : Df K mg "law" s_law ["_law_script"]
  b_isinstance : mg "isinstance" = none
  b_int : mg "int" = none
  b_bool : mg "bool" = none
  b_list : mg "list" = none
  b_tuple : mg "tuple" = none
  b_len : mg "len" = none
  b_sorted : mg "sorted" = none
  b_set : mg "set" = none
  b_all : mg "all" = none
  b_range : mg "range" = none
  b_max : mg "max" = none
  b_abs : mg "abs" = none
  b_divmod : mg "divmod" = none
  b_sum : mg "sum" = none
  b_repr : mg "repr" = none
  mostS : ∃ t, mg "MOST_SHELVES" = some (.int 8 t)
  leastS : ∃ t, mg "LEAST_SHELVES" = some (.int 2 t)
  mostK : ∃ t, mg "MOST_KINDS" = some (.int 8 t)
  C : Addr
  gC : mg "Store" = some (.ref C)
  cl : Cls K C
  n1 : NoAttr K C "own_shelves"
  n2 : NoAttr K C "own_deliveries"
  n3 : NoAttr K C "own_sales"
  n4 : NoAttr K C "own_kept"
  fI : Addr
  fdI : FuncData
  FI : Fun K "__init__" "Store.__init__" s_Stinit fI fdI
  bI : Binds K fdI ["self", "shelves", "deliveries", "sales"] []
  MI : Mk K C fI
  fD : Addr
  fdD : FuncData
  FD : Fun K "deliveries" "Store.deliveries" s_Stdeliveries fD fdD
  bD : Binds K fdD ["self"] []
  MD : Meth K C "deliveries" fD
  fS : Addr
  fdS : FuncData
  FS : Fun K "sales" "Store.sales" s_Stsales fS fdS
  bS : Binds K fdS ["self"] []
  MS : Meth K C "sales" fS
  fE : Addr
  fdE : FuncData
  FE : Fun K "__eq__" "Store.__eq__" s_Steq fE fdE
  bE : Binds K fdE ["self", "other"] []
  aE : PySem.W.findIn K (.ref C) "__eq__" = some (some (.ref fE))
  iE : PySem.W.isFn K (.ref fE) = true
  pP : Addr
  fP : Addr
  fdP : FuncData
  FP : Fun K "shelves" "Store.shelves" s_Stshelves fP fdP
  bP : Binds K fdP ["self"] []
  PP : PropOf K C "shelves" pP fP
  hc1 : PySem.W.findIn K (.ref C) "__class__" = some (some (.builtin "object.__class__"))
  hc2 : PySem.W.specialIn K (.builtin "object.__class__") "__get__" = some (some (.builtin "getset_descriptor.__get__"))
  hc3 : PySem.W.takesIn K (.builtin "object.__class__") = some true
  hc4 : PySem.W.mroIn K C (.type "object") = some true
  st : PySem.W.subIn K (.type "tuple") (.ref C) = some false
  it : PySem.W.kitOne K (.type "tuple") (.ref C) = some false
  io : PySem.W.kitOne K (.ref C) (.ref C) = some true
/-! ### calls with keywords alone -/
section
variable {X : Cx} {CX : CXT} {k : Nat} {f : Addr} {fd : FuncData} {ps ks : List Str} {sp : Sp} {E : XK} {x : Str} {p pos : Pos} {kws : List Keyword} {tk : TA} {g : List Value → List Value → List Value} {gV : List V → List V → List V}
theorem pe_callN0 (F : FnOk X.prog X.w X.K X.mg X.base CX k f fd ps sp) (hr : Room k X.A) (hg : Gl X x) (hm : X.mg x = some (.ref f)) (hk : PySem.W.keepIn X.K (.ref f) = true) (hb : KBn X.K fd ps 0 ks g gV) (hx : Passes CX X E) (hkw : PK X kws tk)
    (hall : (backToKw pos (keywordEach kws X.env)).all (·.1.isSome) = true := by rfl) (hks : (backToKw pos (keywordEach kws X.env)).filterMap (·.1) = ks := by rfl) (hdb : (x == ("__debug__" : Str)) = false := by decide)
    (hpl : ((backTo pos (starEach [] X.env)).any (·.1) || (backToKw pos (keywordEach kws X.env)).any (·.1.isNone)) = false := by rfl) :
    PE X (.Call (.Name x p) [] kws pos) (tCallN 0 ks.length sp gV E tNil tk) := by
  refine ⟨fun pins s σ H Q I h => wpAny_Call_Name_kw (ld_glob I hg hm ?_ hdb)⟩
  refine PySem.W.callWith_KW0 (h₀ := X.base) I.ok.mod.kin hk hall (thn (hkw.run pos pins s σ H _ I h) fun ws s2 ⟨zs, H2, I2, rz, l1, l2, q2⟩ => ⟨I2.kIn, ?_⟩) hpl
  rw [hks]
  exact run_fnN (us := []) (vs := []) F hr hb hx I2 .nil rz rfl l2 q2
end
theorem kbn_of {K : PySem.W.Frag} {x qual : Str} {st : Stmt} {f : Addr} {fd : FuncData} {ps : List Str} (F : Fun K x qual st f fd) (n : Nat) (ks : List Str) (g : List Value → List Value → List Value) (gV : List V → List V → List V)
    (hrel : ∀ {vs zs : List V} {us ws : List Value}, Vals vs us → Vals zs ws → Vals (gV vs zs) (g us ws))
    (h : ∀ (kV doc pm : Value) (an : Option Addr) (cdv ct : Value) (us ws : List Value), us.length = n → ws.length = ks.length → bindArgs (PySem.W.fnOf x qual (defArgs st) (defBody st) (defScope st) .none kV doc pm an cdv ct) ⟨us, ks.zip ws⟩ = pure (ps.zip (g us ws))) : KBn K fd ps n ks g gV := by
  obtain ⟨oc, od, kV, doc, pm, an, cdv, ct, osl, rfl, lk, hcd⟩ := F.ex
  exact ⟨fun s us ws _ l1 l2 => .of_eq (h kV doc pm an cdv ct us ws l1 l2), hrel⟩
/-- permutations of the arguments -/
def g120 {α : Type} : List α → List α → List α := fun us ws => match us, ws with
  | [], [a, b, c] => [b, c, a]
  | _, _ => []
def g021 {α : Type} : List α → List α → List α := fun us ws => match us, ws with
  | [a], [b, c] => [a, c, b]
  | _, _ => []
def g102 {α : Type} : List α → List α → List α := fun us ws => match us, ws with
  | [], [a, b, c] => [b, a, c]
  | _, _ => []
def g10 {α : Type} : List α → List α → List α := fun us ws => match us, ws with
  | [], [a, b] => [b, a]
  | _, _ => []
def g321 {α : Type} : List α → List α → List α := fun us ws => match us, ws with
  | [s], [a, b, c] => [s, c, b, a]
  | _, _ => []
theorem rel120 {vs zs : List V} {us ws : List Value} (r : Vals vs us) (q : Vals zs ws) : Vals (g120 vs zs) (g120 us ws) := by
  cases r with
  | cons _ _ => exact .nil
  | nil =>
    cases q with
    | nil => exact .nil
    | cons a q => cases q with
      | nil => exact .nil
      | cons b q => cases q with
        | nil => exact .nil
        | cons c q => cases q with
          | nil => exact .cons b (.cons c (.cons a .nil))
          | cons _ _ => exact .nil
theorem rel102 {vs zs : List V} {us ws : List Value} (r : Vals vs us) (q : Vals zs ws) : Vals (g102 vs zs) (g102 us ws) := by
  cases r with
  | cons _ _ => exact .nil
  | nil =>
    cases q with
    | nil => exact .nil
    | cons a q => cases q with
      | nil => exact .nil
      | cons b q => cases q with
        | nil => exact .nil
        | cons c q => cases q with
          | nil => exact .cons b (.cons a (.cons c .nil))
          | cons _ _ => exact .nil
theorem rel10 {vs zs : List V} {us ws : List Value} (r : Vals vs us) (q : Vals zs ws) : Vals (g10 vs zs) (g10 us ws) := by
  cases r with
  | cons _ _ => exact .nil
  | nil =>
    cases q with
    | nil => exact .nil
    | cons a q => cases q with
      | nil => exact .nil
      | cons b q => cases q with
        | nil => exact .cons b (.cons a .nil)
        | cons _ _ => exact .nil
theorem rel021 {vs zs : List V} {us ws : List Value} (r : Vals vs us) (q : Vals zs ws) : Vals (g021 vs zs) (g021 us ws) := by
  cases r with
  | nil => exact .nil
  | cons a r => cases r with
    | cons _ _ => exact .nil
    | nil => cases q with
      | nil => exact .nil
      | cons b q => cases q with
        | nil => exact .nil
        | cons c q => cases q with
          | nil => exact .cons a (.cons c (.cons b .nil))
          | cons _ _ => exact .nil
theorem rel321 {vs zs : List V} {us ws : List Value} (r : Vals vs us) (q : Vals zs ws) : Vals (g321 vs zs) (g321 us ws) := by
  cases r with
  | nil => exact .nil
  | cons s r => cases r with
    | cons _ _ => exact .nil
    | nil => cases q with
      | nil => exact .nil
      | cons a q => cases q with
        | nil => exact .nil
        | cons b q => cases q with
          | nil => exact .nil
          | cons c q => cases q with
            | nil => exact .cons s (.cons c (.cons b (.cons a .nil)))
            | cons _ _ => exact .nil
section
variable {K : PySem.W.Frag} {mg : Str → Option Value} (T : Tx K mg)
theorem Tx.kb_common : KBn K T.common.fd ["shelves", "lot", "other"] 0 ["other", "shelves", "lot"] g120 g120 :=
  kbn_of T.common.F 0 _ _ _ rel120 fun _ _ _ _ _ _ us ws h1 h2 => match us, ws, h1, h2 with | [], [_, _, _], _, _ => rfl
theorem Tx.kb_without : KBn K T.without.fd ["shelves", "lot", "other"] 1 ["other", "lot"] g021 g021 :=
  kbn_of T.without.F 1 _ _ _ rel021 fun _ _ _ _ _ _ us ws h1 h2 => match us, ws, h1, h2 with | [_], [_, _], _, _ => rfl
theorem Tx.kb_is_within : KBn K T.is_within.fd ["shelves", "lot", "other"] 0 ["lot", "shelves", "other"] g102 g102 :=
  kbn_of T.is_within.F 0 _ _ _ rel102 fun _ _ _ _ _ _ us ws h1 h2 => match us, ws, h1, h2 with | [], [_, _, _], _, _ => rfl
theorem Tx.kb_with_sale : KBn K T.with_sale.fd ["store", "kind"] 0 ["kind", "store"] g10 g10 :=
  kbn_of T.with_sale.F 0 _ _ _ rel10 fun _ _ _ _ _ _ us ws h1 h2 => match us, ws, h1, h2 with | [], [_, _], _, _ => rfl
theorem Tx.kb_without_sale : KBn K T.without_sale.fd ["store", "position"] 0 ["position", "store"] g10 g10 :=
  kbn_of T.without_sale.F 0 _ _ _ rel10 fun _ _ _ _ _ _ us ws h1 h2 => match us, ws, h1, h2 with | [], [_, _], _, _ => rfl
theorem Tx.kb_renamed : KBn K T.renamed.fd ["store", "order"] 0 ["order", "store"] g10 g10 :=
  kbn_of T.renamed.F 0 _ _ _ rel10 fun _ _ _ _ _ _ us ws h1 h2 => match us, ws, h1, h2 with | [], [_, _], _, _ => rfl
theorem Tx.kb_beside : KBn K T.beside.fd ["store", "other"] 0 ["other", "store"] g10 g10 :=
  kbn_of T.beside.F 0 _ _ _ rel10 fun _ _ _ _ _ _ us ws h1 h2 => match us, ws, h1, h2 with | [], [_, _], _, _ => rfl
theorem Tx.kb_Store : KBn K T.fdI ["self", "shelves", "deliveries", "sales"] 1 ["sales", "deliveries", "shelves"] g321 g321 :=
  kbn_of T.FI 1 _ _ _ rel321 fun _ _ _ _ _ _ us ws h1 h2 => match us, ws, h1, h2 with | [_], [_, _, _], _, _ => rfl
end
end TA
namespace TA
open PySem PySem.Spec PyProof.Rows L2
theorem q_bl {Q : VK} {H : Hp} {c b : Bool} (e : c = b) (q : Q (.bl b) H) : Q (.bl c) H := by
  rw [e]
  exact q
theorem q_int {Q : VK} {H : Hp} {c b : Int} (e : c = b) (q : Q (.int b) H) : Q (.int c) H := by
  rw [e]
  exact q
section
variable {P : Program} {w : World} {K : PySem.W.Frag} {mg : Str → Option Value} {base : Heap} (T : Tx K mg)
/-! ### basics -/
def spIsInteger : Sp := fun vs H Q _ => ∃ i : Int, vs = [.int i] ∧ Q (.bl true) H
theorem ok_is_integer : FnOk P w K mg base CX0 1 T.is_integer.f T.is_integer.fd ["value"] spIsInteger := by
  refine T.is_integer.F.ok sc_is_integer (fun vs H Q E h => ?_) (fun cdv A outer s H vs Q E hr h => ?_)
  · obtain ⟨i, rfl, _⟩ := h
    rfl
  · obtain ⟨i, rfl, q⟩ := h
    refine ⟨_, pss_one (ps_ret (pe_and (pe_callB call_isi (by rfl) T.b_isinstance (by decide +kernel) (pa_cons (pv 0) (pa_cons (pe_bltn (v := .ty "int") (by rfl) T.b_int (by decide +kernel) rfl) pa_nil)))
      (pe_one (pe_not (pe_callB call_isi (by rfl) T.b_isinstance (by decide +kernel) (pa_cons (pv 0) (pa_cons (pe_bltn (v := .ty "bool") (by rfl) T.b_bool (by decide +kernel) rfl) pa_nil))))))), ?_⟩
    refine ⟨_, rfl, .int i, .ty "int", .type "int", .type "int", true, rfl, .ty "int", .base (.int i), kit_ty (by decide +kernel), true, rfl, ?_⟩
    exact ⟨_, rfl, .int i, .ty "bool", .type "int", .type "bool", false, rfl, .ty "bool", .base (.int i), kit_ty (by decide +kernel), false, rfl, q⟩
def spIsCount : Sp := fun vs H Q _ => ∃ i : Int, vs = [.int i] ∧ Q (.bl (decide (0 ≤ i))) H
theorem ok_is_count : FnOk P w K mg base CX0 2 T.is_count.f T.is_count.fd ["value"] spIsCount := by
  refine T.is_count.F.ok sc_is_count (fun vs H Q E h => ?_) (fun cdv A outer s H vs Q E hr h => ?_)
  · obtain ⟨i, rfl, _⟩ := h
    rfl
  · obtain ⟨i, rfl, q⟩ := h
    refine ⟨_, pss_one (ps_ret (pe_and (pe_call (ok_is_integer T) (hr.mono (by decide)) (by rfl) T.is_integer.g T.is_integer.F.kp T.is_integer.b .nil pass0 (pa_cons (pv 0) pa_nil)) (pe_one (pe_cmpR op_ge (pv 0) pe_int (nomark _))))), ?_⟩
    exact ⟨_, rfl, i, rfl, true, rfl, _, rfl, _, _, rfl, rfl, q⟩
def spIsList : Sp := fun vs H Q _ => ∃ (a : Addr) (xs : List V), vs = [.ref a] ∧ (H a = some (.lst xs) ∨ H a = some (.tup xs)) ∧ ∀ H', Same H H' → Q (.bl true) H'
theorem ok_is_list : FnOk P w K mg base CX0 1 T.is_list.f T.is_list.fd ["value"] spIsList := by
  refine T.is_list.F.ok sc_is_list (fun vs H Q E h => ?_) (fun cdv A outer s H vs Q E hr h => ?_)
  · obtain ⟨a, xs, rfl, _⟩ := h
    rfl
  · obtain ⟨a, xs, rfl, ha, q⟩ := h
    refine ⟨_, pss_one (ps_ret (pe_callB call_isiT (by rfl) T.b_isinstance (by decide +kernel) (pa_cons (pv 0) (pa_cons (pe_tup (pa_cons (pe_bltn (v := .ty "list") (by rfl) T.b_list (by decide +kernel) rfl) (pa_cons (pe_bltn (v := .ty "tuple") (by rfl) T.b_tuple (by decide +kernel) rfl) pa_nil))) pa_nil)))), ?_⟩
    refine ⟨_, rfl, (by show 2 ≤ sizeLine; decide), fun p hp => ?_⟩
    rcases ha with ha | ha
    · refine ⟨.ref a, p, [.ty "list", .ty "tuple"], .type "list", [.type "list", .type "tuple"], true, rfl, upd_same, .cons (.ty _) (.cons (.ty _) .nil), .base (.lst (xs := xs) ?_), ?_, q _ (same_new hp)⟩
      · rw [upd_ne (ne_of_none ha hp)]; exact ha
      · exact kitAny_cons (b := true) (kit_ty (by decide +kernel)) (fun z => nomatch z) fun _ => rfl
    · refine ⟨.ref a, p, [.ty "list", .ty "tuple"], .type "tuple", [.type "list", .type "tuple"], true, rfl, upd_same, .cons (.ty _) (.cons (.ty _) .nil), .base (.tup (xs := xs) ?_), ?_, q _ (same_new hp)⟩
      · rw [upd_ne (ne_of_none ha hp)]; exact ha
      · exact kitAny_cons (b := false) (kit_ty (by decide +kernel)) (fun _ => kitAny_cons (b := true) (kit_ty (by decide +kernel)) (fun z => nomatch z) fun _ => rfl) (fun z => nomatch z)
def spWantAtMost : Sp := fun vs H Q _ => ∃ (x : V) (l n : Int), vs = [x, .int l, .int n] ∧ n ≤ l ∧ Q .non H
theorem ok_want_at_most : FnOk P w K mg base CX0 1 T.want_at_most.f T.want_at_most.fd ["what", "limit", "number"] spWantAtMost := by
  refine T.want_at_most.F.ok sc_want_at_most (fun vs H Q E h => ?_) (fun cdv A outer s H vs Q E hr h => ?_)
  · obtain ⟨x, l, n, rfl, _⟩ := h
    rfl
  · obtain ⟨x, l, n, rfl, hl, q⟩ := h
    refine ⟨_, pss_one (ps_if (pt_cmpR op_gt (pv 2) (pv 1) (nomark _)) (pss_one ps_never) pss_nil), ?_⟩
    refine ⟨_, rfl, _, rfl, _, _, rfl, rfl, _, rfl, ?_⟩
    rw [decide_eq_false (show ¬ l < n by omega)]
    exact iteF q
def spAreShelves : Sp := fun vs H Q _ => ∃ n : Nat, vs = [vN n] ∧ 2 ≤ n ∧ n ≤ 8 ∧ Q (.bl true) H
theorem ok_are_shelves : FnOk P w K mg base CX0 3 T.are_shelves.f T.are_shelves.fd ["value"] spAreShelves := by
  refine T.are_shelves.F.ok sc_are_shelves (fun vs H Q E h => ?_) (fun cdv A outer s H vs Q E hr h => ?_)
  · obtain ⟨n, rfl, _⟩ := h
    rfl
  · obtain ⟨n, rfl, h2, h8, q⟩ := h
    obtain ⟨t1, e1⟩ := T.leastS
    obtain ⟨t2, e2⟩ := T.mostS
    refine ⟨_, pss_one (ps_ret (pe_and (pe_call (ok_is_count T) (hr.mono (by decide)) (by rfl) T.is_count.g T.is_count.F.kp T.is_count.b .nil pass0 (pa_cons (pv 0) pa_nil))
      (pe_one (pe_chain op_le op_le (pe_glob (v := .int 2) (by rfl) e1 ⟨_, rfl⟩) (pv 0) (pe_glob (v := .int 8) (by rfl) e2 ⟨_, rfl⟩))))), ?_⟩
    refine ⟨_, rfl, (n : Int), rfl, true, ?_, ?_⟩
    · exact congrArg V.bl (decide_eq_true (show (0 : Int) ≤ n by omega))
    · refine ⟨_, rfl, _, _, rfl, rfl, true, ?_, _, _, rfl, rfl, ?_⟩
      · exact congrArg V.bl (decide_eq_true (show (2 : Int) ≤ n by omega))
      · exact q_bl (Q := Q) (decide_eq_true (show (n : Int) ≤ 8 by omega)) q
def spWantShelves : Sp := fun vs H Q _ => ∃ n : Nat, vs = [vN n] ∧ 2 ≤ n ∧ n ≤ 8 ∧ Q .non H
theorem ok_want_shelves : FnOk P w K mg base CX0 4 T.want_shelves.f T.want_shelves.fd ["value"] spWantShelves := by
  refine T.want_shelves.F.ok sc_want_shelves (fun vs H Q E h => ?_) (fun cdv A outer s H vs Q E hr h => ?_)
  · obtain ⟨n, rfl, _⟩ := h
    rfl
  · obtain ⟨n, rfl, h2, h8, q⟩ := h
    refine ⟨_, pss_one (ps_if (pt_not (pt_val (pe_call (ok_are_shelves T) (hr.mono (by decide)) (by rfl) T.are_shelves.g T.are_shelves.F.kp T.are_shelves.b .nil pass0 (pa_cons (pv 0) pa_nil)))) (pss_one ps_never) pss_nil), ?_⟩
    exact ⟨_, rfl, n, rfl, h2, h8, true, rfl, iteF q⟩
/-! ### lots as bits -/
def spBitsOf : Sp := fun vs H Q _ => ∃ (v : V) (l : List Nat), vs = [v] ∧ S1 H v l ∧ l.length ≤ 1000 ∧ (∀ x ∈ l, x < 1000) ∧ Q (vN (bitsN l)) H
theorem bits_step (l : List Nat) (s : Nat) : Builtin.bitOr ((bitsN l : Nat) : Int) (1 * 2 ^ ((s : Int).toNat)) = ((bitsN (l ++ [s]) : Nat) : Int) := by
  have e : (1 : Int) * 2 ^ ((s : Int).toNat) = ((2 ^ s : Nat) : Int) := by
    rw [Int.one_mul, Int.toNat_natCast, PySem.W.kbt_cast]
  rw [e, L2.bitOr_nn (Int.natCast_nonneg _) (Int.natCast_nonneg _), Int.toNat_natCast, Int.toNat_natCast]
  unfold bitsN
  rw [List.foldl_append]
  rfl
theorem ok_bits_of : FnOk P w K mg base CX0 1 T.bits_of.f T.bits_of.fd ["lot"] spBitsOf := by
  refine T.bits_of.F.ok sc_bits_of (fun vs H Q E h => ?_) (fun cdv A outer s H vs Q E hr h => ?_)
  · obtain ⟨v, l, rfl, _⟩ := h
    rfl
  · obtain ⟨v, l, rfl, hv, hl, hx, q⟩ := h
    have turn : ∀ {a : Addr} (D : Ends) (i : Nat) (x : V) (σ : L2.St) (H' : Hp), (vs1 l)[i]? = some x → (H' = H ∧ ∃ y, σ = [some (.ref a), some (vN (bitsN (l.take i))), y]) →
        gName 2 x σ H' fun σ2 H2 => tAsg (tOp (rI0 fun i j => .int (Builtin.bitOr i j)) (tVar 1) (tOp (rI CPow fun i j => .int (i * 2 ^ j.toNat)) (tC (.int 1)) (tVar 2))) (gName 1)
          { D with nx := fun σ H' => H' = H ∧ ∃ y, σ = [some (.ref a), some (vN (bitsN (l.take (i + 1)))), y], ct := fun σ H' => H' = H ∧ ∃ y, σ = [some (.ref a), some (vN (bitsN (l.take (i + 1)))), y], bk := D.nx } σ2 H2 := by
      rintro a D i x σ H' hi ⟨rfl, y, rfl⟩
      rw [List.getElem?_map] at hi
      obtain ⟨n, hn, rfl⟩ := Option.map_eq_some_iff.mp hi
      have hn1 := hx n (List.mem_of_getElem? hn)
      refine ⟨_, rfl, _, rfl, 1, (n : Int), rfl, rfl, ⟨by omega, by omega, by decide⟩, _, _, rfl, rfl, rfl, some (vN n), ?_⟩
      have e : l.take (i + 1) = l.take i ++ [n] := by rw [List.take_add_one, hn]; rfl
      have e2 : vN (bitsN (l.take i ++ [n])) = V.int (Builtin.bitOr ((bitsN (l.take i) : Nat) : Int) (1 * 2 ^ ((n : Int).toNat))) := congrArg V.int (bits_step (l.take i) n).symm
      rw [e, e2]
      rfl
    rcases hv with ⟨a, rfl, ha⟩ | ⟨a, rfl, ha⟩
    · refine ⟨_, pss_cons (ps_set (i := 1) sc_bits_of.nd rfl (.inl rfl) pe_int) (pss_cons (ps_for PassesOwn.never rfl (pi_list (pv 0)) (pg_name (i := 2) sc_bits_of.nd rfl (.inl rfl))
        (pss_one (ps_set (i := 1) sc_bits_of.nd rfl (.inl rfl) (pe_op op_or (pv 1) (pe_op op_shl pe_int (pv 2)))))) (pss_one (ps_ret (pv 1)))), ?_⟩
      refine ⟨_, rfl, a, rfl, ⟨_, SqL.of ha⟩, for_by (runs_list (K := K) (SqL.of ha)) (fun i σ H' => H' = H ∧ ∃ y, σ = [some (.ref a), some (vN (bitsN (l.take i))), y]) (fun i σ H' p => p.1 ▸ Same.refl _) ⟨rfl, _, rfl⟩ (turn _) ?_⟩
      rintro σ H' ⟨rfl, y, rfl⟩
      refine ⟨_, rfl, ?_⟩
      rw [show l.take (vs1 l).length = l from List.take_of_length_le (by simp)]
      exact q
    · refine ⟨_, pss_cons (ps_set (i := 1) sc_bits_of.nd rfl (.inl rfl) pe_int) (pss_cons (ps_for PassesOwn.never rfl (pi_tup (pv 0)) (pg_name (i := 2) sc_bits_of.nd rfl (.inl rfl))
        (pss_one (ps_set (i := 1) sc_bits_of.nd rfl (.inl rfl) (pe_op op_or (pv 1) (pe_op op_shl pe_int (pv 2)))))) (pss_one (ps_ret (pv 1)))), ?_⟩
      refine ⟨_, rfl, a, rfl, ⟨_, SqT.of ha⟩, for_by (runs_tup (K := K) (SqT.of ha)) (fun i σ H' => H' = H ∧ ∃ y, σ = [some (.ref a), some (vN (bitsN (l.take i))), y]) (fun i σ H' p => p.1 ▸ Same.refl _) ⟨rfl, _, rfl⟩ (turn _) ?_⟩
      rintro σ H' ⟨rfl, y, rfl⟩
      refine ⟨_, rfl, ?_⟩
      rw [show l.take (vs1 l).length = l from List.take_of_length_le (by simp)]
      exact q
end
end TA
namespace TA
open PySem PySem.Spec PyProof.Rows L2
theorem bit_test (b d : Nat) : decide (V.int (Builtin.bitAnd ((b : Int) / 2 ^ ((d : Int).toNat)) 1) = V.int 1) = b.testBit d := by
  have e : Builtin.bitAnd ((b : Int) / 2 ^ ((d : Int).toNat)) 1 = (((b / 2 ^ d) % 2 : Nat) : Int) := by
    rw [bitAnd_m1, Int.toNat_natCast, ← PySem.W.kbt_cast, ← Int.natCast_ediv, Int.natCast_emod]
    rfl
  rw [e, Nat.testBit_eq_decide_div_mod_eq]
  exact decide_eq_decide.mpr ⟨fun h => by injection h with h; omega, fun h => by rw [h]; rfl⟩
section
variable {P : Program} {w : World} {K : PySem.W.Frag} {mg : Str → Option Value} {base : Heap} (T : Tx K mg)
def spSpotsOf : Sp := fun vs H Q _ => ∃ b : Nat, vs = [vN b] ∧ ∀ H' v, Same H H' → T1 (Nw H H') v (spots b) → Q v H'
theorem ok_spots_of : FnOk P w K mg base CX0 1 T.spots_of.f T.spots_of.fd ["bits"] spSpotsOf := by
  refine T.spots_of.F.ok sc_spots_of (fun vs H Q E h => ?_) (fun cdv A outer s H vs Q E hr h => ?_)
  · obtain ⟨b, rfl, _⟩ := h
    rfl
  · obtain ⟨b, rfl, q⟩ := h
    obtain ⟨t2, e2⟩ := T.mostS
    refine ⟨_, pss_one (ps_ret (pe_callTy call_tuple_of (by rfl) T.b_tuple (by decide +kernel) (pa_cons (pe_lc (own := [("shelf", 1)]) (g := gName 1) (by rfl) sc_spots_of.nd
      (pi_range1 (by rfl) T.b_range (pa_cons (pe_glob (v := .int 8) (by rfl) e2 ⟨_, rfl⟩) pa_nil)) (blkOk_by (own := [("shelf", 1)]) (N := ["bits", "shelf"]) (sc := defScope s_spots_of) (by decide +kernel))
      (fun _ _ _ _ _ => pg_name (i := 1) sc_spots_of.nd rfl (.inl rfl)) (fun _ _ _ _ _ => pts_one (pt_cmpR op_eq (pe_op op_and (pe_op op_shr (pv 0) (pv 1)) pe_int) pe_int (nomark _))) (fun _ _ _ _ _ => pv 1)) pa_nil))), ?_⟩
    refine ⟨8, rfl, by decide, by decide, fun D hD => comp_by (List.range 8) (runs_range 8) (by simp) (by simp) hD (fun d => b.testBit d) (fun d _ v => v = vN d) (fun _ _ _ _ _ h => h) (fun i x d H' Z Zn hx hd k z1 z2 => ?_) fun H' ys k hy hp => ?_⟩
    · have ex : x = vN d := by
        rw [List.getElem?_map, hd] at hx
        exact (Option.some.inj hx).symm
      subst ex
      refine ⟨rfl, ?_⟩
      refine ⟨_, rfl, _, rfl, (b : Int), (d : Int), rfl, rfl, by omega, _, _, rfl, rfl, rfl, _, rfl, ?_⟩
      rw [bit_test b d]
      cases e : b.testBit d with
      | true => exact iteT ⟨_, rfl, z1 _ _ e (Same.refl _) rfl⟩
      | false => exact iteF (z2 _ e (Same.refl _))
    · have ey : ys = vs1 (spots b) := paired_fun hp
      subst ey
      refine ⟨D, _, rfl, .inl ⟨SqL.of hy, fun l hl => q _ _ (k.trans (same_new hl)) ⟨l, rfl, nw_get (k.free hl) upd_same⟩⟩⟩
def spToldLot : Sp := fun vs H Q _ => ∃ b : Nat, vs = [vN b] ∧ ∀ H' v, Same H H' → L1 (Nw H H') v (spots b) → Q v H'
theorem ok_told_lot : FnOk P w K mg base CX0 2 T.told_lot.f T.told_lot.fd ["bits"] spToldLot := by
  refine T.told_lot.F.ok sc_told_lot (fun vs H Q E h => ?_) (fun cdv A outer s H vs Q E hr h => ?_)
  · obtain ⟨b, rfl, _⟩ := h
    rfl
  · obtain ⟨b, rfl, q⟩ := h
    refine ⟨_, pss_one (ps_ret (pe_callTy call_list_of (by rfl) T.b_list (by decide +kernel) (pa_cons (pe_call (ok_spots_of T) (hr.mono (by decide)) (by rfl) T.spots_of.g T.spots_of.F.kp T.spots_of.b .nil pass0 (pa_cons (pv 0) pa_nil)) pa_nil))), ?_⟩
    refine ⟨_, rfl, b, rfl, fun H' v k hv => ?_⟩
    obtain ⟨a, rfl, ha⟩ := hv
    exact ⟨a, _, rfl, .inr (SqT.of (of_nw ha).2), fun l hl => q _ _ (k.trans (same_new hl)) ⟨l, rfl, nw_get (k.free hl) upd_same⟩⟩
end
end TA
namespace TA
open PySem PySem.Spec PyProof.Rows L2
theorem ints_vs (l : List Nat) : vs1 l = (cI l).map V.int := by
  rw [List.map_map]
  rfl
theorem cI_mem {l : List Nat} {k : Int} : k ∈ cI l ↔ ∃ n ∈ l, (n : Int) = k := List.mem_map
theorem cI_nodup {l : List Nat} (h : l.Nodup) : (cI l).Nodup := List.Pairwise.map _ (fun a b h => by omega) h
/-- a set of unlike numbers, sorted: as many -/
theorem len_of_set {l : List Nat} (nd : l.Nodup) {ns : List Int} (up : ns.Pairwise (· < ·)) (hm : ∀ k : Int, k ∈ ns ↔ decide (k ∈ cI l) = true) : ns.length = l.length := by
  have nd2 : ns.Nodup := up.imp fun h => by omega
  have p : ns.Perm (cI l) := (List.perm_ext_iff_of_nodup nd2 (cI_nodup nd)).mpr fun k => by rw [hm, decide_eq_true_iff]
  rw [p.length_eq, List.length_map]
theorem q_eqlen {Q : VK} {H : Hp} {a b : Nat} (e : a = b) (q : Q (.bl true) H) : Q (.bl (decide (V.int (a : Int) = V.int (b : Int)))) H := by
  subst e
  rw [decide_eq_true rfl]
  exact q
section
variable {P : Program} {w : World} {K : PySem.W.Frag} {mg : Str → Option Value} {base : Heap} (T : Tx K mg)
def spIsLotOf : Sp := fun vs H Q _ => ∃ (n : Nat) (v : V) (l : List Nat), vs = [vN n, v] ∧ S1 H v l ∧ l.Nodup ∧ (∀ x ∈ l, x < n) ∧ l.length ≤ 50 ∧ ∀ H', Same H H' → Q (.bl true) H'
theorem ok_is_lot_of : FnOk P w K mg base CX0 3 T.is_lot_of.f T.is_lot_of.fd ["shelves", "value"] spIsLotOf := by
  refine T.is_lot_of.F.ok sc_is_lot_of (fun vs H Q E h => ?_) (fun cdv A outer s H vs Q E hr h => ?_)
  · obtain ⟨n, v, l, rfl, _⟩ := h
    rfl
  · obtain ⟨n, v, l, rfl, hv, nd, hx, hl, q⟩ := h
    have all_ok : ∀ ys : List V, Paired (fun v d => v = V.bl true) ys l → ys = (List.replicate l.length true).map V.bl := fun ys hp => by
      rw [List.map_replicate]
      exact List.eq_replicate_iff.mpr ⟨hp.length, fun b hb => by
        obtain ⟨i, hi⟩ := List.getElem?_of_mem hb
        obtain ⟨_, _, e⟩ := paired_get hp i b hi
        exact e⟩
    rcases hv with ⟨a, rfl, ha⟩ | ⟨a, rfl, ha⟩
    · refine ⟨_, pss_cons (ps_if (PW.pt (pw_or (pt_not (pt_val (pe_call (ok_is_list T) (hr.mono (by decide)) (by rfl) T.is_list.g T.is_list.F.kp T.is_list.b .nil pass0 (pa_cons (pv 1) pa_nil))))
          (pw_or1 (pt_not (pt_val (pe_callB (cr_all (by rfl)) (by rfl) T.b_all (by decide +kernel) (pa_cons (pe_lc (own := [("shelf", 2)]) (g := gName 2) (by rfl) sc_is_lot_of.nd (pi_list (pv 1))
            (blkOk_by (own := [("shelf", 2)]) (N := ["shelves", "value", "shelf"]) (sc := defScope s_is_lot_of) (by decide +kernel)) (fun _ _ _ _ _ => pg_name (i := 2) sc_is_lot_of.nd rfl (.inl rfl)) (fun _ _ _ _ _ => pts_nil)
            (fun _ _ _ _ _ => pe_and (pe_call (ok_is_count T) (hr.mono (by decide)) (by rfl) T.is_count.g T.is_count.F.kp T.is_count.b .nil pass0 (pa_cons (pv 2) pa_nil)) (pe_one (pe_cmpR op_lt (pv 2) (pv 0) (nomark _))))) pa_nil)))))))
          (pss_one (ps_ret pe_bl)) pss_nil)
        (pss_one (ps_ret (pe_cmpR op_eq (pe_callB call_len_seq (by rfl) T.b_len boot_len (pa_cons (pe_callB (cr_sortedSet (by rfl)) (by rfl) T.b_sorted (by decide +kernel) (pa_cons (pe_callTy (cr_setI (by rfl)) (by rfl) T.b_set (by decide +kernel) (pa_cons (pv 1) pa_nil)) pa_nil)) pa_nil))
          (pe_callB call_len_seq (by rfl) T.b_len boot_len (pa_cons (pv 1) pa_nil)) (nomark _)))), ?_⟩
      refine ⟨_, rfl, a, _, rfl, .inl ha, fun H1 k1 => ⟨true, rfl, iteF ?_⟩⟩
      have ha1 := k1 _ _ ha
      refine ⟨_, rfl, a, rfl, ⟨_, SqL.of ha1⟩, fun D hD => comp_all l (runs_list (K := K) (SqL.of ha1)) (by simp) (by omega) hD (fun d _ v => v = .bl true) (fun _ _ _ _ _ h => h) (fun i x d H' Z hx' hd k z => ?_) (fun H' ys k hy hp => ?_) ⟨2, rfl⟩⟩
      · have ex : x = vN d := by
          rw [List.getElem?_map, hd] at hx'
          exact (Option.some.inj hx').symm
        subst ex
        have hdn := hx d (List.mem_of_getElem? hd)
        refine ⟨rfl, ⟨_, rfl, (d : Int), rfl, true, congrArg V.bl (decide_eq_true (show (0 : Int) ≤ d by omega)), _, rfl, _, rfl, _, _, rfl, rfl, z _ _ (Same.refl _) (congrArg V.bl (decide_eq_true (show (d : Int) < n by omega)))⟩⟩
      · have ey := all_ok ys hp
        subst ey
        refine ⟨D, _, rfl, SqL.of hy, true, congrArg V.bl (List.all_eq_true.mpr fun b hb => (List.mem_replicate.mp hb).2), iteF ?_⟩
        have ha2 := k _ _ ha1
        refine ⟨_, rfl, a, cI l, rfl, .inl (SqL.of (by rw [← ints_vs]; exact ha2)), by rw [List.length_map]; omega, fun p c hp hc => ⟨p, _, c, rfl, upd_same, by rw [List.length_map] at hc; omega, fun ns p2 up hm hn hp2 => ⟨p2, _, rfl, .inl (SqL.of upd_same), ?_⟩⟩⟩
        have s1 : Same H' (upd H' p (SetO w p (fun j => decide (j ∈ cI l)) c)) := same_new hp
        have s2 := same_new (o := .lst (ns.map V.int)) hp2
        refine ⟨_, rfl, a, vs1 l, rfl, .inl (SqL.of (s2 _ _ (s1 _ _ ha2))), rfl, ?_⟩
        refine q_eqlen (Q := Q) (by rw [List.length_map, List.length_map]; exact len_of_set nd up hm) (q _ (k1.trans (k.trans (s1.trans s2))))
    · refine ⟨_, pss_cons (ps_if (PW.pt (pw_or (pt_not (pt_val (pe_call (ok_is_list T) (hr.mono (by decide)) (by rfl) T.is_list.g T.is_list.F.kp T.is_list.b .nil pass0 (pa_cons (pv 1) pa_nil))))
          (pw_or1 (pt_not (pt_val (pe_callB (cr_all (by rfl)) (by rfl) T.b_all (by decide +kernel) (pa_cons (pe_lc (own := [("shelf", 2)]) (g := gName 2) (by rfl) sc_is_lot_of.nd (pi_tup (pv 1))
            (blkOk_by (own := [("shelf", 2)]) (N := ["shelves", "value", "shelf"]) (sc := defScope s_is_lot_of) (by decide +kernel)) (fun _ _ _ _ _ => pg_name (i := 2) sc_is_lot_of.nd rfl (.inl rfl)) (fun _ _ _ _ _ => pts_nil)
            (fun _ _ _ _ _ => pe_and (pe_call (ok_is_count T) (hr.mono (by decide)) (by rfl) T.is_count.g T.is_count.F.kp T.is_count.b .nil pass0 (pa_cons (pv 2) pa_nil)) (pe_one (pe_cmpR op_lt (pv 2) (pv 0) (nomark _))))) pa_nil)))))))
          (pss_one (ps_ret pe_bl)) pss_nil)
        (pss_one (ps_ret (pe_cmpR op_eq (pe_callB call_len_seq (by rfl) T.b_len boot_len (pa_cons (pe_callB (cr_sortedSet (by rfl)) (by rfl) T.b_sorted (by decide +kernel) (pa_cons (pe_callTy (cr_setI (by rfl)) (by rfl) T.b_set (by decide +kernel) (pa_cons (pv 1) pa_nil)) pa_nil)) pa_nil))
          (pe_callB call_len_seq (by rfl) T.b_len boot_len (pa_cons (pv 1) pa_nil)) (nomark _)))), ?_⟩
      refine ⟨_, rfl, a, _, rfl, .inr ha, fun H1 k1 => ⟨true, rfl, iteF ?_⟩⟩
      have ha1 := k1 _ _ ha
      refine ⟨_, rfl, a, rfl, ⟨_, SqT.of ha1⟩, fun D hD => comp_all l (runs_tup (K := K) (SqT.of ha1)) (by simp) (by omega) hD (fun d _ v => v = .bl true) (fun _ _ _ _ _ h => h) (fun i x d H' Z hx' hd k z => ?_) (fun H' ys k hy hp => ?_) ⟨2, rfl⟩⟩
      · have ex : x = vN d := by
          rw [List.getElem?_map, hd] at hx'
          exact (Option.some.inj hx').symm
        subst ex
        have hdn := hx d (List.mem_of_getElem? hd)
        refine ⟨rfl, ⟨_, rfl, (d : Int), rfl, true, congrArg V.bl (decide_eq_true (show (0 : Int) ≤ d by omega)), _, rfl, _, rfl, _, _, rfl, rfl, z _ _ (Same.refl _) (congrArg V.bl (decide_eq_true (show (d : Int) < n by omega)))⟩⟩
      · have ey := all_ok ys hp
        subst ey
        refine ⟨D, _, rfl, SqL.of hy, true, congrArg V.bl (List.all_eq_true.mpr fun b hb => (List.mem_replicate.mp hb).2), iteF ?_⟩
        have ha2 := k _ _ ha1
        refine ⟨_, rfl, a, cI l, rfl, .inr (SqT.of (by rw [← ints_vs]; exact ha2)), by rw [List.length_map]; omega, fun p c hp hc => ⟨p, _, c, rfl, upd_same, by rw [List.length_map] at hc; omega, fun ns p2 up hm hn hp2 => ⟨p2, _, rfl, .inl (SqL.of upd_same), ?_⟩⟩⟩
        have s1 : Same H' (upd H' p (SetO w p (fun j => decide (j ∈ cI l)) c)) := same_new hp
        have s2 := same_new (o := .lst (ns.map V.int)) hp2
        refine ⟨_, rfl, a, vs1 l, rfl, .inr (SqT.of (s2 _ _ (s1 _ _ ha2))), rfl, ?_⟩
        refine q_eqlen (Q := Q) (by rw [List.length_map, List.length_map]; exact len_of_set nd up hm) (q _ (k1.trans (k.trans (s1.trans s2))))
def LotOk (n : Nat) (l : List Nat) : Prop := l.Nodup ∧ (∀ x ∈ l, x < n) ∧ l.length ≤ 50
def spWantLot : Sp := fun vs H Q _ => ∃ (n : Nat) (v : V) (l : List Nat), vs = [vN n, v] ∧ n ≤ 8 ∧ S1 H v l ∧ LotOk n l ∧ ∀ H', Same H H' → Q (vN (bitsN l)) H'
theorem ok_want_lot : FnOk P w K mg base CX0 4 T.want_lot.f T.want_lot.fd ["shelves", "value"] spWantLot := by
  refine T.want_lot.F.ok sc_want_lot (fun vs H Q E h => ?_) (fun cdv A outer s H vs Q E hr h => ?_)
  · obtain ⟨n, v, l, rfl, _⟩ := h
    rfl
  · obtain ⟨n, v, l, rfl, hn, hv, ⟨nd, hx, hl⟩, q⟩ := h
    refine ⟨_, pss_cons (ps_if (pt_not (pt_val (pe_call (ok_is_lot_of T) (hr.mono (by decide)) (by rfl) T.is_lot_of.g T.is_lot_of.F.kp T.is_lot_of.b .nil pass0 (pa_cons (pv 0) (pa_cons (pv 1) pa_nil))))) (pss_one ps_never) pss_nil)
      (pss_one (ps_ret (pe_call (ok_bits_of T) (hr.mono (by decide)) (by rfl) T.bits_of.g T.bits_of.F.kp T.bits_of.b .nil pass0 (pa_cons (pv 1) pa_nil)))), ?_⟩
    refine ⟨_, rfl, _, rfl, n, v, l, rfl, hv, nd, hx, hl, fun H1 k => ⟨true, rfl, iteF ?_⟩⟩
    exact ⟨_, rfl, v, l, rfl, hv.mono k, by omega, fun x h => by have := hx x h; omega, q _ k⟩
def spTwoLots : Sp := fun vs H Q _ => ∃ (n : Nat) (v u : V) (l m : List Nat), vs = [vN n, v, u] ∧ 2 ≤ n ∧ n ≤ 8 ∧ S1 H v l ∧ S1 H u m ∧ LotOk n l ∧ LotOk n m ∧
  ∀ H' a, Same H H' → H' a = some (.tup [vN (bitsN l), vN (bitsN m)]) → Q (.ref a) H'
theorem ok_two_lots : FnOk P w K mg base CX0 5 T.two_lots.f T.two_lots.fd ["shelves", "lot", "other"] spTwoLots := by
  refine T.two_lots.F.ok sc_two_lots (fun vs H Q E h => ?_) (fun cdv A outer s H vs Q E hr h => ?_)
  · obtain ⟨n, v, u, l, m, rfl, _⟩ := h
    rfl
  · obtain ⟨n, v, u, l, m, rfl, h2, h8, hv, hu, ol, om, q⟩ := h
    refine ⟨_, pss_cons (ps_expr (pe_call (ok_want_shelves T) (hr.mono (by decide)) (by rfl) T.want_shelves.g T.want_shelves.F.kp T.want_shelves.b .nil pass0 (pa_cons (pv 0) pa_nil)))
      (pss_cons (ps_set (i := 3) sc_two_lots.nd rfl (.inl rfl) (pe_call (ok_want_lot T) (hr.mono (by decide)) (by rfl) T.want_lot.g T.want_lot.F.kp T.want_lot.b .nil pass0 (pa_cons (pv 0) (pa_cons (pv 1) pa_nil))))
      (pss_one (ps_ret (pe_tup (pa_cons (pv 3) (pa_cons (pe_call (ok_want_lot T) (hr.mono (by decide)) (by rfl) T.want_lot.g T.want_lot.F.kp T.want_lot.b .nil pass0 (pa_cons (pv 0) (pa_cons (pv 2) pa_nil))) pa_nil)))))), ?_⟩
    refine ⟨_, rfl, n, rfl, h2, h8, ?_⟩
    refine ⟨_, rfl, _, rfl, n, v, l, rfl, h8, hv, ol, fun H1 k1 => ?_⟩
    refine ⟨_, rfl, _, rfl, _, rfl, n, u, m, rfl, h8, hu.mono k1, om, fun H2 k2 => ⟨by show 2 ≤ sizeLine; decide, fun p hp => q _ p (k1.trans (k2.trans (same_new hp))) upd_same⟩⟩
/-! ### lots from outside -/
theorem and_bits (l m : List Nat) : Builtin.bitAnd ((bitsN l : Nat) : Int) ((bitsN m : Nat) : Int) = ((bitsN l &&& bitsN m : Nat) : Int) := by
  rw [bitAnd_pp (Int.natCast_nonneg _) (Int.natCast_nonneg _), Int.toNat_natCast, Int.toNat_natCast]
theorem or_bits (a b : Nat) : Builtin.bitOr (a : Int) (b : Int) = ((a ||| b : Nat) : Int) := by
  rw [L2.bitOr_nn (Int.natCast_nonneg _) (Int.natCast_nonneg _), Int.toNat_natCast, Int.toNat_natCast]
/-- those of the one that don't stand in the other, as a number -/
def minusB (a b : Nat) : Nat := a - (a &&& b)
theorem minus_bit {a b i : Nat} : (minusB a b).testBit i = (a.testBit i && !b.testBit i) := by
  have e0 : a &&& (a &&& b) = a &&& b := by rw [← Nat.and_assoc, Nat.and_self]
  have e1 := Bits.nat_xor_add_and a (a &&& b)
  rw [e0] at e1
  have h := @Nat.and_le_left a b
  have e : minusB a b = a ^^^ (a &&& b) := by
    unfold minusB
    omega
  rw [e, Nat.testBit_xor, Nat.testBit_and]
  cases a.testBit i <;> cases b.testBit i <;> rfl
theorem not_bits (a b : Nat) : Builtin.bitAnd (a : Int) (Builtin.bitNot (b : Int)) = ((minusB a b : Nat) : Int) := by
  rw [bitAnd_not, bitAnd_pp (Int.natCast_nonneg _) (Int.natCast_nonneg _), Int.toNat_natCast, Int.toNat_natCast]
  unfold minusB
  have := @Nat.and_le_left a b
  omega
/-- the lot of those for which p holds -/
def lotBy (p : Nat → Bool) : List Nat := (List.range 8).filter p
theorem spots_by {b : Nat} {p : Nat → Bool} (h : ∀ i, i < 8 → b.testBit i = p i) : spots b = lotBy p := List.filter_congr fun i hi => h i (List.mem_range.mp hi)
def jnL (l m : List Nat) : List Nat := lotBy fun i => decide (i ∈ l) || decide (i ∈ m)
def wiL (l m : List Nat) : List Nat := lotBy fun i => decide (i ∈ l) && !decide (i ∈ m)
def cmL (l m : List Nat) : List Nat := lotBy fun i => decide (i ∈ l) && decide (i ∈ m)
theorem sp_or (l m : List Nat) : spots (bitsN l ||| bitsN m) = jnL l m := spots_by fun i _ => by rw [Nat.testBit_or, testBit_bitsN, testBit_bitsN]
theorem sp_wi (l m : List Nat) : spots (minusB (bitsN l) (bitsN m)) = wiL l m := spots_by fun i _ => by rw [minus_bit, testBit_bitsN, testBit_bitsN]
theorem sp_cm (l m : List Nat) : spots (bitsN l &&& bitsN m) = cmL l m := spots_by fun i _ => by rw [Nat.testBit_and, testBit_bitsN, testBit_bitsN]
/-- joined, without, common: f the lot told -/
def spLots (f : List Nat → List Nat → List Nat) : Sp := fun vs H Q _ => ∃ (n : Nat) (v u : V) (l m : List Nat), vs = [vN n, v, u] ∧ 2 ≤ n ∧ n ≤ 8 ∧ S1 H v l ∧ S1 H u m ∧ LotOk n l ∧ LotOk n m ∧ ∀ H' v, Same H H' → L1 (Nw H H') v (f l m) → Q v H'
theorem ok_joined : FnOk P w K mg base CX0 6 T.joined.f T.joined.fd ["shelves", "lot", "other"] (spLots jnL) := by
  refine T.joined.F.ok sc_joined (fun vs H Q E h => ?_) (fun cdv A outer s H vs Q E hr h => ?_)
  · obtain ⟨n, v, u, l, m, rfl, _⟩ := h
    rfl
  · obtain ⟨n, v, u, l, m, rfl, h2, h8, hv, hu, ol, om, q⟩ := h
    refine ⟨_, pss_cons (ps_asg (pe_call (ok_two_lots T) (hr.mono (by decide)) (by rfl) T.two_lots.g T.two_lots.F.kp T.two_lots.b .nil pass0 (pa_cons (pv 0) (pa_cons (pv 1) (pa_cons (pv 2) pa_nil))))
        (pg_tup (by rfl) (pgs_cons (pg_name (i := 3) sc_joined.nd rfl (.inl rfl)) (pgs_cons (pg_name (i := 4) sc_joined.nd rfl (.inl rfl)) pgs_nil))))
      (pss_one (ps_ret (pe_call (ok_told_lot T) (hr.mono (by decide)) (by rfl) T.told_lot.g T.told_lot.F.kp T.told_lot.b .nil pass0 (pa_cons (pe_op op_or (pv 3) (pv 4)) pa_nil)))), ?_⟩
    refine ⟨_, rfl, _, rfl, _, rfl, n, v, u, l, m, rfl, h2, h8, hv, hu, ol, om, fun H1 a k1 ha => ?_⟩
    refine ⟨a, _, rfl, SqT.of ha, rfl, _, _, rfl, _, _, rfl, rfl, ?_⟩
    refine ⟨_, rfl, _, rfl, _, _, rfl, rfl, _, congrArg (fun z => [V.int z]) (or_bits _ _), fun H2 v k2 hv2 => q _ _ (k1.trans k2) ?_⟩
    rw [sp_or] at hv2
    exact hv2.mono (nw_back k1)
theorem ok_common : FnOk P w K mg base CX0 6 T.common.f T.common.fd ["shelves", "lot", "other"] (spLots cmL) := by
  refine T.common.F.ok sc_common (fun vs H Q E h => ?_) (fun cdv A outer s H vs Q E hr h => ?_)
  · obtain ⟨n, v, u, l, m, rfl, _⟩ := h
    rfl
  · obtain ⟨n, v, u, l, m, rfl, h2, h8, hv, hu, ol, om, q⟩ := h
    refine ⟨_, pss_cons (ps_asg (pe_call (ok_two_lots T) (hr.mono (by decide)) (by rfl) T.two_lots.g T.two_lots.F.kp T.two_lots.b .nil pass0 (pa_cons (pv 0) (pa_cons (pv 1) (pa_cons (pv 2) pa_nil))))
        (pg_tup (by rfl) (pgs_cons (pg_name (i := 3) sc_common.nd rfl (.inl rfl)) (pgs_cons (pg_name (i := 4) sc_common.nd rfl (.inl rfl)) pgs_nil))))
      (pss_one (ps_ret (pe_call (ok_told_lot T) (hr.mono (by decide)) (by rfl) T.told_lot.g T.told_lot.F.kp T.told_lot.b .nil pass0 (pa_cons (pe_op op_and (pv 3) (pv 4)) pa_nil)))), ?_⟩
    refine ⟨_, rfl, _, rfl, _, rfl, n, v, u, l, m, rfl, h2, h8, hv, hu, ol, om, fun H1 a k1 ha => ?_⟩
    refine ⟨a, _, rfl, SqT.of ha, rfl, _, _, rfl, _, _, rfl, rfl, ?_⟩
    refine ⟨_, rfl, _, rfl, _, _, rfl, rfl, _, congrArg (fun z => [V.int z]) (and_bits _ _), fun H2 v k2 hv2 => q _ _ (k1.trans k2) ?_⟩
    rw [sp_cm] at hv2
    exact hv2.mono (nw_back k1)
theorem ok_without : FnOk P w K mg base CX0 6 T.without.f T.without.fd ["shelves", "lot", "other"] (spLots wiL) := by
  refine T.without.F.ok sc_without (fun vs H Q E h => ?_) (fun cdv A outer s H vs Q E hr h => ?_)
  · obtain ⟨n, v, u, l, m, rfl, _⟩ := h
    rfl
  · obtain ⟨n, v, u, l, m, rfl, h2, h8, hv, hu, ol, om, q⟩ := h
    refine ⟨_, pss_cons (ps_asg (pe_call (ok_two_lots T) (hr.mono (by decide)) (by rfl) T.two_lots.g T.two_lots.F.kp T.two_lots.b .nil pass0 (pa_cons (pv 0) (pa_cons (pv 1) (pa_cons (pv 2) pa_nil))))
        (pg_tup (by rfl) (pgs_cons (pg_name (i := 3) sc_without.nd rfl (.inl rfl)) (pgs_cons (pg_name (i := 4) sc_without.nd rfl (.inl rfl)) pgs_nil))))
      (pss_one (ps_ret (pe_call (ok_told_lot T) (hr.mono (by decide)) (by rfl) T.told_lot.g T.told_lot.F.kp T.told_lot.b .nil pass0 (pa_cons (pe_op op_and (pv 3) (pe_un un_inv (pv 4))) pa_nil)))), ?_⟩
    refine ⟨_, rfl, _, rfl, _, rfl, n, v, u, l, m, rfl, h2, h8, hv, hu, ol, om, fun H1 a k1 ha => ?_⟩
    refine ⟨a, _, rfl, SqT.of ha, rfl, _, _, rfl, _, _, rfl, rfl, ?_⟩
    refine ⟨_, rfl, _, rfl, _, rfl, _, _, rfl, rfl, _, congrArg (fun z => [V.int z]) (not_bits _ _), fun H2 v k2 hv2 => q _ _ (k1.trans k2) ?_⟩
    rw [sp_wi] at hv2
    exact hv2.mono (nw_back k1)
theorem minus_zero {l m : List Nat} (hl : In8 l) : minusB (bitsN l) (bitsN m) = 0 ↔ wiL l m = [] := by
  rw [← sp_wi]
  have hlt : minusB (bitsN l) (bitsN m) < 256 := Nat.lt_of_le_of_lt (Nat.sub_le _ _) (bits_lt hl)
  constructor
  · intro e
    rw [e]
    decide +kernel
  · intro e
    have := bits_spots hlt
    rw [e] at this
    rw [← this]
    rfl
def spIsWithin : Sp := fun vs H Q _ => ∃ (n : Nat) (v u : V) (l m : List Nat), vs = [vN n, v, u] ∧ 2 ≤ n ∧ n ≤ 8 ∧ S1 H v l ∧ S1 H u m ∧ LotOk n l ∧ LotOk n m ∧ ∀ H', Same H H' → Q (.bl (decide (wiL l m = []))) H'
theorem ok_is_within : FnOk P w K mg base CX0 6 T.is_within.f T.is_within.fd ["shelves", "lot", "other"] spIsWithin := by
  refine T.is_within.F.ok sc_is_within (fun vs H Q E h => ?_) (fun cdv A outer s H vs Q E hr h => ?_)
  · obtain ⟨n, v, u, l, m, rfl, _⟩ := h
    rfl
  · obtain ⟨n, v, u, l, m, rfl, h2, h8, hv, hu, ol, om, q⟩ := h
    refine ⟨_, pss_cons (ps_asg (pe_call (ok_two_lots T) (hr.mono (by decide)) (by rfl) T.two_lots.g T.two_lots.F.kp T.two_lots.b .nil pass0 (pa_cons (pv 0) (pa_cons (pv 1) (pa_cons (pv 2) pa_nil))))
        (pg_tup (by rfl) (pgs_cons (pg_name (i := 3) sc_is_within.nd rfl (.inl rfl)) (pgs_cons (pg_name (i := 4) sc_is_within.nd rfl (.inl rfl)) pgs_nil))))
      (pss_one (ps_ret (pe_cmpR op_eq (pe_op op_and (pv 3) (pe_un un_inv (pv 4))) pe_int (nomark _)))), ?_⟩
    refine ⟨_, rfl, _, rfl, _, rfl, n, v, u, l, m, rfl, h2, h8, hv, hu, ol, om, fun H1 a k1 ha => ?_⟩
    refine ⟨a, _, rfl, SqT.of ha, rfl, _, _, rfl, _, _, rfl, rfl, ?_⟩
    refine ⟨_, rfl, _, rfl, _, rfl, _, _, rfl, rfl, rfl, q_bl (Q := Q) ?_ (q _ k1)⟩
    show decide (V.int (Builtin.bitAnd ((bitsN l : Nat) : Int) (Builtin.bitNot ((bitsN m : Nat) : Int))) = V.int 0) = decide (wiL l m = [])
    rw [not_bits]
    refine decide_eq_decide.mpr ?_
    rw [← minus_zero (m := m) (fun x hx => by have := ol.2.1 x hx; omega : In8 l)]
    exact ⟨fun h => by injection h with h; omega, fun h => by rw [h]; rfl⟩
end
end TA
namespace TA
open PySem PySem.Spec PyProof.Rows L2
theorem S1.seq {K : PySem.W.Frag} {H : Hp} {v : V} {l : List Nat} (h : S1 H v l) : ∃ a, v = .ref a ∧ (SqL K H a (vs1 l) ∨ SqT K H a (vs1 l)) := by
  rcases h with ⟨a, rfl, h⟩ | ⟨a, rfl, h⟩
  · exact ⟨a, rfl, .inl (SqL.of h)⟩
  · exact ⟨a, rfl, .inr (SqT.of h)⟩
theorem up_of_le {ks : List (List Nat)} (h : ks.Pairwise (· ≤ ·)) (nd : ks.Nodup) : ks.Pairwise (· < ·) := by
  have := h.and nd
  exact this.imp fun ⟨h1, h2⟩ => by
    rcases List.le_iff_lt_or_eq.mp h1 with q | q
    · exact q
    · exact absurd q h2
theorem plain_canon {bs bs' : List Nat} (up : bs'.Pairwise (· < ·)) (hm : ∀ b, b ∈ bs' ↔ b ∈ bs) (hb : ∀ b ∈ bs, b < 256) {ks : List (List Nat)} (pm : ks.Perm (bs'.map spots)) (le : ks.Pairwise (· ≤ ·)) : ks = canon (bs.map spots) := by
  have nd : (bs'.map spots).Nodup := by
    refine List.pairwise_map.mpr (List.Pairwise.imp_of_mem (fun {a b} ha hb' h => ?_) (nodup_lt up))
    exact fun e => h (spots_inj (hb a ((hm a).mp ha)) (hb b ((hm b).mp hb')) e)
  refine canon_is (up_of_le le (pm.nodup_iff.mpr nd)) fun x => ?_
  rw [pm.mem_iff, List.mem_map, List.mem_map]
  constructor
  · rintro ⟨b, h, e⟩
    exact ⟨b, (hm b).mp h, e⟩
  · rintro ⟨b, h, e⟩
    exact ⟨b, (hm b).mpr h, e⟩
/-- ints in a set of numbers are numbers -/
theorem ints_back {bs : List Nat} {ns : List Int} (up : ns.Pairwise (· < ·)) (hm : ∀ k : Int, k ∈ ns ↔ decide (k ∈ cI bs) = true) : ∃ bs' : List Nat, ns = cI bs' ∧ bs'.Pairwise (· < ·) ∧ ∀ b, b ∈ bs' ↔ b ∈ bs := by
  have nn : ∀ k ∈ ns, 0 ≤ k := fun k hk => by
    have := of_decide_eq_true ((hm k).mp hk)
    obtain ⟨n, _, e⟩ := cI_mem.mp this
    omega
  have e : ns = cI (ns.map Int.toNat) := by
    have h : ∀ l : List Int, (∀ k ∈ l, 0 ≤ k) → l = cI (l.map Int.toNat) := by
      intro l
      induction l with
      | nil => intro _; rfl
      | cons x r ih =>
        intro hx
        show x :: r = ((x.toNat : Nat) : Int) :: cI (r.map Int.toNat)
        rw [← ih fun k hk => hx k (List.mem_cons_of_mem _ hk), Int.toNat_of_nonneg (hx x List.mem_cons_self)]
    exact h ns nn
  refine ⟨ns.map Int.toNat, e, ?_, fun b => ?_⟩
  · refine List.pairwise_map.mpr (List.Pairwise.imp_of_mem (fun {a b} ha hb h => ?_) up)
    have := nn a ha
    have := nn b hb
    omega
  · have h1 : (b : Int) ∈ ns ↔ b ∈ bs := by
      rw [hm, decide_eq_true_iff, cI_mem]
      exact ⟨fun ⟨n, h, e⟩ => by have : n = b := by omega
                                 exact this ▸ h, fun h => ⟨b, h, rfl⟩⟩
    rw [← h1, List.mem_map]
    exact ⟨fun ⟨k, h, e⟩ => by have := nn k h
                               have : k = (b : Int) := by omega
                               exact this ▸ h, fun h => ⟨_, h, by omega⟩⟩
section
variable {P : Program} {w : World} {K : PySem.W.Frag} {mg : Str → Option Value} {base : Heap} (T : Tx K mg)
def KindOk (n : Nat) (k : List Nat) : Prop := LotOk n k ∧ k ≠ []
def spIsKind : Sp := fun vs H Q _ => ∃ (n : Nat) (v : V) (l : List Nat), vs = [vN n, v] ∧ S1 H v l ∧ KindOk n l ∧ ∀ H', Same H H' → Q (.bl true) H'
theorem ok_is_kind : FnOk P w K mg base CX0 4 T.is_kind.f T.is_kind.fd ["shelves", "value"] spIsKind := by
  refine T.is_kind.F.ok sc_is_kind (fun vs H Q E h => ?_) (fun cdv A outer s H vs Q E hr h => ?_)
  · obtain ⟨n, v, l, rfl, _⟩ := h
    rfl
  · obtain ⟨n, v, l, rfl, hv, ⟨⟨nd, hx, hl⟩, ne⟩, q⟩ := h
    refine ⟨_, pss_one (ps_ret (pe_and (pe_call (ok_is_lot_of T) (hr.mono (by decide)) (by rfl) T.is_lot_of.g T.is_lot_of.F.kp T.is_lot_of.b .nil pass0 (pa_cons (pv 0) (pa_cons (pv 1) pa_nil)))
      (pe_one (pe_cmpR op_gt (pe_callB call_len_seq (by rfl) T.b_len boot_len (pa_cons (pv 1) pa_nil)) pe_int (nomark _))))), ?_⟩
    refine ⟨_, rfl, _, rfl, n, v, l, rfl, hv, nd, hx, hl, fun H1 k1 => ⟨true, rfl, ?_⟩⟩
    obtain ⟨a, rfl, hs⟩ := S1.seq (K := K) (hv.mono k1)
    refine ⟨_, rfl, a, _, rfl, hs, _, _, rfl, rfl, q_bl (Q := Q) (decide_eq_true ?_) (q _ k1)⟩
    rw [List.length_map]
    have : 0 < l.length := List.length_pos_iff.mpr ne
    omega
def spAreKinds : Sp := fun vs H Q _ => ∃ (n : Nat) (v : V) (ks : List (List Nat)), vs = [vN n, v] ∧ S2s H v ks ∧ (∀ k ∈ ks, KindOk n k) ∧ ks.length ≤ 8 ∧ ∀ H', Same H H' → Q (.bl true) H'
theorem ok_are_kinds : FnOk P w K mg base CX0 5 T.are_kinds.f T.are_kinds.fd ["shelves", "value"] spAreKinds := by
  refine T.are_kinds.F.ok sc_are_kinds (fun vs H Q E h => ?_) (fun cdv A outer s H vs Q E hr h => ?_)
  · obtain ⟨n, v, ks, rfl, _⟩ := h
    rfl
  · obtain ⟨n, v, ks, rfl, ⟨a, vs, rfl, ha, hp⟩, hk, hl, q⟩ := h
    obtain ⟨t2, e2⟩ := T.mostK
    have hvl := hp.length
    have all_ok : ∀ ys : List V, Paired (fun v d => v = V.bl true) ys ks → ys = (List.replicate ks.length true).map V.bl := fun ys hp => by
      rw [List.map_replicate]
      exact List.eq_replicate_iff.mpr ⟨hp.length, fun b hb => by
        obtain ⟨i, hi⟩ := List.getElem?_of_mem hb
        obtain ⟨_, _, e⟩ := paired_get hp i b hi
        exact e⟩
    rcases ha with ha | ha
    · refine ⟨_, pss_one (ps_ret (pe_and (pe_call (ok_is_list T) (hr.mono (by decide)) (by rfl) T.is_list.g T.is_list.F.kp T.is_list.b .nil pass0 (pa_cons (pv 1) pa_nil))
        (pe_and (pe_cmpR op_le (pe_callB call_len_seq (by rfl) T.b_len boot_len (pa_cons (pv 1) pa_nil)) (pe_glob (v := .int 8) (by rfl) e2 ⟨_, rfl⟩) (nomark _))
        (pe_one (pe_callB (cr_all (by rfl)) (by rfl) T.b_all (by decide +kernel) (pa_cons (pe_lc (own := [("one", 2)]) (g := gName 2) (by rfl) sc_are_kinds.nd (pi_list (pv 1))
            (blkOk_by (own := [("one", 2)]) (N := ["shelves", "value", "one"]) (sc := defScope s_are_kinds) (by decide +kernel)) (fun _ _ _ _ _ => pg_name (i := 2) sc_are_kinds.nd rfl (.inl rfl)) (fun _ _ _ _ _ => pts_nil)
            (fun _ _ _ _ _ => pe_call (ok_is_kind T) (hr.mono (by decide)) (by rfl) T.is_kind.g T.is_kind.F.kp T.is_kind.b .nil pass0 (pa_cons (pv 0) (pa_cons (pv 2) pa_nil)))) pa_nil)))))), ?_⟩
      refine ⟨_, rfl, a, _, rfl, .inl ha, fun H1 k1 => ⟨true, rfl, ?_⟩⟩
      have ha1 := k1 _ _ ha
      refine ⟨_, rfl, a, _, rfl, .inl (SqL.of ha1), _, _, rfl, rfl, true, congrArg V.bl (decide_eq_true (by omega)), ?_⟩
      refine ⟨_, rfl, a, rfl, ⟨_, SqL.of ha1⟩, fun D hD => comp_all ks (runs_list (K := K) (SqL.of ha1)) hvl (by omega) hD (fun d _ v => v = .bl true) (fun _ _ _ _ _ h => h) (fun i x d H' Z hx' hd k z => ?_) (fun H' ys k hy hp => ?_) ⟨2, rfl⟩⟩
      · obtain ⟨d', hd', hL⟩ := paired_get hp i x hx'
        have ed : d' = d := Option.some.inj (hd'.symm.trans hd)
        subst ed
        exact ⟨rfl, _, rfl, _, rfl, n, x, d', rfl, .inl ((hL.mono k1).mono k), hk d' (List.mem_of_getElem? hd), fun H2 k2 => z _ _ k2 rfl⟩
      · have ey := all_ok ys hp
        subst ey
        exact ⟨D, _, rfl, SqL.of hy, q_bl (Q := Q) (List.all_eq_true.mpr fun b hb => (List.mem_replicate.mp hb).2) (q _ (k1.trans k))⟩
    · refine ⟨_, pss_one (ps_ret (pe_and (pe_call (ok_is_list T) (hr.mono (by decide)) (by rfl) T.is_list.g T.is_list.F.kp T.is_list.b .nil pass0 (pa_cons (pv 1) pa_nil))
        (pe_and (pe_cmpR op_le (pe_callB call_len_seq (by rfl) T.b_len boot_len (pa_cons (pv 1) pa_nil)) (pe_glob (v := .int 8) (by rfl) e2 ⟨_, rfl⟩) (nomark _))
        (pe_one (pe_callB (cr_all (by rfl)) (by rfl) T.b_all (by decide +kernel) (pa_cons (pe_lc (own := [("one", 2)]) (g := gName 2) (by rfl) sc_are_kinds.nd (pi_tup (pv 1))
            (blkOk_by (own := [("one", 2)]) (N := ["shelves", "value", "one"]) (sc := defScope s_are_kinds) (by decide +kernel)) (fun _ _ _ _ _ => pg_name (i := 2) sc_are_kinds.nd rfl (.inl rfl)) (fun _ _ _ _ _ => pts_nil)
            (fun _ _ _ _ _ => pe_call (ok_is_kind T) (hr.mono (by decide)) (by rfl) T.is_kind.g T.is_kind.F.kp T.is_kind.b .nil pass0 (pa_cons (pv 0) (pa_cons (pv 2) pa_nil)))) pa_nil)))))), ?_⟩
      refine ⟨_, rfl, a, _, rfl, .inr ha, fun H1 k1 => ⟨true, rfl, ?_⟩⟩
      have ha1 := k1 _ _ ha
      refine ⟨_, rfl, a, _, rfl, .inr (SqT.of ha1), _, _, rfl, rfl, true, congrArg V.bl (decide_eq_true (by omega)), ?_⟩
      refine ⟨_, rfl, a, rfl, ⟨_, SqT.of ha1⟩, fun D hD => comp_all ks (runs_tup (K := K) (SqT.of ha1)) hvl (by omega) hD (fun d _ v => v = .bl true) (fun _ _ _ _ _ h => h) (fun i x d H' Z hx' hd k z => ?_) (fun H' ys k hy hp => ?_) ⟨2, rfl⟩⟩
      · obtain ⟨d', hd', hL⟩ := paired_get hp i x hx'
        have ed : d' = d := Option.some.inj (hd'.symm.trans hd)
        subst ed
        exact ⟨rfl, _, rfl, _, rfl, n, x, d', rfl, .inl ((hL.mono k1).mono k), hk d' (List.mem_of_getElem? hd), fun H2 k2 => z _ _ k2 rfl⟩
      · have ey := all_ok ys hp
        subst ey
        exact ⟨D, _, rfl, SqL.of hy, q_bl (Q := Q) (List.all_eq_true.mpr fun b hb => (List.mem_replicate.mp hb).2) (q _ (k1.trans k))⟩
/-! ### kinds as bits: sorted, each once -/
def spPlain : Sp := fun vs H Q _ => ∃ (a : Addr) (bs : List Nat), vs = [.ref a] ∧ (SqL K H a (vs1 bs) ∨ SqT K H a (vs1 bs)) ∧ bs.length ≤ 50 ∧ (∀ b ∈ bs, b < 256) ∧ ∀ H' v, Same H H' → T1 (Nw H H') v ((canon (bs.map spots)).map bitsN) → Q v H'
theorem ok_plain_kinds : FnOk P w K mg base CX0 3 T.plain_kinds.f T.plain_kinds.fd ["kinds"] (spPlain (K := K)) := by
  refine T.plain_kinds.F.ok sc_plain_kinds (fun vs H Q E h => ?_) (fun cdv A outer s H vs Q E hr h => ?_)
  · obtain ⟨a, bs, rfl, _⟩ := h
    rfl
  · obtain ⟨a, bs, rfl, ha, hl, hb, q⟩ := h
    refine ⟨_, pss_one (ps_ret (pe_callTy call_tuple_of (by rfl) T.b_tuple (by decide +kernel) (pa_cons (pe_lc (own := [("lot", 2)]) (g := gName 2) (by rfl) sc_plain_kinds.nd
      (pi_list (pe_callB (cr_sortRows hr.units) (by rfl) T.b_sorted (by decide +kernel) (pa_cons (pe_lc (own := [("bits", 1)]) (g := gName 1) (by rfl) sc_plain_kinds.nd
        (pi_list (pe_callB (cr_sortedSet (by rfl)) (by rfl) T.b_sorted (by decide +kernel) (pa_cons (pe_callTy (cr_setI (by rfl)) (by rfl) T.b_set (by decide +kernel) (pa_cons (pv 0) pa_nil)) pa_nil)))
        (blkOk_by (own := [("bits", 1)]) (N := ["kinds", "bits", "lot"]) (sc := defScope s_plain_kinds) (by decide +kernel)) (fun _ _ _ _ _ => pg_name (i := 1) sc_plain_kinds.nd rfl (.inl rfl)) (fun _ _ _ _ _ => pts_nil)
        (fun _ _ _ _ _ => pe_call (ok_told_lot T) (hr.mono (by decide)) (by rfl) T.told_lot.g T.told_lot.F.kp T.told_lot.b .nil pass0 (pa_cons (pv 1) pa_nil))) pa_nil)))
      (blkOk_by (own := [("lot", 2)]) (N := ["kinds", "bits", "lot"]) (sc := defScope s_plain_kinds) (by decide +kernel)) (fun _ _ _ _ _ => pg_name (i := 2) sc_plain_kinds.nd rfl (.inl rfl)) (fun _ _ _ _ _ => pts_nil)
      (fun _ _ _ _ _ => pe_call (ok_bits_of T) (hr.mono (by decide)) (by rfl) T.bits_of.g T.bits_of.F.kp T.bits_of.b .nil pass0 (pa_cons (pv 2) pa_nil))) pa_nil))), ?_⟩
    refine ⟨_, rfl, a, cI bs, rfl, by rw [← ints_vs]; exact ha, by rw [List.length_map]; omega, fun p c hp hc => ⟨p, _, c, rfl, upd_same, by rw [List.length_map] at hc; omega, fun ns p2 up hm hn hp2 => ?_⟩⟩
    obtain ⟨bs', rfl, up', hm'⟩ := ints_back up hm
    have s1 : Same H (upd H p (SetO w p (fun j => decide (j ∈ cI bs)) c)) := same_new hp
    have s2 := s1.trans (same_new (o := .lst ((cI bs').map V.int)) hp2)
    have hl' : bs'.length ≤ 50 := by
      rw [List.length_map] at hn hc
      omega
    refine ⟨p2, rfl, ⟨_, SqL.of upd_same⟩, fun D hD => comp_all bs' (runs_list (xs := vs1 bs') (K := K) (SqL.of (by rw [ints_vs]; exact upd_same))) (by simp) (by omega) hD (fun b N v => L1 N v (spots b)) (fun _ _ _ _ k h => h.mono k) (fun i x b H' Z hx hd k z => ?_) (fun H' ys k hy hp => ?_) ⟨1, rfl⟩⟩
    · have ex : x = vN b := by
        rw [List.getElem?_map, hd] at hx
        exact (Option.some.inj hx).symm
      subst ex
      exact ⟨rfl, _, rfl, b, rfl, fun H2 v k2 hv => z _ _ k2 hv⟩
    · have hp' : Paired (L1 H') ys (bs'.map spots) := paired_map (Paired.mono (fun _ _ h => L1.mono h nw_same) hp)
      refine ⟨D, ys, bs'.map spots, L1 H', rfl, SqL.of hy, hp', fun x k h => h.dp, by rw [List.length_map]; omega, fun p3 vs' ks hp3 pm le hPr => ?_⟩
      have ek := plain_canon up' hm' hb pm le
      subst ek
      have s3 := same_new (o := .lst vs') hp3
      refine ⟨p3, rfl, ⟨_, SqL.of upd_same⟩, fun D2 hD2 => comp_all (canon (bs.map spots)) (runs_list (K := K) (SqL.of upd_same)) hPr.length ?_ hD2 (fun k _ v => v = vN (bitsN k)) (fun _ _ _ _ _ h => h) (fun i x k H2 Z hx hd k2 z => ?_) (fun H2 ys2 k2 hy2 hp2 => ?_) ⟨2, rfl⟩⟩
      · have := canon_len (bs.map spots)
        rw [List.length_map] at this
        omega
      · obtain ⟨k', hk', hL⟩ := paired_get hPr i x hx
        have ed : k' = k := Option.some.inj (hk'.symm.trans hd)
        subst ed
        obtain ⟨b, _, eb⟩ := List.mem_map.mp (mem_canon.mp (List.mem_of_getElem? hd))
        subst eb
        refine ⟨rfl, _, rfl, x, spots b, rfl, .inl ((hL.mono s3).mono k2), ?_, fun y hy => by have := spots_in8 b y hy; omega, z _ _ (Same.refl _) rfl⟩
        have : (spots b).length ≤ 8 := by
          unfold spots
          exact Nat.le_trans (List.length_filter_le _ _) (by simp)
        omega
      · have ey : ys2 = vs1 ((canon (bs.map spots)).map bitsN) := by
          refine (paired_fun hp2).trans ?_
          show _ = List.map vN (List.map bitsN _)
          rw [List.map_map]
          rfl
        subst ey
        have kk := s2.trans (k.trans (s3.trans k2))
        exact ⟨D2, _, rfl, .inl ⟨SqL.of hy2, fun l hl => q _ _ (kk.trans (same_new hl)) ⟨l, rfl, nw_get (kk.free hl) upd_same⟩⟩⟩
end
end TA
namespace TA
open PySem PySem.Spec PyProof.Rows L2
/-! ### stores -/
def flds (n : Nat) (tD tS dk : Addr) : List (Str × V) := putF "own_kept" (.ref dk) (putF "own_sales" (.ref tS) (putF "own_deliveries" (.ref tD) (putF "own_shelves" (vN n) [])))
theorem fl12 : ¬ (("own_shelves" : Str) = "own_deliveries") := by decide +kernel
theorem fl13 : ¬ (("own_shelves" : Str) = "own_sales") := by decide +kernel
theorem fl14 : ¬ (("own_shelves" : Str) = "own_kept") := by decide +kernel
theorem fl23 : ¬ (("own_deliveries" : Str) = "own_sales") := by decide +kernel
theorem fl24 : ¬ (("own_deliveries" : Str) = "own_kept") := by decide +kernel
theorem fl34 : ¬ (("own_sales" : Str) = "own_kept") := by decide +kernel
theorem flds_1 (n : Nat) (tD tS dk : Addr) : (flds n tD tS dk).lookup ("own_shelves" : Str) = some (vN n) := by
  unfold flds
  rw [lookup_putF, if_neg fl14, lookup_putF, if_neg fl13, lookup_putF, if_neg fl12, lookup_putF, if_pos rfl]
theorem flds_2 (n : Nat) (tD tS dk : Addr) : (flds n tD tS dk).lookup ("own_deliveries" : Str) = some (.ref tD) := by
  unfold flds
  rw [lookup_putF, if_neg fl24, lookup_putF, if_neg fl23, lookup_putF, if_pos rfl]
theorem flds_3 (n : Nat) (tD tS dk : Addr) : (flds n tD tS dk).lookup ("own_sales" : Str) = some (.ref tS) := by
  unfold flds
  rw [lookup_putF, if_neg fl34, lookup_putF, if_pos rfl]
theorem flds_no (n : Nat) (tD tS dk : Addr) {m : Str} (h1 : ¬ m = "own_shelves") (h2 : ¬ m = "own_deliveries") (h3 : ¬ m = "own_sales") (h4 : ¬ m = "own_kept") : (flds n tD tS dk).lookup m = none := by
  unfold flds
  rw [lookup_putF, if_neg h4, lookup_putF, if_neg h3, lookup_putF, if_neg h2, lookup_putF, if_neg h1]
  rfl
theorem putF_len (f : Str) (v : V) : ∀ fs : List (Str × V), (putF f v fs).length ≤ fs.length + 1
  | [] => Nat.le_refl _
  | (g, x) :: r => by
    unfold putF
    split
    · simp
    · have := putF_len f v r
      simp only [List.length_cons]
      omega
/-- kinds as a store has them -/
def KdsOk (n : Nat) (D : List (List Nat)) : Prop := D.Pairwise (· < ·) ∧ ∀ k ∈ D, k ≠ [] ∧ k.Pairwise (· < ·) ∧ ∀ x ∈ k, x < n
/-- a store stands: n shelves, delivery kinds D, sale kinds S -/
def StoreAt (C : Addr) (H : Hp) (v : V) (n : Nat) (D S : List (List Nat)) : Prop := ∃ a dx tD tS dk, v = .ref a ∧ H a = some (.ins C dx (flds n tD tS dk)) ∧ H tD = some (.tup (vs1 (D.map bitsN))) ∧ H tS = some (.tup (vs1 (S.map bitsN)))
theorem StoreAt.mono {C : Addr} {H H' : Hp} {v : V} {n : Nat} {D S : List (List Nat)} (h : StoreAt C H v n D S) (k : Same H H') : StoreAt C H' v n D S := by
  obtain ⟨a, dx, tD, tS, dk, e, h1, h2, h3⟩ := h
  exact ⟨a, dx, tD, tS, dk, e, k _ _ h1, k _ _ h2, k _ _ h3⟩
theorem told_ok {n : Nat} {ks : List (List Nat)} (hn : n ≤ 8) (h : ∀ k ∈ ks, KindOk n k) : KdsOk n (told ks) := by
  refine ⟨canon_up _, fun k hk => ?_⟩
  obtain ⟨l, hl, rfl⟩ := List.mem_map.mp (mem_canon.mp hk)
  obtain ⟨⟨_, hx, _⟩, ne⟩ := h l hl
  have i8 : In8 l := fun x q => by have := hx x q; omega
  refine ⟨fun e => ?_, norm_up l, fun x q => hx x ((mem_norm i8).mp q)⟩
  obtain ⟨y, hy⟩ := List.exists_mem_of_ne_nil l ne
  have := (mem_norm i8).mpr hy
  rw [e] at this
  cases this
theorem told_len (ks : List (List Nat)) : (told ks).length ≤ ks.length := by
  have := canon_len (ks.map norm)
  rw [List.length_map] at this
  exact this
section
variable {P : Program} {w : World} {K : PySem.W.Frag} {mg : Str → Option Value} {base : Heap} (T : Tx K mg)
def spInit (C : Addr) : Sp := fun vs H Q _ => ∃ (p dx : Addr) (n : Nat) (v u : V) (ds ss : List (List Nat)), vs = [.ref p, vN n, v, u] ∧ H p = some (.ins C dx []) ∧ 2 ≤ n ∧ n ≤ 8 ∧ S2s (hid p H) v ds ∧ S2s (hid p H) u ss ∧
  (∀ k ∈ ds, KindOk n k) ∧ (∀ k ∈ ss, KindOk n k) ∧ ds.length ≤ 8 ∧ ss.length ≤ 8 ∧ ∀ H', Same (hid p H) (hid p H') → StoreAt C H' (.ref p) n (told ds) (told ss) → Q .non H'
theorem ok_init : FnOk P w K mg base CX0 6 T.fI T.fdI ["self", "shelves", "deliveries", "sales"] (spInit T.C) := by
  refine T.FI.ok sc_Stinit (fun vs H Q E h => ?_) (fun cdv A outer s H vs Q E hr h => ?_)
  · obtain ⟨p, dx, n, v, u, ds, ss, rfl, _⟩ := h
    rfl
  · obtain ⟨p, dx, n, v, u, ds, ss, rfl, hp, h2, h8, hv, hu, kd, ks, ld, ls, q⟩ := h
    refine ⟨_, pss_cons (ps_expr (pe_call (ok_want_shelves T) (hr.mono (by decide)) (by rfl) T.want_shelves.g T.want_shelves.F.kp T.want_shelves.b .nil pass0 (pa_cons (pv 1) pa_nil)))
      (pss_cons (ps_if (pt_not (pt_val (pe_call (ok_are_kinds T) (hr.mono (by decide)) (by rfl) T.are_kinds.g T.are_kinds.F.kp T.are_kinds.b .nil pass0 (pa_cons (pv 1) (pa_cons (pv 2) pa_nil))))) (pss_one ps_never) pss_nil)
      (pss_cons (ps_if (pt_not (pt_val (pe_call (ok_are_kinds T) (hr.mono (by decide)) (by rfl) T.are_kinds.g T.are_kinds.F.kp T.are_kinds.b .nil pass0 (pa_cons (pv 1) (pa_cons (pv 3) pa_nil))))) (pss_one ps_never) pss_nil)
      (pss_cons (ps_fld (pv 0) (pv 1) rfl)
      (pss_cons (ps_fld (pv 0) (pe_call (ok_plain_kinds T) (hr.mono (by decide)) (by rfl) T.plain_kinds.g T.plain_kinds.F.kp T.plain_kinds.b .nil pass0 (pa_cons (pe_lc (own := [("kind", 4)]) (g := gName 4) (by rfl) sc_Stinit.nd (pi_seq (pv 2))
          (blkOk_by (own := [("kind", 4)]) (N := ["self", "shelves", "deliveries", "sales", "kind"]) (sc := defScope s_Stinit) (by decide +kernel)) (fun _ _ _ _ _ => pg_name (i := 4) sc_Stinit.nd rfl (.inl rfl)) (fun _ _ _ _ _ => pts_nil)
          (fun _ _ _ _ _ => pe_call (ok_bits_of T) (hr.mono (by decide)) (by rfl) T.bits_of.g T.bits_of.F.kp T.bits_of.b .nil pass0 (pa_cons (pv 4) pa_nil))) pa_nil)) rfl)
      (pss_cons (ps_fld (pv 0) (pe_call (ok_plain_kinds T) (hr.mono (by decide)) (by rfl) T.plain_kinds.g T.plain_kinds.F.kp T.plain_kinds.b .nil pass0 (pa_cons (pe_lc (own := [("kind", 4)]) (g := gName 4) (by rfl) sc_Stinit.nd (pi_seq (pv 3))
          (blkOk_by (own := [("kind", 4)]) (N := ["self", "shelves", "deliveries", "sales", "kind"]) (sc := defScope s_Stinit) (by decide +kernel)) (fun _ _ _ _ _ => pg_name (i := 4) sc_Stinit.nd rfl (.inl rfl)) (fun _ _ _ _ _ => pts_nil)
          (fun _ _ _ _ _ => pe_call (ok_bits_of T) (hr.mono (by decide)) (by rfl) T.bits_of.g T.bits_of.F.kp T.bits_of.b .nil pass0 (pa_cons (pv 4) pa_nil))) pa_nil)) rfl)
      (pss_one (ps_fld (pv 0) pe_dnewK rfl))))))), ?_⟩
    refine ⟨_, rfl, n, rfl, h2, h8, ?_⟩
    refine ⟨_, rfl, _, rfl, n, v, ds, rfl, hv.mono hid_same, kd, ld, fun H1 k1 => ⟨true, rfl, iteF ?_⟩⟩
    refine ⟨_, rfl, _, rfl, n, u, ss, rfl, (hu.mono hid_same).mono k1, ks, ls, fun H2 k2 => ⟨true, rfl, iteF ?_⟩⟩
    have hp2 := k2 _ _ (k1 _ _ hp)
    have g2 : Same (hid p H) (hid p H2) := hid_mono (k1.trans k2)
    refine ⟨_, rfl, _, rfl, p, T.C, dx, [], rfl, hp2, T.cl, T.n1, (by show 0 < 1000; decide), ?_⟩
    -- the lists of bits
    have bits : ∀ (ks : List (List Nat)) (vs : List V) (J : It) (Hx : Hp) (D : Addr) (σ : L2.St) (Qd : Hp → Prop), Runs J vs Hx → Hx D = none → Paired (L1 (hid p Hx)) vs ks → (∀ k ∈ ks, KindOk n k) → ks.length ≤ 8 → σ.length = 5 → σ[4]? = some none →
        (∀ H' , Same Hx H' → H' D = some (.lst (vs1 (ks.map bitsN))) → Qd H') → ∃ W : Nat → Nat → Hp → Prop, (∃ m, W 0 m (upd Hx D (.lst []))) ∧ ∀ i m H, W i m H →
      (J.stop i H ∧ Qd H) ∨ (J.go i H ∧ ∃ Nx : Hp → Prop, (∀ H', Nx H' → ∃ m', m' < m ∧ W (i + 1) m' H') ∧ ∀ x H', J.yld i H x H' → gName 4 x (wipe σ [4]) H' fun σ2 H2 => wipe σ2 [4] = wipe σ [4] ∧ tYes σ2 H2 fun b H3 =>
        if b = true then tCall spBitsOf [] E0 (tCons (tVar 4) tNil) σ2 H3 fun y H4 => ∃ acc, H4 D = some (.lst acc) ∧ acc.length < sizeLine ∧ Nx (upd H4 D (.lst (acc ++ [y]))) else Nx H3) := by
      intro ks vs J Hx D σ Qd hJ hD hpr hk hl hσ h4 hq
      refine comp_all ks hJ hpr.length (by omega) hD (fun k _ v => v = vN (bitsN k)) (fun _ _ _ _ _ h => h) (fun i x k H' Z hx hd kk z => ?_) (fun H' ys kk hy hys => ?_) ⟨4, rfl⟩
      · obtain ⟨k', hk', hL⟩ := paired_get hpr i x hx
        have ed : k' = k := Option.some.inj (hk'.symm.trans hd)
        subst ed
        obtain ⟨⟨_, hlt, hle⟩, _⟩ := hk k' (List.mem_of_getElem? hd)
        refine ⟨?_, x, ?_, x, k', rfl, .inl ((hL.mono hid_same).mono kk), by omega, fun y hy => by have := hlt y hy; omega, z _ _ (Same.refl _) rfl⟩
        · show ((σ.set 4 none).set 4 (some x)).set 4 none = σ.set 4 none
          rw [List.set_set, List.set_set]
        · show ((σ.set 4 none).set 4 (some x))[4]? = some (some x)
          rw [List.set_set, List.getElem?_set_self (by omega)]
      · refine hq H' kk ?_
        have ey : ys = vs1 (ks.map bitsN) := by
          refine (paired_fun hys).trans ?_
          show _ = List.map vN (List.map bitsN _)
          rw [List.map_map]
          rfl
        rw [← ey]
        exact hy
    have small : ∀ {ks : List (List Nat)}, (∀ k ∈ ks, KindOk n k) → ∀ b ∈ ks.map bitsN, b < 256 := fun hk b hb => by
      obtain ⟨k, h, rfl⟩ := List.mem_map.mp hb
      exact bits_lt fun x hx => by have := (hk k h).1.2.1 x hx; omega
    have ecan : ∀ ks : List (List Nat), canon ((ks.map bitsN).map spots) = told ks := fun ks => by
      rw [List.map_map]
      rfl
    obtain ⟨Ha, ea⟩ : ∃ Ha, Ha = upd H2 p (.ins T.C dx (putF "own_shelves" (vN n) [])) := ⟨_, rfl⟩
    have hpa : Ha p = some (.ins T.C dx (putF "own_shelves" (vN n) [])) := by rw [ea]; exact upd_same
    have ga : Same (hid p H) (hid p Ha) := by rw [ea]; exact g2.trans hid_upd
    rw [← ea]
    clear ea
    obtain ⟨a, vs, rfl, hor, hpr⟩ := hv.mono ga
    refine ⟨_, rfl, a, vs, rfl, hor.imp (fun h => SqL.of (hid_same _ _ h)) (fun h => SqT.of (hid_same _ _ h)), fun J hJ D hD => bits ds vs J Ha D _ _ hJ hD hpr kd ld rfl rfl fun H3 k3 hy => ?_⟩
    refine ⟨D, ds.map bitsN, rfl, .inl (SqL.of hy), by rw [List.length_map]; omega, small kd, fun H4 v4 k4 hT => ?_⟩
    obtain ⟨tD, rfl, htD⟩ := hT
    have htD4 := (of_nw htD).2
    rw [ecan] at htD4
    have ne1 : tD ≠ p := (ne_of_none (k3 _ _ hpa) (of_nw htD).1).symm
    have hp4 := k4 _ _ (k3 _ _ hpa)
    have g4 : Same (hid p H) (hid p H4) := ga.trans (hid_mono (k3.trans k4))
    refine ⟨_, rfl, p, T.C, dx, _, rfl, hp4, T.cl, T.n2, Nat.lt_of_le_of_lt (putF_len _ _ _) (by decide), ?_⟩
    obtain ⟨Hb, eb⟩ : ∃ Hb, Hb = upd H4 p (.ins T.C dx (putF "own_deliveries" (.ref tD) (putF "own_shelves" (vN n) []))) := ⟨_, rfl⟩
    have hpb : Hb p = some (.ins T.C dx (putF "own_deliveries" (.ref tD) (putF "own_shelves" (vN n) []))) := by rw [eb]; exact upd_same
    have gb : Same (hid p H) (hid p Hb) := by rw [eb]; exact g4.trans hid_upd
    have htDb : Hb tD = some (.tup (vs1 ((told ds).map bitsN))) := by rw [eb, upd_ne ne1]; exact htD4
    rw [← eb]
    clear eb
    obtain ⟨a2, vs2, rfl, hor2, hpr2⟩ := hu.mono gb
    refine ⟨_, rfl, a2, vs2, rfl, hor2.imp (fun h => SqL.of (hid_same _ _ h)) (fun h => SqT.of (hid_same _ _ h)), fun J hJ D hD => bits ss vs2 J Hb D _ _ hJ hD hpr2 ks ls rfl rfl fun H5 k5 hy => ?_⟩
    refine ⟨D, ss.map bitsN, rfl, .inl (SqL.of hy), by rw [List.length_map]; omega, small ks, fun H6 v6 k6 hT => ?_⟩
    obtain ⟨tS, rfl, htS⟩ := hT
    have htS6 := (of_nw htS).2
    rw [ecan] at htS6
    have ne2 : tS ≠ p := (ne_of_none (k5 _ _ hpb) (of_nw htS).1).symm
    have hp6 := k6 _ _ (k5 _ _ hpb)
    have htD6 := k6 _ _ (k5 _ _ htDb)
    have g6 : Same (hid p H) (hid p H6) := gb.trans (hid_mono (k5.trans k6))
    have few : (putF "own_deliveries" (V.ref tD) (putF "own_shelves" (vN n) [])).length ≤ 2 := Nat.le_trans (putF_len _ _ _) (Nat.succ_le_succ (putF_len _ _ _))
    refine ⟨_, rfl, p, T.C, dx, _, rfl, hp6, T.cl, T.n3, Nat.lt_of_le_of_lt few (by decide), ?_⟩
    intro dk hdk
    have ne3 : p ≠ dk := fun e => by
      rw [← e, upd_same] at hdk
      cases hdk
    refine ⟨_, rfl, p, T.C, dx, putF "own_sales" (.ref tS) (putF "own_deliveries" (.ref tD) (putF "own_shelves" (vN n) [])), rfl, by rw [upd_ne ne3]; exact upd_same, T.cl, T.n4, Nat.lt_of_le_of_lt (Nat.le_trans (putF_len _ _ _) (Nat.succ_le_succ few)) (by decide), ?_⟩
    have hdk6 : H6 dk = none := by
      rw [upd_ne ne3.symm] at hdk
      exact hdk
    have nd : tD ≠ dk := ne_of_none htD6 hdk6
    have ns : tS ≠ dk := ne_of_none htS6 hdk6
    refine q _ (fun b o hb => ?_) ⟨p, dx, tD, tS, dk, rfl, upd_same, by rw [upd_ne ne1, upd_ne nd, upd_ne ne1]; exact htD6, by rw [upd_ne ne2, upd_ne ns, upd_ne ne2]; exact htS6⟩
    obtain ⟨nb, hb6⟩ := of_hid (g6 b o hb)
    exact hid_get (by rw [upd_ne nb, upd_ne (ne_of_none hb6 hdk6), upd_ne nb]; exact hb6) nb
end
end TA
namespace TA
open PySem PySem.Spec PyProof.Rows L2
theorem KdsOk.in8 {n : Nat} {D : List (List Nat)} (h : KdsOk n D) (hn : n ≤ 8) : ∀ k ∈ D, In8 k := fun k hk x hx => by have := (h.2 k hk).2.2 x hx; omega
theorem KdsOk.norm {n : Nat} {D : List (List Nat)} (h : KdsOk n D) (hn : n ≤ 8) : ∀ k ∈ D, spots (bitsN k) = k := fun k hk => norm_of_up (h.in8 hn k hk) (h.2 k hk).2.1
theorem map_same {α : Type} {f : α → α} : ∀ l : List α, (∀ k ∈ l, f k = k) → l.map f = l
  | [], _ => rfl
  | a :: r, h => by rw [List.map_cons, h a List.mem_cons_self, map_same r fun k hk => h k (List.mem_cons_of_mem _ hk)]
theorem KdsOk.back {n : Nat} {D : List (List Nat)} (h : KdsOk n D) (hn : n ≤ 8) : (D.map bitsN).map spots = D := by
  rw [List.map_map]
  exact map_same D (h.norm hn)
theorem KdsOk.inj {n m : Nat} {D D' : List (List Nat)} (h : KdsOk n D) (h' : KdsOk m D') (hn : n ≤ 8) (hm : m ≤ 8) : D.map bitsN = D'.map bitsN ↔ D = D' := by
  constructor
  · intro e
    rw [← h.back hn, ← h'.back hm, e]
  · intro e
    rw [e]
theorem nw_start {H H' : Hp} {D : Addr} {o : HO} (hD : H D = none) : Same (Nw (upd H D o) H') (Nw H H') := nw_back (same_new hD)
theorem paired_mono2 {F G : V → List Nat → Prop} {vs : List V} {ks : List (List Nat)} (h : Paired F vs ks) (k : ∀ v l, F v l → G v l) : Paired G vs ks := Paired.mono (fun v l q => k v l q) h
section
variable {P : Program} {w : World} {K : PySem.W.Frag} {mg : Str → Option Value} {base : Heap} (T : Tx K mg)
/-- told: a new list of new lists -/
theorem tell_comp {K : PySem.W.Frag} {n : Nat} {Ds : List (List Nat)} {H H1 : Hp} {J : It} {D : Addr} {σ : L2.St} {i : Nat} {Qd : Hp → Prop} (hk : Same H H1) (hJ : Runs J (vs1 (Ds.map bitsN)) H1) (hD : H1 D = none) (hd : ∀ k ∈ Ds, spots (bitsN k) = k) (hl : Ds.length ≤ 100)
    (hw : ∀ x, wipe ((wipe σ [i]).set i (some x)) [i] = wipe σ [i]) (hs : ∀ x, ((wipe σ [i]).set i (some x))[i]? = some (some x)) (q : ∀ H', Same H H' → L2s (Nw H H') (.ref D) Ds → Qd H') :
    ∃ W : Nat → Nat → Hp → Prop, (∃ m, W 0 m (upd H1 D (.lst []))) ∧ ∀ j m H, W j m H →
      (J.stop j H ∧ Qd H) ∨ (J.go j H ∧ ∃ Nx : Hp → Prop, (∀ H', Nx H' → ∃ m', m' < m ∧ W (j + 1) m' H') ∧ ∀ x H', J.yld j H x H' → gName i x (wipe σ [i]) H' fun σ2 H2 => wipe σ2 [i] = wipe σ [i] ∧ tYes σ2 H2 fun b H3 =>
        if b = true then tCall spToldLot [] E0 (tCons (tVar i) tNil) σ2 H3 fun y H4 => ∃ acc, H4 D = some (.lst acc) ∧ acc.length < sizeLine ∧ Nx (upd H4 D (.lst (acc ++ [y]))) else Nx H3) := by
  refine comp_all Ds hJ (by simp) (by omega) hD (fun k N v => L1 N v k) (fun _ _ _ _ k h => h.mono k) (fun j x k H' Z hx hdd kk z => ?_) (fun H' ys kk hy hys => ?_) ⟨i, rfl⟩
  · have ex : x = vN (bitsN k) := by
      rw [List.getElem?_map, List.getElem?_map, hdd] at hx
      exact (Option.some.inj hx).symm
    subst ex
    refine ⟨hw _, _, hs _, bitsN k, rfl, fun H2 v k2 hv => z _ _ k2 ?_⟩
    rw [hd k (List.mem_of_getElem? hdd)] at hv
    exact hv
  · exact q _ (hk.trans kk) ⟨D, ys, rfl, nw_get (hk.free hD) hy, Paired.mono (fun v l h => L1.mono h ((nw_start hD).trans (nw_back hk))) hys⟩
def spTell (C : Addr) (pick : List (List Nat) → List (List Nat) → List (List Nat)) : Sp := fun vs H Q _ => ∃ (v : V) (n : Nat) (D S : List (List Nat)), vs = [v] ∧ StoreAt C H v n D S ∧ n ≤ 8 ∧ KdsOk n (pick D S) ∧ (pick D S).length ≤ 100 ∧
  ∀ H' v', Same H H' → L2s (Nw H H') v' (pick D S) → Q v' H'
theorem ok_deliveries : FnOk P w K mg base CX0 3 T.fD T.fdD ["self"] (spTell T.C fun D _ => D) := by
  refine T.FD.ok sc_Stdeliveries (fun vs H Q E h => ?_) (fun cdv A outer s H vs Q E hr h => ?_)
  · obtain ⟨v, n, D, S, rfl, _⟩ := h
    rfl
  · obtain ⟨v, n, D, S, rfl, ⟨a, dx, tD, tS, dk, rfl, ha, hd, hs⟩, hn, ok, hl, q⟩ := h
    refine ⟨_, pss_one (ps_ret (pe_lc (own := [("kind", 1)]) (g := gName 1) (by rfl) sc_Stdeliveries.nd (pi_seq (pe_fld (pv 0) rfl))
      (blkOk_by (own := [("kind", 1)]) (N := ["self", "kind"]) (sc := defScope s_Stdeliveries) (by decide +kernel)) (fun _ _ _ _ _ => pg_name (i := 1) sc_Stdeliveries.nd rfl (.inl rfl)) (fun _ _ _ _ _ => pts_nil)
      (fun _ _ _ _ _ => pe_call (ok_told_lot T) (hr.mono (by decide)) (by rfl) T.told_lot.g T.told_lot.F.kp T.told_lot.b .nil pass0 (pa_cons (pv 1) pa_nil)))), ?_⟩
    exact ⟨_, rfl, a, T.C, dx, _, _, rfl, ha, T.cl, T.n2, flds_2 _ _ _ _, tD, _, rfl, .inr (SqT.of hd), fun J hJ D0 hD0 => tell_comp (K := K) (n := n) (Same.refl H) hJ hD0 (ok.norm hn) hl (fun _ => rfl) (fun _ => rfl) fun H' k h => q H' _ k h⟩
theorem ok_sales : FnOk P w K mg base CX0 3 T.fS T.fdS ["self"] (spTell T.C fun _ S => S) := by
  refine T.FS.ok sc_Stsales (fun vs H Q E h => ?_) (fun cdv A outer s H vs Q E hr h => ?_)
  · obtain ⟨v, n, D, S, rfl, _⟩ := h
    rfl
  · obtain ⟨v, n, D, S, rfl, ⟨a, dx, tD, tS, dk, rfl, ha, hd, hs⟩, hn, ok, hl, q⟩ := h
    refine ⟨_, pss_one (ps_ret (pe_lc (own := [("kind", 1)]) (g := gName 1) (by rfl) sc_Stsales.nd (pi_seq (pe_fld (pv 0) rfl))
      (blkOk_by (own := [("kind", 1)]) (N := ["self", "kind"]) (sc := defScope s_Stsales) (by decide +kernel)) (fun _ _ _ _ _ => pg_name (i := 1) sc_Stsales.nd rfl (.inl rfl)) (fun _ _ _ _ _ => pts_nil)
      (fun _ _ _ _ _ => pe_call (ok_told_lot T) (hr.mono (by decide)) (by rfl) T.told_lot.g T.told_lot.F.kp T.told_lot.b .nil pass0 (pa_cons (pv 1) pa_nil)))), ?_⟩
    exact ⟨_, rfl, a, T.C, dx, _, _, rfl, ha, T.cl, T.n3, flds_3 _ _ _ _, tS, _, rfl, .inr (SqT.of hs), fun J hJ D0 hD0 => tell_comp (K := K) (n := n) (Same.refl H) hJ hD0 (ok.norm hn) hl (fun _ => rfl) (fun _ => rfl) fun H' k h => q H' _ k h⟩
def spShelves (C : Addr) : Sp := fun vs H Q _ => ∃ (v : V) (n : Nat) (D S : List (List Nat)), vs = [v] ∧ StoreAt C H v n D S ∧ Q (vN n) H
theorem ok_shelves : FnOk P w K mg base CX0 1 T.fP T.fdP ["self"] (spShelves T.C) := by
  refine T.FP.ok sc_Stshelves (fun vs H Q E h => ?_) (fun cdv A outer s H vs Q E hr h => ?_)
  · obtain ⟨v, n, D, S, rfl, _⟩ := h
    rfl
  · obtain ⟨v, n, D, S, rfl, ⟨a, dx, tD, tS, dk, rfl, ha, hd, hs⟩, q⟩ := h
    refine ⟨_, pss_one (ps_ret (pe_fld (pv 0) rfl)), ?_⟩
    exact ⟨_, rfl, a, T.C, dx, _, _, rfl, ha, T.cl, T.n1, flds_1 _ _ _ _, q⟩
def spEqS (C : Addr) : Sp := fun vs H Q _ => ∃ (v u : V) (n : Nat) (D S : List (List Nat)), vs = [v, u] ∧ StoreAt C H v n D S ∧ n ≤ 8 ∧ KdsOk n D ∧ KdsOk n S ∧
  ((∃ (m : Nat) (D' S' : List (List Nat)), StoreAt C H u m D' S' ∧ m ≤ 8 ∧ KdsOk m D' ∧ KdsOk m S' ∧ Q (.bl (decide (n = m ∧ D = D' ∧ S = S'))) H) ∨ (∃ b xs, u = .ref b ∧ H b = some (.tup xs) ∧ Q (.bl false) H))
theorem ok_eq : FnOk P w K mg base CX0 1 T.fE T.fdE ["self", "other"] (spEqS T.C) := by
  refine T.FE.ok sc_Steq (fun vs H Q E h => ?_) (fun cdv A outer s H vs Q E hr h => ?_)
  · obtain ⟨v, u, n, D, S, rfl, _⟩ := h
    rfl
  · obtain ⟨v, u, n, D, S, rfl, ⟨a, dx, tD, tS, dk, rfl, ha, hd, hs⟩, hn, okD, okS, q⟩ := h
    refine ⟨_, pss_cons (ps_if (PW.pt (pw_or (pt_not (pt_val (pe_callB call_isi (by rfl) T.b_isinstance (by decide +kernel) (pa_cons (pv 1) (pa_cons (pe_glob (v := .ref T.C) (by rfl) T.gC rfl) pa_nil)))))
        (pw_or1 (pt_cmpR op_ne (pe_fld (pv 0) rfl) (pe_fld (pv 1) rfl) (nomark _))))) (pss_one (ps_ret pe_bl)) pss_nil)
      (pss_one (ps_ret (pe_and (pe_cmpR (op_eqD hr.units) (pe_fld (pv 0) rfl) (pe_fld (pv 1) rfl) (nomark _)) (pe_one (pe_cmpR (op_eqD hr.units) (pe_fld (pv 0) rfl) (pe_fld (pv 1) rfl) (nomark _)))))), ?_⟩
    rcases q with ⟨m, D', S', ⟨b, dy, uD, uS, ek, rfl, hb, hd', hs'⟩, hm, okD', okS', q⟩ | ⟨b, xs, rfl, hb, q⟩
    · refine ⟨_, rfl, .ref b, .ref T.C, .ref T.C, .ref T.C, true, rfl, .own _, .base (.ins hb T.cl T.hc1 T.hc2 T.hc3 T.hc4), T.io, true, rfl, iteF ?_⟩
      refine ⟨_, rfl, a, T.C, dx, _, _, rfl, ha, T.cl, T.n1, flds_1 _ _ _ _, _, rfl, b, T.C, dy, _, _, rfl, hb, T.cl, T.n1, flds_1 _ _ _ _, rfl, _, rfl, ?_⟩
      by_cases e : n = m
      · subst e
        refine iteNS rfl ?_
        refine ⟨_, rfl, a, T.C, dx, _, _, rfl, ha, T.cl, T.n2, flds_2 _ _ _ _, _, rfl, b, T.C, dy, _, _, rfl, hb, T.cl, T.n2, flds_2 _ _ _ _, dT _, dT _, T1.dp ⟨tD, rfl, hd⟩, T1.dp ⟨uD, rfl, hd'⟩, shaped_tup _, shaped_tup _, _, rfl, ?_⟩
        rw [eqv_tup, decide_eq_decide.mpr (okD.inj okD' hn hm)]
        refine ite2 (fun e1 => ?_) (fun e1 => ?_)
        · have e2 := of_decide_eq_true e1
          subst e2
          refine ⟨_, rfl, a, T.C, dx, _, _, rfl, ha, T.cl, T.n3, flds_3 _ _ _ _, _, rfl, b, T.C, dy, _, _, rfl, hb, T.cl, T.n3, flds_3 _ _ _ _, dT _, dT _, T1.dp ⟨tS, rfl, hs⟩, T1.dp ⟨uS, rfl, hs'⟩, shaped_tup _, shaped_tup _, ?_⟩
          refine q_bl (Q := Q) ?_ q
          rw [eqv_tup]
          refine decide_eq_decide.mpr ?_
          rw [okS.inj okS' hn hm]
          simp
        · refine q_bl (Q := Q) ?_ q
          have e2 : ¬ D = D' := fun z => e1 (decide_eq_true z)
          exact (decide_eq_false fun z => e2 z.2.1).symm
      · have e1 : decide (vN n = vN m) = false := decide_eq_false fun z => e (by injection z with z; omega)
        rw [e1]
        refine iteT ?_
        exact q_bl (Q := Q) (decide_eq_false fun z => e z.1).symm q
    · refine ⟨_, rfl, .ref b, .ref T.C, .type "tuple", .ref T.C, false, rfl, .own _, .base (.tup hb), T.it, false, rfl, iteT q⟩
end
end TA
namespace TA
open PySem PySem.Spec PyProof.Rows L2
theorem KdsOk.canon {n : Nat} {D : List (List Nat)} (h : KdsOk n D) : TA.canon D = D := canon_of_up h.1
theorem told_of_ok {n : Nat} {D : List (List Nat)} (h : KdsOk n D) (hn : n ≤ 8) : told D = D := by
  unfold told
  rw [map_same D fun k hk => norm_of_up (h.in8 hn k hk) (h.2 k hk).2.1]
  exact h.canon
theorem len_in8 {k : List Nat} (nd : k.Nodup) (h : In8 k) : k.length ≤ 8 := by
  have p : k.Perm (norm k) := (List.perm_ext_iff_of_nodup nd (nodup_lt (norm_up k))).mpr fun x => (mem_norm h).symm
  rw [p.length_eq]
  exact Nat.le_trans (List.length_filter_le _ _) (by simp)
theorem KdsOk.kind {n : Nat} {D : List (List Nat)} (h : KdsOk n D) (hn : n ≤ 8) : ∀ k ∈ D, KindOk n k := fun k hk => by
  obtain ⟨ne, up, hx⟩ := h.2 k hk
  have := len_in8 (nodup_lt up) (h.in8 hn k hk)
  exact ⟨⟨nodup_lt up, hx, by omega⟩, ne⟩
/-- bits of kinds -/
def BitsOk (n : Nat) (bs : List Nat) : Prop := ∀ b ∈ bs, b < 256 ∧ KindOk n (spots b)
theorem BitsOk.ok {n : Nat} {bs : List Nat} (h : BitsOk n bs) : KdsOk n (canon (bs.map spots)) := by
  refine ⟨canon_up _, fun k hk => ?_⟩
  obtain ⟨b, hb, rfl⟩ := List.mem_map.mp (mem_canon.mp hk)
  obtain ⟨_, ⟨_, hx, _⟩, ne⟩ := h b hb
  exact ⟨ne, spots_up b, hx⟩
theorem KdsOk.bits {n : Nat} {D : List (List Nat)} (h : KdsOk n D) (hn : n ≤ 8) : BitsOk n (D.map bitsN) := fun b hb => by
  obtain ⟨k, hk, rfl⟩ := List.mem_map.mp hb
  refine ⟨bits_lt (h.in8 hn k hk), ?_⟩
  rw [h.norm hn k hk]
  exact h.kind hn k hk
theorem max_le {a b c : Nat} (ha : a ≤ c) (hb : b ≤ c) : (if (b : Int) > (a : Int) then (b : Int) else (a : Int)) ≤ (c : Int) := by
  split <;> omega
section
variable {P : Program} {w : World} {K : PySem.W.Frag} {mg : Str → Option Value} {base : Heap} (T : Tx K mg)
def spMade : Sp := fun vs H Q _ => ∃ (n : Nat) (a b : Addr) (bs cs : List Nat), vs = [vN n, .ref a, .ref b] ∧ 2 ≤ n ∧ n ≤ 8 ∧ (SqL K H a (vs1 bs) ∨ SqT K H a (vs1 bs)) ∧ (SqL K H b (vs1 cs) ∨ SqT K H b (vs1 cs)) ∧ bs.length ≤ 50 ∧ cs.length ≤ 50 ∧
  BitsOk n bs ∧ BitsOk n cs ∧ (canon (bs.map spots)).length ≤ 8 ∧ (canon (cs.map spots)).length ≤ 8 ∧ ∀ H' r, Same H H' → StoreAt T.C H' r n (canon (bs.map spots)) (canon (cs.map spots)) → Q r H'
theorem ok_made : FnOk P w K mg base CX0 8 T.made.f T.made.fd ["shelves", "deliveries", "sales"] (spMade T) := by
  refine T.made.F.ok sc_made (fun vs H Q E h => ?_) (fun cdv A outer s H vs Q E hr h => ?_)
  · obtain ⟨n, a, b, bs, cs, rfl, _⟩ := h
    rfl
  · obtain ⟨n, a, b, bs, cs, rfl, h2, h8, ha, hb, la, lb, oa, ob, ca, cb, q⟩ := h
    obtain ⟨t2, e2⟩ := T.mostK
    refine ⟨_, pss_cons (ps_par (i := 3) (j := 4) (by rfl) sc_made.nd rfl rfl (by decide) rfl rfl (pa_cons (pe_call (ok_plain_kinds T) (hr.mono (by decide)) (by rfl) T.plain_kinds.g T.plain_kinds.F.kp T.plain_kinds.b .nil pass0 (pa_cons (pv 1) pa_nil))
        (pa_cons (pe_call (ok_plain_kinds T) (hr.mono (by decide)) (by rfl) T.plain_kinds.g T.plain_kinds.F.kp T.plain_kinds.b .nil pass0 (pa_cons (pv 2) pa_nil)) pa_nil)) (by rfl))
      (pss_cons (ps_expr (pe_call (ok_want_at_most T) (hr.mono (by decide)) (by rfl) T.want_at_most.g T.want_at_most.F.kp T.want_at_most.b .nil pass0 (pa_cons pe_str (pa_cons (pe_glob (v := .int 8) (by rfl) e2 ⟨_, rfl⟩)
        (pa_cons (pe_callB (call_max2 (by rfl)) (by rfl) T.b_max (by decide +kernel) (pa_cons (pe_callB call_len_seq (by rfl) T.b_len boot_len (pa_cons (pv 3) pa_nil)) (pa_cons (pe_callB call_len_seq (by rfl) T.b_len boot_len (pa_cons (pv 4) pa_nil)) pa_nil))) pa_nil)))))
      (pss_one (ps_ret (pe_make T.MI (ok_init T) (hr.mono (by decide)) (by rfl) T.gC T.bI .nil pass0 (pa_cons (pv 0)
        (pa_cons (pe_lc (own := [("kind", 5)]) (g := gName 5) (by rfl) sc_made.nd (pi_seq (pv 3))
          (blkOk_by (own := [("kind", 5)]) (N := ["shelves", "deliveries", "sales", "near", "far", "kind"]) (sc := defScope s_made) (by decide +kernel)) (fun _ _ _ _ _ => pg_name (i := 5) sc_made.nd rfl (.inl rfl)) (fun _ _ _ _ _ => pts_nil)
          (fun _ _ _ _ _ => pe_call (ok_told_lot T) (hr.mono (by decide)) (by rfl) T.told_lot.g T.told_lot.F.kp T.told_lot.b .nil pass0 (pa_cons (pv 5) pa_nil)))
        (pa_cons (pe_lc (own := [("kind", 5)]) (g := gName 5) (by rfl) sc_made.nd (pi_seq (pv 4))
          (blkOk_by (own := [("kind", 5)]) (N := ["shelves", "deliveries", "sales", "near", "far", "kind"]) (sc := defScope s_made) (by decide +kernel)) (fun _ _ _ _ _ => pg_name (i := 5) sc_made.nd rfl (.inl rfl)) (fun _ _ _ _ _ => pts_nil)
          (fun _ _ _ _ _ => pe_call (ok_told_lot T) (hr.mono (by decide)) (by rfl) T.told_lot.g T.told_lot.F.kp T.told_lot.b .nil pass0 (pa_cons (pv 5) pa_nil))) pa_nil))))))), ?_⟩
    refine ⟨_, rfl, a, bs, rfl, ha, la, fun b hb => (oa b hb).1, fun H1 v1 k1 hv1 => ?_⟩
    refine ⟨_, rfl, b, cs, rfl, hb.imp k1.seq (same_tup k1), lb, fun b hb => (ob b hb).1, fun H2 v2 k2 hv2 => ⟨_, _, rfl, ?_⟩⟩
    have o1 := oa.ok
    have o2 := ob.ok
    obtain ⟨tD, rfl, hD1⟩ := hv1
    obtain ⟨tS, rfl, hS⟩ := hv2
    have hD := k2 _ _ (of_nw hD1).2
    have hS := (of_nw hS).2
    -- the limit
    refine ⟨_, rfl, tD, _, rfl, .inr (SqT.of hD), _, rfl, tS, _, rfl, .inr (SqT.of hS), _, _, rfl, .str "kinds", 8, _, rfl, ?_, ?_⟩
    · rw [List.length_map, List.length_map, List.length_map, List.length_map]
      exact max_le (c := 8) ca cb
    -- the store
    refine ⟨_, rfl, _, rfl, tD, _, rfl, .inr (SqT.of hD), fun J hJ D0 hD0 => tell_comp (K := K) (n := n) (Same.refl H2) hJ hD0 (o1.norm h8) (by omega) (fun _ => rfl) (fun _ => rfl) fun H3 k3 hv3 => ?_⟩
    refine ⟨_, rfl, tS, _, rfl, .inr (SqT.of (k3 _ _ hS)), fun J hJ D1 hD1 => tell_comp (K := K) (n := n) (Same.refl H3) hJ hD1 (o2.norm h8) (by omega) (fun _ => rfl) (fun _ => rfl) fun H4 k4 hv4 => ?_⟩
    intro x dx nx ndx nex
    have up2 : Same H4 (hid x (upd (upd H4 dx (.own x)) x (.ins T.C dx []))) := fun b o hb => by
      have n1 := ne_of_none hb nx
      exact hid_get (by rw [upd_ne n1, upd_ne (ne_of_none hb ndx)]; exact hb) n1
    refine ⟨x, dx, n, _, _, _, _, rfl, upd_same, h2, h8, ((hv3.mono nw_same).mono (k4.trans up2)).s2, ((hv4.mono nw_same).mono up2).s2, o1.kind h8, o2.kind h8, ca, cb, fun H5 k5 st => ⟨rfl, q _ _ ?_ ?_⟩⟩
    · exact k1.trans (k2.trans (k3.trans (k4.trans (up2.trans (k5.trans hid_same)))))
    · rw [told_of_ok o1 h8, told_of_ok o2 h8] at st
      exact st
end
end TA
namespace TA
open PySem PySem.Spec PyProof.Rows L2
theorem cat_any {K : PySem.W.Frag} {H : Hp} {a b : Addr} {xs ys : List V} {Q : VK} (ha : SqT K H a xs) (hb : SqT K H b ys) (hl : xs.length + ys.length ≤ 1000) (q : ∀ H' t, Same H H' → SqT K H' t (xs ++ ys) → Q (.ref t) H') : rCatA K (.ref a) (.ref b) H Q := by
  refine ⟨a, b, xs, ys, rfl, rfl, ha, hb, Nat.le_trans hl (by decide), fun e => q H b (Same.refl H) ?_, fun _ e => q H a (Same.refl H) ?_, fun _ _ p hp => q _ p (same_new hp) (SqT.of upd_same)⟩
  · rw [e, List.nil_append]
    exact hb
  · rw [e, List.append_nil]
    exact ha
theorem sl_take {K : PySem.W.Frag} {H : Hp} {a : Addr} {xs : List V} {i : Nat} {Q : VK} (ha : SqT K H a xs) (hi : i ≤ xs.length) (q : ∀ H' t, Same H H' → SqT K H' t (xs.take i) → Q (.ref t) H') : rSlA K (.ref a) none (some (i : Int)) H Q := by
  have e2 : HT.sIx xs.length xs.length (some (i : Int)) = i := by rw [HT.sIx_nat]; omega
  have e3 : cutV xs none (some (i : Int)) = xs.take i := by
    unfold cutV
    rw [e2, HT.sIx_none, List.drop_zero, Nat.sub_zero]
  refine ⟨a, xs, rfl, ha, fun e => q H a (Same.refl H) ?_, fun _ p hp => q _ p (same_new hp) (by rw [← e3]; exact SqT.of upd_same)⟩
  have := e.2
  rw [e2] at this
  rw [this, List.take_length]
  exact ha
theorem sl_drop {K : PySem.W.Frag} {H : Hp} {a : Addr} {xs : List V} {i : Nat} {Q : VK} (ha : SqT K H a xs) (hi : i ≤ xs.length) (q : ∀ H' t, Same H H' → SqT K H' t (xs.drop i) → Q (.ref t) H') : rSlA K (.ref a) (some (i : Int)) none H Q := by
  have e2 : HT.sIx xs.length 0 (some (i : Int)) = i := by rw [HT.sIx_nat]; omega
  have e3 : cutV xs (some (i : Int)) none = xs.drop i := by
    unfold cutV
    rw [e2, HT.sIx_none]
    exact List.take_of_length_le (Nat.le_of_eq List.length_drop)
  refine ⟨a, xs, rfl, ha, fun e => q H a (Same.refl H) ?_, fun _ p hp => q _ p (same_new hp) (by rw [← e3]; exact SqT.of upd_same)⟩
  have := e.1
  rw [e2] at this
  rw [this, List.drop_zero]
  exact ha
theorem sl_drop' {K : PySem.W.Frag} {σ : L2.St} {H : Hp} {a : Addr} {xs : List V} {i : Nat} {Q : VK} (ha : SqT K H a xs) (hi : i ≤ xs.length) (q : ∀ H' t, Same H H' → SqT K H' t (xs.drop i) → Q (.ref t) H') :
    tNoPart σ H fun u H3 => rSlA K (.ref a) (some (i : Int)) u H3 Q := sl_drop ha hi q
theorem map_spots_app {n : Nat} {D : List (List Nat)} {k : List Nat} (h : KdsOk n D) (hn : n ≤ 8) : canon ((D.map bitsN ++ [bitsN k]).map spots) = canon (D ++ [norm k]) := by
  rw [List.map_append, h.back hn]
  rfl
theorem kind_bit {n : Nat} {k : List Nat} (h : KindOk n k) (hn : n ≤ 8) : bitsN k < 256 ∧ KindOk n (spots (bitsN k)) := by
  have i8 : In8 k := fun x hx => by have := h.1.2.1 x hx; omega
  refine ⟨bits_lt i8, ⟨nodup_lt (norm_up k), fun x hx => h.1.2.1 x ((mem_norm i8).mp hx), ?_⟩, fun e => ?_⟩
  · exact Nat.le_trans (List.length_filter_le _ _) (by simp)
  · obtain ⟨y, hy⟩ := List.exists_mem_of_ne_nil k h.2
    have : y ∈ norm k := (mem_norm i8).mpr hy
    rw [show norm k = [] from e] at this
    cases this
theorem BitsOk.app {n : Nat} {as bs : List Nat} (h : BitsOk n as) (h' : BitsOk n bs) : BitsOk n (as ++ bs) := fun b hb => (List.mem_append.mp hb).elim (h b) (h' b)
theorem BitsOk.one {n : Nat} {k : List Nat} (h : KindOk n k) (hn : n ≤ 8) : BitsOk n [bitsN k] := fun b hb => by
  rw [List.mem_singleton.mp hb]
  exact kind_bit h hn
theorem StoreAt.canonD {C : Addr} {H : Hp} {r : V} {n : Nat} {X S : List (List Nat)} (h : StoreAt C H r n X (canon ((S.map bitsN).map spots))) (ok : KdsOk n S) (hn : n ≤ 8) : StoreAt C H r n X S := by
  rw [ok.back hn, ok.canon] at h
  exact h
section
variable {P : Program} {w : World} {K : PySem.W.Frag} {mg : Str → Option Value} {base : Heap} (T : Tx K mg)
/-- a store with what is known of it -/
structure St8 (C : Addr) (H : Hp) (v : V) (n : Nat) (D S : List (List Nat)) : Prop where
  at_ : StoreAt C H v n D S
  two : 2 ≤ n
  le : n ≤ 8
  okD : KdsOk n D
  okS : KdsOk n S
  lD : D.length ≤ 8
  lS : S.length ≤ 8
theorem St8.mono {C : Addr} {H H' : Hp} {v : V} {n : Nat} {D S : List (List Nat)} (h : St8 C H v n D S) (k : Same H H') : St8 C H' v n D S := ⟨h.at_.mono k, h.two, h.le, h.okD, h.okS, h.lD, h.lS⟩
def spWantStore : Sp := fun vs H Q _ => ∃ (v : V) (n : Nat) (D S : List (List Nat)), vs = [v] ∧ StoreAt T.C H v n D S ∧ Q v H
theorem ok_want_store : FnOk P w K mg base CX0 1 T.want_store.f T.want_store.fd ["value"] (spWantStore T) := by
  refine T.want_store.F.ok sc_want_store (fun vs H Q E h => ?_) (fun cdv A outer s H vs Q E hr h => ?_)
  · obtain ⟨v, n, D, S, rfl, _⟩ := h
    rfl
  · obtain ⟨v, n, D, S, rfl, ⟨a, dx, tD, tS, dk, rfl, ha, hd, hs⟩, q⟩ := h
    refine ⟨_, pss_cons (ps_if (pt_not (pt_val (pe_callB call_isi (by rfl) T.b_isinstance (by decide +kernel) (pa_cons (pv 0) (pa_cons (pe_glob (v := .ref T.C) (by rfl) T.gC rfl) pa_nil))))) (pss_one ps_never) pss_nil) (pss_one (ps_ret (pv 0))), ?_⟩
    exact ⟨_, rfl, .ref a, .ref T.C, .ref T.C, .ref T.C, true, rfl, .own _, .base (.ins ha T.cl T.hc1 T.hc2 T.hc3 T.hc4), T.io, true, rfl, iteF ⟨_, rfl, q⟩⟩
def spWantKind : Sp := fun vs H Q _ => ∃ (v u : V) (n : Nat) (D S : List (List Nat)) (k : List Nat), vs = [v, u] ∧ StoreAt T.C H v n D S ∧ n ≤ 8 ∧ S1 H u k ∧ KindOk n k ∧ ∀ H', Same H H' → Q (vN (bitsN k)) H'
theorem ok_want_kind : FnOk P w K mg base CX0 5 T.want_kind.f T.want_kind.fd ["store", "value"] (spWantKind T) := by
  refine T.want_kind.F.ok sc_want_kind (fun vs H Q E h => ?_) (fun cdv A outer s H vs Q E hr h => ?_)
  · obtain ⟨v, u, n, D, S, k, rfl, _⟩ := h
    rfl
  · obtain ⟨v, u, n, D, S, k, rfl, ⟨a, dx, tD, tS, dk, rfl, ha, hd, hs⟩, hn, hu, ok, q⟩ := h
    refine ⟨_, pss_cons (ps_if (pt_not (pt_val (pe_call (ok_is_kind T) (hr.mono (by decide)) (by rfl) T.is_kind.g T.is_kind.F.kp T.is_kind.b .nil pass0 (pa_cons (pe_fld (pv 0) rfl) (pa_cons (pv 1) pa_nil))))) (pss_one ps_never) pss_nil)
      (pss_one (ps_ret (pe_call (ok_bits_of T) (hr.mono (by decide)) (by rfl) T.bits_of.g T.bits_of.F.kp T.bits_of.b .nil pass0 (pa_cons (pv 1) pa_nil)))), ?_⟩
    refine ⟨_, rfl, a, T.C, dx, _, _, rfl, ha, T.cl, T.n1, flds_1 _ _ _ _, _, rfl, n, u, k, rfl, hu, ok, fun H1 k1 => ⟨true, rfl, iteF ?_⟩⟩
    have := ok.1.2.2
    exact ⟨_, rfl, u, k, rfl, hu.mono k1, by omega, fun x hx => by have := ok.1.2.1 x hx; omega, q _ k1⟩
def spWantPos (C : Addr) (pick : List (List Nat) → List (List Nat) → List (List Nat)) : Sp := fun vs H Q _ => ∃ (v : V) (i n : Nat) (D S : List (List Nat)), vs = [v, vN i] ∧ StoreAt C H v n D S ∧ i < (pick D S).length ∧ Q .non H
theorem ok_want_delivery : FnOk P w K mg base CX0 3 T.want_delivery.f T.want_delivery.fd ["store", "value"] (spWantPos T.C fun D _ => D) := by
  refine T.want_delivery.F.ok sc_want_delivery (fun vs H Q E h => ?_) (fun cdv A outer s H vs Q E hr h => ?_)
  · obtain ⟨v, i, n, D, S, rfl, _⟩ := h
    rfl
  · obtain ⟨v, i, n, D, S, rfl, ⟨a, dx, tD, tS, dk, rfl, ha, hd, hs⟩, hi, q⟩ := h
    refine ⟨_, pss_one (ps_if (PW.pt (pw_or (pt_not (pt_val (pe_call (ok_is_count T) (hr.mono (by decide)) (by rfl) T.is_count.g T.is_count.F.kp T.is_count.b .nil pass0 (pa_cons (pv 1) pa_nil))))
      (pw_or1 (pt_cmpR op_ge (pv 1) (pe_callB call_len_seq (by rfl) T.b_len boot_len (pa_cons (pe_fld (pv 0) rfl) pa_nil)) (nomark _))))) (pss_one ps_never) pss_nil), ?_⟩
    refine ⟨_, rfl, (i : Int), rfl, true, congrArg V.bl (decide_eq_true (show (0 : Int) ≤ i by omega)), iteF ?_⟩
    refine ⟨_, rfl, _, rfl, a, T.C, dx, _, _, rfl, ha, T.cl, T.n2, flds_2 _ _ _ _, tD, _, rfl, .inr (SqT.of hd), _, _, rfl, rfl, _, rfl, ?_⟩
    have hi : i < D.length := hi
    rw [List.length_map, List.length_map, decide_eq_false (show ¬ (D.length : Int) ≤ (i : Int) by omega)]
    exact iteF q
theorem ok_want_sale : FnOk P w K mg base CX0 3 T.want_sale.f T.want_sale.fd ["store", "value"] (spWantPos T.C fun _ S => S) := by
  refine T.want_sale.F.ok sc_want_sale (fun vs H Q E h => ?_) (fun cdv A outer s H vs Q E hr h => ?_)
  · obtain ⟨v, i, n, D, S, rfl, _⟩ := h
    rfl
  · obtain ⟨v, i, n, D, S, rfl, ⟨a, dx, tD, tS, dk, rfl, ha, hd, hs⟩, hi, q⟩ := h
    refine ⟨_, pss_one (ps_if (PW.pt (pw_or (pt_not (pt_val (pe_call (ok_is_count T) (hr.mono (by decide)) (by rfl) T.is_count.g T.is_count.F.kp T.is_count.b .nil pass0 (pa_cons (pv 1) pa_nil))))
      (pw_or1 (pt_cmpR op_ge (pv 1) (pe_callB call_len_seq (by rfl) T.b_len boot_len (pa_cons (pe_fld (pv 0) rfl) pa_nil)) (nomark _))))) (pss_one ps_never) pss_nil), ?_⟩
    refine ⟨_, rfl, (i : Int), rfl, true, congrArg V.bl (decide_eq_true (show (0 : Int) ≤ i by omega)), iteF ?_⟩
    refine ⟨_, rfl, _, rfl, a, T.C, dx, _, _, rfl, ha, T.cl, T.n3, flds_3 _ _ _ _, tS, _, rfl, .inr (SqT.of hs), _, _, rfl, rfl, _, rfl, ?_⟩
    have hi : i < S.length := hi
    rw [List.length_map, List.length_map, decide_eq_false (show ¬ (S.length : Int) ≤ (i : Int) by omega)]
    exact iteF q
def spWantOrder : Sp := fun vs H Q _ => ∃ (v u : V) (n : Nat) (D S : List (List Nat)) (o : List Nat), vs = [v, u] ∧ StoreAt T.C H v n D S ∧ S1 H u o ∧ LotOk n o ∧ o.length = n ∧ ∀ H' r, Same H H' → T1 H' r o → Q r H'
theorem ok_want_order : FnOk P w K mg base CX0 4 T.want_order.f T.want_order.fd ["store", "value"] (spWantOrder T) := by
  refine T.want_order.F.ok sc_want_order (fun vs H Q E h => ?_) (fun cdv A outer s H vs Q E hr h => ?_)
  · obtain ⟨v, u, n, D, S, o, rfl, _⟩ := h
    rfl
  · obtain ⟨v, u, n, D, S, o, rfl, ⟨a, dx, tD, tS, dk, rfl, ha, hd, hs⟩, hu, ⟨nd, hx, hl⟩, en, q⟩ := h
    refine ⟨_, pss_cons (ps_if (PW.pt (pw_or (pt_not (pt_val (pe_call (ok_is_lot_of T) (hr.mono (by decide)) (by rfl) T.is_lot_of.g T.is_lot_of.F.kp T.is_lot_of.b .nil pass0 (pa_cons (pe_fld (pv 0) rfl) (pa_cons (pv 1) pa_nil)))))
      (pw_or1 (pt_cmpR op_ne (pe_callB call_len_seq (by rfl) T.b_len boot_len (pa_cons (pv 1) pa_nil)) (pe_fld (pv 0) rfl) (nomark _))))) (pss_one ps_never) pss_nil)
      (pss_one (ps_ret (pe_callTy call_tuple_of (by rfl) T.b_tuple (by decide +kernel) (pa_cons (pv 1) pa_nil)))), ?_⟩
    refine ⟨_, rfl, a, T.C, dx, _, _, rfl, ha, T.cl, T.n1, flds_1 _ _ _ _, _, rfl, n, u, o, rfl, hu, nd, hx, hl, fun H1 k1 => ⟨true, rfl, iteF ?_⟩⟩
    have hu1 := hu.mono k1
    obtain ⟨c, rfl, hc⟩ := S1.seq (K := K) hu1
    refine ⟨_, rfl, c, _, rfl, hc, _, rfl, a, T.C, dx, _, _, rfl, k1 _ _ ha, T.cl, T.n1, flds_1 _ _ _ _, rfl, _, rfl, ?_⟩
    refine iteNS (by rw [List.length_map, en]; rfl) ?_
    rcases hu1 with ⟨c', e, h⟩ | ⟨c', e, h⟩
    · cases e
      exact ⟨_, rfl, c, _, rfl, .inl ⟨SqL.of h, fun l hl => q _ _ (k1.trans (same_new hl)) ⟨l, rfl, upd_same⟩⟩⟩
    · cases e
      exact ⟨_, rfl, c, _, rfl, .inr ⟨SqT.of h, q _ _ k1 ⟨c, rfl, h⟩⟩⟩
end
end TA
namespace TA
open PySem PySem.Spec PyProof.Rows L2
theorem vs1_app (a b : List Nat) : vs1 a ++ vs1 b = vs1 (a ++ b) := List.map_append.symm
section
variable {P : Program} {w : World} {K : PySem.W.Frag} {mg : Str → Option Value} {base : Heap} (T : Tx K mg)
/-- a further kind: X the kinds that come out -/
def spWith (C : Addr) (X : List (List Nat) → List (List Nat) → List Nat → List (List Nat) × List (List Nat)) : Sp := fun vs H Q _ => ∃ (v u : V) (n : Nat) (D S : List (List Nat)) (k : List Nat), vs = [v, u] ∧ St8 C H v n D S ∧ S1 H u k ∧ KindOk n k ∧ D.length ≤ 7 ∧ S.length ≤ 7 ∧
  ∀ H' r, Same H H' → St8 C H' r n (X D S k).1 (X D S k).2 → Q r H'
theorem kds_app {n : Nat} {D : List (List Nat)} {k : List Nat} (h : KdsOk n D) (hn : n ≤ 8) (hk : KindOk n k) : KdsOk n (canon (D ++ [norm k])) := by
  rw [← map_spots_app h hn]
  exact ((h.bits hn).app (BitsOk.one hk hn)).ok
theorem len_app {D : List (List Nat)} {k : List Nat} (h : D.length ≤ 7) : (canon (D ++ [k])).length ≤ 8 := by
  have := canon_len (D ++ [k])
  rw [List.length_append] at this
  simp only [List.length_cons, List.length_nil] at this
  omega
theorem ok_with_delivery : FnOk P w K mg base CX0 9 T.with_delivery.f T.with_delivery.fd ["store", "kind"] (spWith T.C fun D S k => (canon (D ++ [norm k]), S)) := by
  refine T.with_delivery.F.ok sc_with_delivery (fun vs H Q E h => ?_) (fun cdv A outer s H vs Q E hr h => ?_)
  · obtain ⟨v, u, n, D, S, k, rfl, _⟩ := h
    rfl
  · obtain ⟨v, u, n, D, S, k, rfl, st, hu, hk, l1, l2, q⟩ := h
    obtain ⟨at_, two, le, okD, okS, lD, lS⟩ := id st
    refine ⟨_, pss_cons (ps_expr (pe_call (ok_want_store T) (hr.mono (by decide)) (by rfl) T.want_store.g T.want_store.F.kp T.want_store.b .nil pass0 (pa_cons (pv 0) pa_nil)))
      (pss_one (ps_ret (pe_call (ok_made T) (hr.mono (by decide)) (by rfl) T.made.g T.made.F.kp T.made.b .nil pass0 (pa_cons (pe_fld (pv 0) rfl)
        (pa_cons (pe_op op_catA (pe_fld (pv 0) rfl) (pe_tup (pa_cons (pe_call (ok_want_kind T) (hr.mono (by decide)) (by rfl) T.want_kind.g T.want_kind.F.kp T.want_kind.b .nil pass0 (pa_cons (pv 0) (pa_cons (pv 1) pa_nil))) pa_nil)))
        (pa_cons (pe_fld (pv 0) rfl) pa_nil)))))), ?_⟩
    refine ⟨_, rfl, v, n, D, S, rfl, at_, ?_⟩
    obtain ⟨a, dx, tD, tS, dk, rfl, ha, hd, hs⟩ := id at_
    refine ⟨_, rfl, a, T.C, dx, _, _, rfl, ha, T.cl, T.n1, flds_1 _ _ _ _, ?_⟩
    refine ⟨_, rfl, a, T.C, dx, _, _, rfl, ha, T.cl, T.n2, flds_2 _ _ _ _, ?_⟩
    refine ⟨_, rfl, _, rfl, .ref a, u, n, D, S, k, rfl, at_, le, hu, hk, fun H1 k1 => ⟨by show 1 ≤ sizeLine; decide, fun p hp => ?_⟩⟩
    have s2 : Same H (upd H1 p (.tup [vN (bitsN k)])) := k1.trans (same_new hp)
    refine cat_any (K := K) (SqT.of (s2 _ _ hd)) (SqT.of upd_same) (by rw [List.length_map, List.length_map]; show D.length + 1 ≤ 1000; omega) fun H2 t k2 ht => ?_
    have s3 := s2.trans k2
    refine ⟨_, rfl, a, T.C, dx, _, _, rfl, s3 _ _ ha, T.cl, T.n3, flds_3 _ _ _ _, ?_⟩
    have e1 := map_spots_app (k := k) okD le
    refine ⟨n, t, tS, D.map bitsN ++ [bitsN k], S.map bitsN, rfl, two, le, .inr (by rw [← vs1_app]; exact ht), .inr (SqT.of (s3 _ _ hs)), by simp; omega, by simp; omega, (okD.bits le).app (BitsOk.one hk le), okS.bits le, by rw [e1]; exact len_app l1, by rw [okS.back le, okS.canon]; exact lS, fun H3 r k3 st3 => ?_⟩
    rw [e1] at st3
    exact q H3 r (s3.trans k3) ⟨st3.canonD okS le, two, le, kds_app okD le hk, okS, len_app l1, lS⟩
theorem ok_with_sale : FnOk P w K mg base CX0 9 T.with_sale.f T.with_sale.fd ["store", "kind"] (spWith T.C fun D S k => (D, canon (S ++ [norm k]))) := by
  refine T.with_sale.F.ok sc_with_sale (fun vs H Q E h => ?_) (fun cdv A outer s H vs Q E hr h => ?_)
  · obtain ⟨v, u, n, D, S, k, rfl, _⟩ := h
    rfl
  · obtain ⟨v, u, n, D, S, k, rfl, st, hu, hk, l1, l2, q⟩ := h
    obtain ⟨at_, two, le, okD, okS, lD, lS⟩ := id st
    refine ⟨_, pss_cons (ps_expr (pe_call (ok_want_store T) (hr.mono (by decide)) (by rfl) T.want_store.g T.want_store.F.kp T.want_store.b .nil pass0 (pa_cons (pv 0) pa_nil)))
      (pss_one (ps_ret (pe_call (ok_made T) (hr.mono (by decide)) (by rfl) T.made.g T.made.F.kp T.made.b .nil pass0 (pa_cons (pe_fld (pv 0) rfl) (pa_cons (pe_fld (pv 0) rfl)
        (pa_cons (pe_op op_catA (pe_fld (pv 0) rfl) (pe_tup (pa_cons (pe_call (ok_want_kind T) (hr.mono (by decide)) (by rfl) T.want_kind.g T.want_kind.F.kp T.want_kind.b .nil pass0 (pa_cons (pv 0) (pa_cons (pv 1) pa_nil))) pa_nil))) pa_nil)))))), ?_⟩
    refine ⟨_, rfl, v, n, D, S, rfl, at_, ?_⟩
    obtain ⟨a, dx, tD, tS, dk, rfl, ha, hd, hs⟩ := id at_
    refine ⟨_, rfl, a, T.C, dx, _, _, rfl, ha, T.cl, T.n1, flds_1 _ _ _ _, ?_⟩
    refine ⟨_, rfl, a, T.C, dx, _, _, rfl, ha, T.cl, T.n2, flds_2 _ _ _ _, ?_⟩
    refine ⟨_, rfl, a, T.C, dx, _, _, rfl, ha, T.cl, T.n3, flds_3 _ _ _ _, ?_⟩
    refine ⟨_, rfl, _, rfl, .ref a, u, n, D, S, k, rfl, at_, le, hu, hk, fun H1 k1 => ⟨by show 1 ≤ sizeLine; decide, fun p hp => ?_⟩⟩
    have s2 : Same H (upd H1 p (.tup [vN (bitsN k)])) := k1.trans (same_new hp)
    refine cat_any (K := K) (SqT.of (s2 _ _ hs)) (SqT.of upd_same) (by rw [List.length_map, List.length_map]; show S.length + 1 ≤ 1000; omega) fun H2 t k2 ht => ?_
    have s3 := s2.trans k2
    have e1 := map_spots_app (k := k) okS le
    refine ⟨n, tD, t, D.map bitsN, S.map bitsN ++ [bitsN k], rfl, two, le, .inr (SqT.of (s3 _ _ hd)), .inr (by rw [← vs1_app]; exact ht), by simp; omega, by simp; omega, okD.bits le, (okS.bits le).app (BitsOk.one hk le), by rw [okD.back le, okD.canon]; exact lD, by rw [e1]; exact len_app l2, fun H3 r k3 st3 => ?_⟩
    rw [e1, okD.back le, okD.canon] at st3
    exact q H3 r (s3.trans k3) ⟨st3, two, le, okD, kds_app okS le hk, lD, len_app l2⟩
/-! ### without -/
def cutL (D : List (List Nat)) (i : Nat) : List (List Nat) := D.take i ++ D.drop (i + 1)
theorem vs1_cut (D : List (List Nat)) (i : Nat) : (vs1 (D.map bitsN)).take i ++ (vs1 (D.map bitsN)).drop (i + 1) = vs1 ((cutL D i).map bitsN) := by
  unfold cutL vs1
  simp only [List.map_append, List.map_take, List.map_drop]
theorem cut_sub (D : List (List Nat)) (i : Nat) : (cutL D i).Sublist D := by
  unfold cutL
  rw [← List.eraseIdx_eq_take_drop_succ]
  exact List.eraseIdx_sublist _ _
theorem KdsOk.cut {n : Nat} {D : List (List Nat)} (h : KdsOk n D) (i : Nat) : KdsOk n (cutL D i) := ⟨h.1.sublist (cut_sub D i), fun k hk => h.2 k ((cut_sub D i).subset hk)⟩
def spWithout (C : Addr) (pick : List (List Nat) → List (List Nat) → List (List Nat)) (X : List (List Nat) → List (List Nat) → Nat → List (List Nat) × List (List Nat)) : Sp := fun vs H Q _ => ∃ (v : V) (i n : Nat) (D S : List (List Nat)), vs = [v, vN i] ∧ St8 C H v n D S ∧ i < (pick D S).length ∧
  ∀ H' r, Same H H' → St8 C H' r n (X D S i).1 (X D S i).2 → Q r H'
theorem ok_without_delivery : FnOk P w K mg base CX0 9 T.without_delivery.f T.without_delivery.fd ["store", "position"] (spWithout T.C (fun D _ => D) fun D S i => (cutL D i, S)) := by
  refine T.without_delivery.F.ok sc_without_delivery (fun vs H Q E h => ?_) (fun cdv A outer s H vs Q E hr h => ?_)
  · obtain ⟨v, i, n, D, S, rfl, _⟩ := h
    rfl
  · obtain ⟨v, i, n, D, S, rfl, st, hi, q⟩ := h
    obtain ⟨at_, two, le, okD, okS, lD, lS⟩ := id st
    have hi : i < D.length := hi
    refine ⟨_, pss_cons (ps_expr (pe_call (ok_want_store T) (hr.mono (by decide)) (by rfl) T.want_store.g T.want_store.F.kp T.want_store.b .nil pass0 (pa_cons (pv 0) pa_nil)))
      (pss_cons (ps_expr (pe_call (ok_want_delivery T) (hr.mono (by decide)) (by rfl) T.want_delivery.g T.want_delivery.F.kp T.want_delivery.b .nil pass0 (pa_cons (pv 0) (pa_cons (pv 1) pa_nil))))
      (pss_cons (ps_set (i := 2) sc_without_delivery.nd rfl (.inl rfl) (pe_op op_catA (pe_slice sl_tupA (pe_fld (pv 0) rfl) po_none (po_some (pv 1))) (pe_slice sl_tupA (pe_fld (pv 0) rfl) (po_some (pe_op op_add (pv 1) pe_int)) po_none)))
      (pss_one (ps_ret (pe_call (ok_made T) (hr.mono (by decide)) (by rfl) T.made.g T.made.F.kp T.made.b .nil pass0 (pa_cons (pe_fld (pv 0) rfl) (pa_cons (pv 2) (pa_cons (pe_fld (pv 0) rfl) pa_nil)))))))), ?_⟩
    refine ⟨_, rfl, v, n, D, S, rfl, at_, ?_⟩
    refine ⟨_, rfl, _, rfl, v, i, n, D, S, rfl, at_, hi, ?_⟩
    obtain ⟨a, dx, tD, tS, dk, rfl, ha, hd, hs⟩ := id at_
    refine ⟨_, rfl, a, T.C, dx, _, _, rfl, ha, T.cl, T.n2, flds_2 _ _ _ _, _, rfl, (i : Int), rfl, ?_⟩
    have hl : (vs1 (D.map bitsN)).length = D.length := by simp
    refine sl_take (K := K) (i := i) (SqT.of hd) (by omega) fun H1 t1 k1 ht1 => ?_
    refine ⟨_, rfl, a, T.C, dx, _, _, rfl, k1 _ _ ha, T.cl, T.n2, flds_2 _ _ _ _, _, rfl, _, _, rfl, rfl, ((i + 1 : Nat) : Int), rfl, ?_⟩
    refine sl_drop' (K := K) (i := i + 1) (SqT.of (k1 _ _ hd)) (by omega) fun H2 t2 k2 ht2 => ?_
    refine cat_any (K := K) (same_tup k2 ht1) ht2 (by rw [List.length_take, List.length_drop]; omega) fun H3 t k3 ht => ?_
    have s3 := k1.trans (k2.trans k3)
    have eb : (vs1 (D.map bitsN)).take i ++ (vs1 (D.map bitsN)).drop (i + 1) = vs1 ((cutL D i).map bitsN) := by
      exact vs1_cut _ i
    rw [eb] at ht
    refine ⟨_, rfl, a, T.C, dx, _, _, rfl, s3 _ _ ha, T.cl, T.n1, flds_1 _ _ _ _, _, rfl, ?_⟩
    refine ⟨_, rfl, a, T.C, dx, _, _, rfl, s3 _ _ ha, T.cl, T.n3, flds_3 _ _ _ _, ?_⟩
    have okc := okD.cut i
    have lc : (cutL D i).length ≤ 8 := Nat.le_trans (cut_sub D i).length_le lD
    refine ⟨n, t, tS, (cutL D i).map bitsN, S.map bitsN, rfl, two, le, .inr ht, .inr (SqT.of (s3 _ _ hs)), by rw [List.length_map]; omega, by rw [List.length_map]; omega, okc.bits le, okS.bits le, by rw [okc.back le, okc.canon]; exact lc, by rw [okS.back le, okS.canon]; exact lS, fun H4 r k4 st4 => ?_⟩
    rw [okc.back le, okc.canon] at st4
    exact q H4 r (s3.trans k4) ⟨st4.canonD okS le, two, le, okc, okS, lc, lS⟩
theorem ok_without_sale : FnOk P w K mg base CX0 9 T.without_sale.f T.without_sale.fd ["store", "position"] (spWithout T.C (fun _ S => S) fun D S i => (D, cutL S i)) := by
  refine T.without_sale.F.ok sc_without_sale (fun vs H Q E h => ?_) (fun cdv A outer s H vs Q E hr h => ?_)
  · obtain ⟨v, i, n, D, S, rfl, _⟩ := h
    rfl
  · obtain ⟨v, i, n, D, S, rfl, st, hi, q⟩ := h
    obtain ⟨at_, two, le, okD, okS, lD, lS⟩ := id st
    have hi : i < S.length := hi
    refine ⟨_, pss_cons (ps_expr (pe_call (ok_want_store T) (hr.mono (by decide)) (by rfl) T.want_store.g T.want_store.F.kp T.want_store.b .nil pass0 (pa_cons (pv 0) pa_nil)))
      (pss_cons (ps_expr (pe_call (ok_want_sale T) (hr.mono (by decide)) (by rfl) T.want_sale.g T.want_sale.F.kp T.want_sale.b .nil pass0 (pa_cons (pv 0) (pa_cons (pv 1) pa_nil))))
      (pss_one (ps_ret (pe_call (ok_made T) (hr.mono (by decide)) (by rfl) T.made.g T.made.F.kp T.made.b .nil pass0 (pa_cons (pe_fld (pv 0) rfl) (pa_cons (pe_fld (pv 0) rfl)
        (pa_cons (pe_op op_catA (pe_slice sl_tupA (pe_fld (pv 0) rfl) po_none (po_some (pv 1))) (pe_slice sl_tupA (pe_fld (pv 0) rfl) (po_some (pe_op op_add (pv 1) pe_int)) po_none)) pa_nil))))))), ?_⟩
    refine ⟨_, rfl, v, n, D, S, rfl, at_, ?_⟩
    refine ⟨_, rfl, _, rfl, v, i, n, D, S, rfl, at_, hi, ?_⟩
    obtain ⟨a, dx, tD, tS, dk, rfl, ha, hd, hs⟩ := id at_
    refine ⟨_, rfl, a, T.C, dx, _, _, rfl, ha, T.cl, T.n1, flds_1 _ _ _ _, ?_⟩
    refine ⟨_, rfl, a, T.C, dx, _, _, rfl, ha, T.cl, T.n2, flds_2 _ _ _ _, ?_⟩
    refine ⟨_, rfl, a, T.C, dx, _, _, rfl, ha, T.cl, T.n3, flds_3 _ _ _ _, _, rfl, (i : Int), rfl, ?_⟩
    have hl : (vs1 (S.map bitsN)).length = S.length := by simp
    refine sl_take (K := K) (i := i) (SqT.of hs) (by omega) fun H1 t1 k1 ht1 => ?_
    refine ⟨_, rfl, a, T.C, dx, _, _, rfl, k1 _ _ ha, T.cl, T.n3, flds_3 _ _ _ _, _, rfl, _, _, rfl, rfl, ((i + 1 : Nat) : Int), rfl, ?_⟩
    refine sl_drop' (K := K) (i := i + 1) (SqT.of (k1 _ _ hs)) (by omega) fun H2 t2 k2 ht2 => ?_
    refine cat_any (K := K) (same_tup k2 ht1) ht2 (by rw [List.length_take, List.length_drop]; omega) fun H3 t k3 ht => ?_
    have s3 := k1.trans (k2.trans k3)
    have eb : (vs1 (S.map bitsN)).take i ++ (vs1 (S.map bitsN)).drop (i + 1) = vs1 ((cutL S i).map bitsN) := by
      exact vs1_cut _ i
    rw [eb] at ht
    have okc := okS.cut i
    have lc : (cutL S i).length ≤ 8 := Nat.le_trans (cut_sub S i).length_le lS
    refine ⟨n, tD, t, D.map bitsN, (cutL S i).map bitsN, rfl, two, le, .inr (SqT.of (s3 _ _ hd)), .inr ht, by rw [List.length_map]; omega, by rw [List.length_map]; omega, okD.bits le, okc.bits le, by rw [okD.back le, okD.canon]; exact lD, by rw [okc.back le, okc.canon]; exact lc, fun H4 r k4 st4 => ?_⟩
    rw [okc.back le, okc.canon, okD.back le, okD.canon] at st4
    exact q H4 r (s3.trans k4) ⟨st4, two, le, okD, okc, lD, lc⟩
end
end TA
namespace TA
open PySem PySem.Spec PyProof.Rows L2
/-! ### scopes of comprehensions, from the text -/
def noSc : Scope := defScope (.Pass ⟨0, 0, 0, 0⟩)
def lcSc : Expr → Scope
  | .ListComp _ _ sc _ => sc
  | _ => noSc
def retE : Stmt → Expr
  | .Return (some e) _ => e
  | .Assign _ e _ => e
  | _ => .Constant .none 0 ⟨0, 0, 0, 0⟩
def lcElt : Expr → Expr
  | .ListComp e _ _ _ => e
  | e => e
def arg0 : Expr → Expr
  | .Call _ (a :: _) _ _ => a
  | e => e
def nthS (i : Nat) (st : Stmt) : Stmt := (defBody st).getD i (.Pass ⟨0, 0, 0, 0⟩)
/-- a kind by an order -/
def mv (o k : List Nat) : List Nat := k.map fun x => o.getD x 0
theorem in8_le {b : Nat} : (spots b).length ≤ 8 := Nat.le_trans (List.length_filter_le _ _) (by simp)
section
variable {P : Program} {w : World} {K : PySem.W.Frag} {mg : Str → Option Value} {base : Heap} (T : Tx K mg)
def spMoved (K : PySem.W.Frag) : Sp := fun vs H Q _ => ∃ (a b : Addr) (D : List (List Nat)) (o : List Nat), vs = [.ref a, .ref b] ∧ SqT K H a (vs1 (D.map bitsN)) ∧ SqT K H b (vs1 o) ∧ (∀ k ∈ D, spots (bitsN k) = k) ∧ D.length ≤ 100 ∧
  (∀ k ∈ D, ∀ x ∈ k, x < o.length) ∧ (∀ x ∈ o, x < 1000) ∧ ∀ H' r, Same H H' → L1 H' r (D.map fun k => bitsN (mv o k)) → Q r H'
theorem ok_moved : FnOk P w K mg base CX0 3 T.moved.f T.moved.fd ["kinds", "order"] (spMoved K) := by
  refine T.moved.F.ok sc_moved (fun vs H Q E h => ?_) (fun cdv A outer s H vs Q E hr h => ?_)
  · obtain ⟨a, b, D, o, rfl, _⟩ := h
    rfl
  · obtain ⟨a, b, D, o, rfl, ha, hb, hD, hl, hx, ho, q⟩ := h
    refine ⟨_, pss_one (ps_ret (pe_lc (own := [("kind", 2)]) (g := gName 2) (by rfl) sc_moved.nd (pi_tup (pv 0))
      (blkOk_by (own := [("kind", 2)]) (N := ["kinds", "order", "kind", "shelf"]) (sc := defScope s_moved) (by decide +kernel)) (fun _ _ _ _ _ => pg_name (i := 2) sc_moved.nd rfl (.inl rfl)) (fun _ _ _ _ _ => pts_nil)
      (fun _ _ _ _ _ => pe_call (ok_bits_of T) (hr.mono (by decide)) (by rfl) T.bits_of.g T.bits_of.F.kp T.bits_of.b .nil pass0 (pa_cons
        (pe_lc (own := [("shelf", 3)]) (wi := iTup K (tCall spSpotsOf [] E0 (tCons (tVar 2) tNil))) (g := gName 3) (by rfl) sc_moved.nd (pi_tup (pe_call (ok_spots_of T) (hr.mono (by decide)) (by rfl) T.spots_of.g T.spots_of.F.kp T.spots_of.b .nil pass0 (pa_cons (pv 2) pa_nil)))
          (blkOk_by (own := [("shelf", 3)]) (N := ["kinds", "order", "kind", "shelf"]) (sc := relS (lcSc (retE (nthS 0 s_moved))) (defScope s_moved)) (by decide +kernel)) (fun _ _ _ _ _ => pg_name (i := 3) sc_moved.nd rfl (.inl rfl)) (fun _ _ _ _ _ => pts_nil)
          (fun _ _ _ _ _ => pe_ix (r := rIxT K) ix_tup (pv 1) (pv 3) fun _ _ => rfl)) pa_nil)))), ?_⟩
    refine ⟨_, rfl, a, rfl, ⟨_, ha⟩, fun D0 hD0 => comp_all D (runs_tup (K := K) ha) (by simp) (by omega) hD0 (fun k _ v => v = vN (bitsN (mv o k))) (fun _ _ _ _ _ h => h) (fun i x k H' Z hxi hd kk z => ?_) (fun H' ys kk hy hys => ?_) ⟨2, rfl⟩⟩
    · have hk := List.mem_of_getElem? hd
      have ex : x = vN (bitsN k) := by
        rw [List.getElem?_map, List.getElem?_map, hd] at hxi
        exact (Option.some.inj hxi).symm
      subst ex
      refine ⟨rfl, _, rfl, bitsN k, rfl, fun H2 v k2 hv => ?_⟩
      rw [hD k hk] at hv
      obtain ⟨t, rfl, ht⟩ := hv.mono nw_same
      refine ⟨t, rfl, ⟨_, SqT.of ht⟩, fun D1 hD1 => comp_all k (runs_tup (K := K) (SqT.of ht)) (by simp) (by rw [← hD k hk]; have := in8_le (b := bitsN k); omega) hD1 (fun x _ v => v = vN (o.getD x 0)) (fun _ _ _ _ _ h => h) (fun j y e H3 Z3 hyj hdj k3 z3 => ?_) (fun H3 ys k3 hy3 hys3 => ?_) ⟨3, rfl⟩⟩
      · have ey : y = vN e := by
          rw [List.getElem?_map, hdj] at hyj
          exact (Option.some.inj hyj).symm
        subst ey
        have hlt := hx k hk e (List.mem_of_getElem? hdj)
        refine ⟨rfl, _, rfl, _, rfl, b, vs1 o, (e : Int), vN (o.getD e 0), rfl, rfl, same_tup (kk.trans (k2.trans k3)) hb, atI_nat ?_, z3 _ _ (Same.refl _) rfl⟩
        rw [List.getElem?_map, List.getElem?_eq_getElem hlt, List.getD_eq_getElem?_getD, List.getElem?_eq_getElem hlt]
        rfl
      · have ey : ys = vs1 (mv o k) := by
          refine (paired_fun hys3).trans ?_
          show _ = List.map vN (List.map _ _)
          rw [List.map_map]
          rfl
        subst ey
        refine ⟨_, mv o k, rfl, .inl ⟨D1, rfl, hy3⟩, ?_, fun y hy => ?_, z _ _ (k2.trans k3) rfl⟩
        · unfold mv
          rw [List.length_map, ← hD k hk]
          have := in8_le (b := bitsN k)
          omega
        · obtain ⟨e, he, rfl⟩ := List.mem_map.mp hy
          have hlt := hx k hk e he
          rw [List.getD_eq_getElem?_getD, List.getElem?_eq_getElem hlt]
          exact ho _ (List.getElem_mem hlt)
    · refine q H' _ kk ⟨D0, rfl, ?_⟩
      have ey : ys = vs1 (D.map fun k => bitsN (mv o k)) := by
        refine (paired_fun hys).trans ?_
        show _ = List.map vN (List.map _ _)
        rw [List.map_map]
        rfl
      rw [← ey]
      exact hy
end
end TA
namespace TA
open PySem PySem.Spec PyProof.Rows L2
theorem getD_lt {o : List Nat} {x : Nat} (h : x < o.length) : o.getD x 0 = o[x] := by
  rw [List.getD_eq_getElem?_getD, List.getElem?_eq_getElem h]
  rfl
theorem getD_mem {o : List Nat} {x : Nat} (h : x < o.length) : o.getD x 0 ∈ o := by
  rw [getD_lt h]
  exact List.getElem_mem h
theorem getD_inj {o : List Nat} (nd : o.Nodup) {x y : Nat} (hx : x < o.length) (hy : y < o.length) (e : o.getD x 0 = o.getD y 0) : x = y := by
  rw [getD_lt hx, getD_lt hy] at e
  have h := List.pairwise_iff_getElem.mp nd
  rcases Nat.lt_trichotomy x y with hlt | he | hlt
  · exact absurd e (h x y hx hy hlt)
  · exact he
  · exact absurd e.symm (h y x hy hx hlt)
theorem nodup_mapOn {f : Nat → Nat} : ∀ {l : List Nat}, l.Nodup → (∀ x ∈ l, ∀ y ∈ l, f x = f y → x = y) → (l.map f).Nodup
  | [], _, _ => List.nodup_nil
  | a :: l, nd, inj => by
    obtain ⟨na, nd⟩ := List.nodup_cons.mp nd
    rw [List.map_cons]
    refine List.nodup_cons.mpr ⟨fun h => ?_, nodup_mapOn nd fun x hx y hy => inj x (List.mem_cons_of_mem _ hx) y (List.mem_cons_of_mem _ hy)⟩
    obtain ⟨b, hb, e⟩ := List.mem_map.mp h
    have := inj b (List.mem_cons_of_mem _ hb) a List.mem_cons_self e
    exact na (this ▸ hb)
/-- an order of n shelves -/
def OrdOk (n : Nat) (o : List Nat) : Prop := LotOk n o ∧ o.length = n
theorem OrdOk.kind {n : Nat} {o k : List Nat} (ho : OrdOk n o) (hk : KindOk n k) : KindOk n (mv o k) := by
  obtain ⟨⟨nd, hx, hl⟩, ne⟩ := hk
  refine ⟨⟨nodup_mapOn nd fun x hx' y hy => getD_inj ho.1.1 (by rw [ho.2]; exact hx x hx') (by rw [ho.2]; exact hx y hy), fun y hy => ?_, ?_⟩, fun e => ne (List.map_eq_nil_iff.mp e)⟩
  · obtain ⟨x, hx', rfl⟩ := List.mem_map.mp hy
    exact ho.1.2.1 _ (getD_mem (by rw [ho.2]; exact hx x hx'))
  · unfold mv
    rw [List.length_map]
    exact hl
theorem BitsOk.map {α : Type} {n : Nat} {D : List α} {f : α → List Nat} (h : ∀ k ∈ D, KindOk n (f k)) (hn : n ≤ 8) : BitsOk n (D.map fun k => bitsN (f k)) := fun b hb => by
  obtain ⟨k, hk, rfl⟩ := List.mem_map.mp hb
  exact kind_bit (h k hk) hn
theorem map_sp {α : Type} (D : List α) (f : α → List Nat) : (D.map fun k => bitsN (f k)).map spots = D.map fun k => norm (f k) := by
  rw [List.map_map]
  rfl
theorem canon_le {l : List (List Nat)} {n : Nat} (h : l.length ≤ n) : (canon l).length ≤ n := Nat.le_trans (canon_len l) h
section
variable {P : Program} {w : World} {K : PySem.W.Frag} {mg : Str → Option Value} {base : Heap} (T : Tx K mg)
/-- the kinds by an order -/
def ren (o : List Nat) (D : List (List Nat)) : List (List Nat) := canon (D.map fun k => norm (mv o k))
def spRenamed (C : Addr) : Sp := fun vs H Q _ => ∃ (v u : V) (n : Nat) (D S : List (List Nat)) (o : List Nat), vs = [v, u] ∧ St8 C H v n D S ∧ S1 H u o ∧ OrdOk n o ∧
  ∀ H' r, Same H H' → St8 C H' r n (ren o D) (ren o S) → Q r H'
theorem ok_renamed : FnOk P w K mg base CX0 9 T.renamed.f T.renamed.fd ["store", "order"] (spRenamed T.C) := by
  refine T.renamed.F.ok sc_renamed (fun vs H Q E h => ?_) (fun cdv A outer s H vs Q E hr h => ?_)
  · obtain ⟨v, u, n, D, S, o, rfl, _⟩ := h
    rfl
  · obtain ⟨v, u, n, D, S, o, rfl, st, hu, ho, q⟩ := h
    obtain ⟨at_, two, le, okD, okS, lD, lS⟩ := id st
    refine ⟨_, pss_cons (ps_expr (pe_call (ok_want_store T) (hr.mono (by decide)) (by rfl) T.want_store.g T.want_store.F.kp T.want_store.b .nil pass0 (pa_cons (pv 0) pa_nil)))
      (pss_cons (ps_set (i := 2) sc_renamed.nd rfl (.inl rfl) (pe_call (ok_want_order T) (hr.mono (by decide)) (by rfl) T.want_order.g T.want_order.F.kp T.want_order.b .nil pass0 (pa_cons (pv 0) (pa_cons (pv 1) pa_nil))))
      (pss_one (ps_ret (pe_call (ok_made T) (hr.mono (by decide)) (by rfl) T.made.g T.made.F.kp T.made.b .nil pass0 (pa_cons (pe_fld (pv 0) rfl)
        (pa_cons (pe_call (ok_moved T) (hr.mono (by decide)) (by rfl) T.moved.g T.moved.F.kp T.moved.b .nil pass0 (pa_cons (pe_fld (pv 0) rfl) (pa_cons (pv 2) pa_nil)))
        (pa_cons (pe_call (ok_moved T) (hr.mono (by decide)) (by rfl) T.moved.g T.moved.F.kp T.moved.b .nil pass0 (pa_cons (pe_fld (pv 0) rfl) (pa_cons (pv 2) pa_nil))) pa_nil))))))), ?_⟩
    refine ⟨_, rfl, v, n, D, S, rfl, at_, ?_⟩
    refine ⟨_, rfl, _, rfl, v, u, n, D, S, o, rfl, at_, hu, ho.1, ho.2, fun H1 t k1 ht => ?_⟩
    obtain ⟨a, dx, tD, tS, dk, rfl, ha, hd, hs⟩ := id at_
    obtain ⟨to, rfl, hto⟩ := ht
    have small : ∀ x ∈ o, x < 1000 := fun x hx => by have := ho.1.2.1 x hx; omega
    refine ⟨_, rfl, a, T.C, dx, _, _, rfl, k1 _ _ ha, T.cl, T.n1, flds_1 _ _ _ _, ?_⟩
    refine ⟨_, rfl, a, T.C, dx, _, _, rfl, k1 _ _ ha, T.cl, T.n2, flds_2 _ _ _ _, _, rfl, tD, to, D, o, rfl, SqT.of (k1 _ _ hd), SqT.of hto, okD.norm le, by omega, fun k hk x hx => by rw [ho.2]; exact (okD.2 k hk).2.2 x hx, small, fun H2 r k2 hr2 => ?_⟩
    have s2 := k1.trans k2
    refine ⟨_, rfl, a, T.C, dx, _, _, rfl, s2 _ _ ha, T.cl, T.n3, flds_3 _ _ _ _, _, rfl, tS, to, S, o, rfl, SqT.of (s2 _ _ hs), SqT.of (k2 _ _ hto), okS.norm le, by omega, fun k hk x hx => by rw [ho.2]; exact (okS.2 k hk).2.2 x hx, small, fun H3 r3 k3 hr3 => ?_⟩
    obtain ⟨b, rfl, hb⟩ := hr2.mono k3
    obtain ⟨c, rfl, hc⟩ := hr3
    have b1 : BitsOk n (D.map fun k => bitsN (mv o k)) := BitsOk.map (fun k hk => ho.kind (okD.kind le k hk)) le
    have b2 : BitsOk n (S.map fun k => bitsN (mv o k)) := BitsOk.map (fun k hk => ho.kind (okS.kind le k hk)) le
    have o1 := b1.ok
    have o2 := b2.ok
    rw [map_sp] at o1 o2
    have l1 : (ren o D).length ≤ 8 := canon_le (by rw [List.length_map]; exact lD)
    have l2 : (ren o S).length ≤ 8 := canon_le (by rw [List.length_map]; exact lS)
    refine ⟨n, b, c, D.map fun k => bitsN (mv o k), S.map fun k => bitsN (mv o k), rfl, two, le, .inl (SqL.of hb), .inl (SqL.of hc), by rw [List.length_map]; omega, by rw [List.length_map]; omega, b1, b2, by rw [map_sp]; exact l1, by rw [map_sp]; exact l2, fun H4 r k4 st4 => ?_⟩
    rw [map_sp, map_sp] at st4
    exact q H4 r (s2.trans (k3.trans k4)) ⟨st4, two, le, o1, o2, l1, l2⟩
/-! ### beside -/
def upL (n : Nat) (k : List Nat) : List Nat := k.map (· + n)
theorem bits_up (n : Nat) (k : List Nat) : bitsN (upL n k) = bitsN k * 2 ^ n := by
  refine Nat.eq_of_testBit_eq fun i => ?_
  rw [testBit_bitsN, Nat.testBit_mul_two_pow, testBit_bitsN]
  by_cases h : n ≤ i
  · rw [decide_eq_true h, Bool.true_and]
    refine decide_eq_decide.mpr ?_
    unfold upL
    rw [List.mem_map]
    exact ⟨fun ⟨a, ha, e⟩ => by rw [← e, Nat.add_sub_cancel]; exact ha, fun hm => ⟨i - n, hm, by omega⟩⟩
  · rw [decide_eq_false h, Bool.false_and]
    refine decide_eq_false fun hm => ?_
    obtain ⟨a, ha, e⟩ := List.mem_map.mp hm
    omega
theorem upL_pw {n : Nat} : ∀ {k : List Nat}, k.Pairwise (· < ·) → (upL n k).Pairwise (· < ·) := fun h => List.Pairwise.map _ (fun _ _ h => Nat.add_lt_add_right h n) h
theorem upL_kind {n m : Nat} {k : List Nat} (h : KindOk m k) : KindOk (m + n) (upL n k) := by
  obtain ⟨⟨nd, hx, hl⟩, ne⟩ := h
  refine ⟨⟨nodup_mapOn nd fun x _ y _ e => Nat.add_right_cancel e, fun y hy => ?_, ?_⟩, fun e => ne (List.map_eq_nil_iff.mp e)⟩
  · obtain ⟨x, hx', rfl⟩ := List.mem_map.mp hy
    exact Nat.add_lt_add_right (hx x hx') n
  · unfold upL
    rw [List.length_map]
    exact hl
theorem KindOk.up {n m : Nat} {k : List Nat} (h : KindOk n k) (hm : n ≤ m) : KindOk m k := ⟨⟨h.1.1, fun x hx => Nat.lt_of_lt_of_le (h.1.2.1 x hx) hm, h.1.2.2⟩, h.2⟩
def bes (n : Nat) (D D' : List (List Nat)) : List (List Nat) := canon (D ++ D'.map (upL n))
theorem bes_bits {n m : Nat} {D D' : List (List Nat)} (h : KdsOk n D) (h' : KdsOk m D') (hn : n + m ≤ 8) : (D.map bitsN ++ D'.map fun k => bitsN (upL n k)).map spots = D ++ D'.map (upL n) := by
  rw [List.map_append, h.back (by omega), map_sp]
  congr 1
  refine List.map_congr_left fun k hk => norm_of_up ?_ (upL_pw (h'.2 k hk).2.1)
  intro x hx
  obtain ⟨y, hy, rfl⟩ := List.mem_map.mp hx
  have := (h'.2 k hk).2.2 y hy
  omega
theorem bes_ok {n m : Nat} {D D' : List (List Nat)} (h : KdsOk n D) (h' : KdsOk m D') (hn : n + m ≤ 8) : BitsOk (n + m) (D.map bitsN ++ D'.map fun k => bitsN (upL n k)) := by
  refine BitsOk.app ?_ (BitsOk.map (fun k hk => ?_) hn)
  · exact BitsOk.map (f := fun k => k) (fun k hk => (h.kind (by omega) k hk).up (by omega)) hn
  · rw [Nat.add_comm]
    exact upL_kind (h'.kind (by omega) k hk)
def spBeside (C : Addr) : Sp := fun vs H Q _ => ∃ (v u : V) (n m : Nat) (D S D' S' : List (List Nat)), vs = [v, u] ∧ St8 C H v n D S ∧ St8 C H u m D' S' ∧ n + m ≤ 8 ∧ D.length + D'.length ≤ 8 ∧ S.length + S'.length ≤ 8 ∧
  ∀ H' r, Same H H' → St8 C H' r (n + m) (bes n D D') (bes n S S') → Q r H'
/-- the other's kinds, raised -/
theorem shl_bits (n : Nat) (k : List Nat) : (((bitsN k : Nat) : Int) * 2 ^ ((n : Int).toNat)) = ((bitsN (upL n k) : Nat) : Int) := by
  rw [bits_up, Int.toNat_natCast, ← PySem.W.kbt_cast, Int.natCast_mul]
theorem ok_beside : FnOk P w K mg base CX0 9 T.beside.f T.beside.fd ["store", "other"] (spBeside T.C) := by
  refine T.beside.F.ok sc_beside (fun vs H Q E h => ?_) (fun cdv A outer s H vs Q E hr h => ?_)
  · obtain ⟨v, u, n, m, D, S, D', S', rfl, _⟩ := h
    rfl
  · obtain ⟨v, u, n, m, D, S, D', S', rfl, st, su, hnm, lD, lS, q⟩ := h
    obtain ⟨at_, two, le, okD, okS, _, _⟩ := id st
    obtain ⟨au, two', le', okD', okS', _, _⟩ := id su
    obtain ⟨t2, e2⟩ := T.mostS
    refine ⟨_, pss_cons (ps_expr (pe_call (ok_want_store T) (hr.mono (by decide)) (by rfl) T.want_store.g T.want_store.F.kp T.want_store.b .nil pass0 (pa_cons (pv 0) pa_nil)))
      (pss_cons (ps_expr (pe_call (ok_want_store T) (hr.mono (by decide)) (by rfl) T.want_store.g T.want_store.F.kp T.want_store.b .nil pass0 (pa_cons (pv 1) pa_nil)))
      (pss_cons (ps_set (i := 2) sc_beside.nd rfl (.inr rfl) (pe_fld (pv 0) rfl))
      (pss_cons (ps_expr (pe_call (ok_want_at_most T) (hr.mono (by decide)) (by rfl) T.want_at_most.g T.want_at_most.F.kp T.want_at_most.b .nil pass0 (pa_cons pe_str (pa_cons (pe_glob (v := .int 8) (by rfl) e2 ⟨_, rfl⟩) (pa_cons (pe_op op_add (pv 2) (pe_fld (pv 1) rfl)) pa_nil)))))
      (pss_cons (ps_set (i := 3) sc_beside.nd rfl (.inl rfl) (pe_op op_cat (pe_callTy call_list_of (by rfl) T.b_list (by decide +kernel) (pa_cons (pe_fld (pv 0) rfl) pa_nil))
        (pe_lc (own := [("kind", 5)]) (g := gName 5) (by rfl) sc_beside.nd (pi_tup (pe_fld (pv 1) rfl))
          (blkOk_by (own := [("kind", 5)]) (N := ["store", "other", "shift", "deliveries", "sales", "kind"]) (sc := defScope s_beside) (by decide +kernel)) (fun _ _ _ _ _ => pg_name (i := 5) sc_beside.nd rfl (.inl rfl)) (fun _ _ _ _ _ => pts_nil)
          (fun _ _ _ _ _ => pe_op op_shl (pv 5) (pv 2)))))
      (pss_cons (ps_set (i := 4) sc_beside.nd rfl (.inl rfl) (pe_op op_cat (pe_callTy call_list_of (by rfl) T.b_list (by decide +kernel) (pa_cons (pe_fld (pv 0) rfl) pa_nil))
        (pe_lc (own := [("kind", 5)]) (g := gName 5) (by rfl) sc_beside.nd (pi_tup (pe_fld (pv 1) rfl))
          (blkOk_by (own := [("kind", 5)]) (N := ["store", "other", "shift", "deliveries", "sales", "kind"]) (sc := defScope s_beside) (by decide +kernel)) (fun _ _ _ _ _ => pg_name (i := 5) sc_beside.nd rfl (.inl rfl)) (fun _ _ _ _ _ => pts_nil)
          (fun _ _ _ _ _ => pe_op op_shl (pv 5) (pv 2)))))
      (pss_one (ps_ret (pe_call (ok_made T) (hr.mono (by decide)) (by rfl) T.made.g T.made.F.kp T.made.b .nil pass0 (pa_cons (pe_op op_add (pv 2) (pe_fld (pv 1) rfl)) (pa_cons (pv 3) (pa_cons (pv 4) pa_nil))))))))))), ?_⟩
    refine ⟨_, rfl, v, n, D, S, rfl, at_, ?_⟩
    refine ⟨_, rfl, u, m, D', S', rfl, au, ?_⟩
    obtain ⟨a, dx, tD, tS, dk, rfl, ha, hd, hs⟩ := id at_
    obtain ⟨b, dy, uD, uS, ek, rfl, hb, hd', hs'⟩ := id au
    refine ⟨_, rfl, a, T.C, dx, _, _, rfl, ha, T.cl, T.n1, flds_1 _ _ _ _, ?_⟩
    refine ⟨_, rfl, _, rfl, b, T.C, dy, _, _, rfl, hb, T.cl, T.n1, flds_1 _ _ _ _, _, _, rfl, rfl, .str "shelves", 8, ((n + m : Nat) : Int), rfl, by omega, ?_⟩
    -- a list of raised bits
    have raise : ∀ (Ds : List (List Nat)) (c : Addr) (Hx : Hp) (D0 : Addr) (σ : L2.St) (Qd : Hp → Prop), SqT K Hx c (vs1 (Ds.map bitsN)) → Hx D0 = none → (∀ k ∈ Ds, In8 k) → Ds.length ≤ 8 →
        (∀ x, wipe ((wipe σ [5]).set 5 (some x)) [5] = wipe σ [5]) → (∀ x, ((wipe σ [5]).set 5 (some x))[5]? = some (some x)) → (∀ x, ((wipe σ [5]).set 5 (some x))[2]? = some (some (vN n))) →
        (∀ H', Same Hx H' → H' D0 = some (.lst (vs1 (Ds.map fun k => bitsN (upL n k)))) → Qd H') → ∃ W : Nat → Nat → Hp → Prop, (∃ m, W 0 m (upd Hx D0 (.lst []))) ∧ ∀ i m H, W i m H →
      ((Itt K c).stop i H ∧ Qd H) ∨ ((Itt K c).go i H ∧ ∃ Nx : Hp → Prop, (∀ H', Nx H' → ∃ m', m' < m ∧ W (i + 1) m' H') ∧ ∀ x H', (Itt K c).yld i H x H' → gName 5 x (wipe σ [5]) H' fun σ2 H2 => wipe σ2 [5] = wipe σ [5] ∧ tYes σ2 H2 fun b H3 =>
        if b = true then tOp (rI CPow fun i j => .int (i * 2 ^ j.toNat)) (tVar 5) (tVar 2) σ2 H3 fun y H4 => ∃ acc, H4 D0 = some (.lst acc) ∧ acc.length < sizeLine ∧ Nx (upd H4 D0 (.lst (acc ++ [y]))) else Nx H3) := by
      intro Ds c Hx D0 σ Qd hc hD0 h8 hl w1 w2 w3 hq
      refine comp_all Ds (runs_tup hc) (by simp) (by omega) hD0 (fun k _ v => v = vN (bitsN (upL n k))) (fun _ _ _ _ _ h => h) (fun i x k H' Z hx hd kk z => ?_) (fun H' ys kk hy hys => ?_) ⟨5, rfl⟩
      · have ex : x = vN (bitsN k) := by
          rw [List.getElem?_map, List.getElem?_map, hd] at hx
          exact (Option.some.inj hx).symm
        subst ex
        have := bits_lt (h8 k (List.mem_of_getElem? hd))
        refine ⟨w1 _, _, w2 _, _, w3 _, ((bitsN k : Nat) : Int), (n : Int), rfl, rfl, ⟨by omega, by omega, by omega⟩, z _ _ (Same.refl _) ?_⟩
        exact congrArg V.int (shl_bits n k)
      · refine hq H' kk ?_
        have ey : ys = vs1 (Ds.map fun k => bitsN (upL n k)) := by
          refine (paired_fun hys).trans ?_
          show _ = List.map vN (List.map _ _)
          rw [List.map_map]
          rfl
        rw [← ey]
        exact hy
    refine ⟨_, rfl, a, T.C, dx, _, _, rfl, ha, T.cl, T.n2, flds_2 _ _ _ _, tD, _, rfl, .inr (SqT.of hd), fun l1 hl1 => ?_⟩
    have k1 : Same H (upd H l1 (.lst (vs1 (D.map bitsN)))) := same_new hl1
    refine ⟨_, rfl, b, T.C, dy, _, _, rfl, k1 _ _ hb, T.cl, T.n2, flds_2 _ _ _ _, uD, rfl, ⟨_, SqT.of (k1 _ _ hd')⟩, fun D0 hD0 => raise D' uD _ D0 _ _ (SqT.of (k1 _ _ hd')) hD0 (okD'.in8 le') (by omega) (fun _ => rfl) (fun _ => rfl) (fun _ => rfl) fun H2 k2 hy2 => ?_⟩
    refine ⟨l1, D0, _, _, rfl, rfl, k2 _ _ upd_same, hy2, by rw [List.length_map, List.length_map, List.length_map, List.length_map]; exact Nat.le_trans lD (by decide), fun p1 hp1 => ?_⟩
    have s2 : Same H H2 := k1.trans k2
    have k3 : Same H2 (upd H2 p1 (.lst (vs1 (D.map bitsN) ++ vs1 (D'.map fun k => bitsN (upL n k))))) := same_new hp1
    obtain ⟨H3, e3⟩ : ∃ H3, H3 = upd H2 p1 (.lst (vs1 (D.map bitsN) ++ vs1 (D'.map fun k => bitsN (upL n k)))) := ⟨_, rfl⟩
    have hp3 : H3 p1 = some (.lst (vs1 (D.map bitsN ++ D'.map fun k => bitsN (upL n k)))) := by rw [e3, ← vs1_app]; exact upd_same
    rw [← e3]
    rw [← e3] at k3
    clear e3
    have s3 := s2.trans k3
    refine ⟨_, rfl, a, T.C, dx, _, _, rfl, s3 _ _ ha, T.cl, T.n3, flds_3 _ _ _ _, tS, _, rfl, .inr (SqT.of (s3 _ _ hs)), fun l2 hl2 => ?_⟩
    have k4 : Same H3 (upd H3 l2 (.lst (vs1 (S.map bitsN)))) := same_new hl2
    have s4 := s3.trans k4
    refine ⟨_, rfl, b, T.C, dy, _, _, rfl, s4 _ _ hb, T.cl, T.n3, flds_3 _ _ _ _, uS, rfl, ⟨_, SqT.of (s4 _ _ hs')⟩, fun D1 hD1 => raise S' uS _ D1 _ _ (SqT.of (s4 _ _ hs')) hD1 (okS'.in8 le') (by omega) (fun _ => rfl) (fun _ => rfl) (fun _ => rfl) fun H5 k5 hy5 => ?_⟩
    refine ⟨l2, D1, _, _, rfl, rfl, k5 _ _ upd_same, hy5, by rw [List.length_map, List.length_map, List.length_map, List.length_map]; exact Nat.le_trans lS (by decide), fun p2 hp2 => ?_⟩
    have s5 := s4.trans k5
    have k6 : Same H5 (upd H5 p2 (.lst (vs1 (S.map bitsN) ++ vs1 (S'.map fun k => bitsN (upL n k))))) := same_new hp2
    have h6 : (upd H5 p2 (.lst (vs1 (S.map bitsN) ++ vs1 (S'.map fun k => bitsN (upL n k))))) p2 = some (.lst (vs1 (S.map bitsN ++ S'.map fun k => bitsN (upL n k)))) := by rw [upd_same, ← vs1_app]
    have b1 := bes_ok okD okD' hnm
    have b2 := bes_ok okS okS' hnm
    have e1 := bes_bits okD okD' hnm
    have e2' := bes_bits okS okS' hnm
    have o1 := b1.ok
    have o2 := b2.ok
    rw [e1] at o1
    rw [e2'] at o2
    have c1 : (bes n D D').length ≤ 8 := canon_le (by rw [List.length_append, List.length_map]; exact lD)
    have c2 : (bes n S S').length ≤ 8 := canon_le (by rw [List.length_append, List.length_map]; exact lS)
    refine ⟨_, rfl, _, rfl, b, T.C, dy, _, _, rfl, (s5.trans k6) _ _ hb, T.cl, T.n1, flds_1 _ _ _ _, _, _, rfl, rfl, _, rfl, _, rfl, n + m, p1, p2, _, _, rfl, by omega, hnm, .inl (SqL.of (k6 _ _ (k5 _ _ (k4 _ _ hp3)))), .inl (SqL.of h6), by rw [List.length_append, List.length_map, List.length_map]; omega, by rw [List.length_append, List.length_map, List.length_map]; omega, b1, b2,
      by rw [e1]; exact c1, by rw [e2']; exact c2, fun H7 r k7 st7 => ?_⟩
    rw [e1, e2'] at st7
    exact q H7 r (s5.trans (k6.trans k7)) ⟨st7, by omega, hnm, o1, o2, c1, c2⟩
/-! ### named -/
theorem bits_app (a b : List Nat) : bitsN (a ++ b) = bitsN a ||| bitsN b := by
  refine Nat.eq_of_testBit_eq fun i => ?_
  rw [Nat.testBit_or, testBit_bitsN, testBit_bitsN, testBit_bitsN, ← Bool.decide_or]
  exact decide_eq_decide.mpr List.mem_append
def spNamed (C : Addr) : Sp := fun vs H Q _ => ∃ (v : V) (n : Nat) (D S : List (List Nat)), vs = [v] ∧ StoreAt C H v n D S ∧ ∀ H' r, Same H H' → L1 (Nw H H') r (norm D.flatten) → Q r H'
theorem ok_named : FnOk P w K mg base CX0 3 T.named.f T.named.fd ["store"] (spNamed T.C) := by
  refine T.named.F.ok sc_named (fun vs H Q E h => ?_) (fun cdv A outer s H vs Q E hr h => ?_)
  · obtain ⟨v, n, D, S, rfl, _⟩ := h
    rfl
  · obtain ⟨v, n, D, S, rfl, at_, q⟩ := h
    obtain ⟨a, dx, tD, tS, dk, rfl, ha, hd, hs⟩ := id at_
    refine ⟨_, pss_cons (ps_expr (pe_call (ok_want_store T) (hr.mono (by decide)) (by rfl) T.want_store.g T.want_store.F.kp T.want_store.b .nil pass0 (pa_cons (pv 0) pa_nil)))
      (pss_cons (ps_set (i := 1) sc_named.nd rfl (.inl rfl) pe_int)
      (pss_cons (ps_for PassesOwn.never rfl (pi_tup (pe_fld (pv 0) rfl)) (pg_name (i := 2) sc_named.nd rfl (.inl rfl)) (pss_one (ps_set (i := 1) sc_named.nd rfl (.inl rfl) (pe_op op_or (pv 1) (pv 2)))))
      (pss_one (ps_ret (pe_call (ok_told_lot T) (hr.mono (by decide)) (by rfl) T.told_lot.g T.told_lot.F.kp T.told_lot.b .nil pass0 (pa_cons (pv 1) pa_nil)))))), ?_⟩
    refine ⟨_, rfl, _, n, D, S, rfl, at_, ?_⟩
    refine ⟨_, rfl, a, T.C, dx, _, _, rfl, ha, T.cl, T.n2, flds_2 _ _ _ _, tD, rfl, ⟨_, SqT.of hd⟩, for_by (runs_tup (K := K) (SqT.of hd)) (fun i σ H' => H' = H ∧ ∃ y, σ = [some (.ref a), some (vN (bitsN (D.take i).flatten)), y]) (fun i σ H' p => p.1 ▸ Same.refl _) ⟨rfl, _, rfl⟩ ?_ ?_⟩
    · rintro i x σ H' hi ⟨rfl, y, rfl⟩
      rw [List.getElem?_map, List.getElem?_map] at hi
      obtain ⟨b, hb, rfl⟩ := Option.map_eq_some_iff.mp hi
      obtain ⟨k, hk, rfl⟩ := Option.map_eq_some_iff.mp hb
      refine ⟨_, rfl, _, rfl, _, _, rfl, rfl, rfl, some (vN (bitsN k)), ?_⟩
      have e : (D.take (i + 1)).flatten = (D.take i).flatten ++ k := by rw [List.take_add_one, hk, List.flatten_append]; simp
      have e2 : vN (bitsN ((D.take i).flatten ++ k)) = V.int (Builtin.bitOr ((bitsN (D.take i).flatten : Nat) : Int) ((bitsN k : Nat) : Int)) := by
        rw [or_bits, bits_app]
        rfl
      rw [e, e2]
      rfl
    · rintro σ H' ⟨rfl, y, rfl⟩
      rw [show D.take (vs1 (D.map bitsN)).length = D from List.take_of_length_le (by simp)]
      exact ⟨_, rfl, bitsN D.flatten, rfl, fun H' r k hr => q H' r k hr⟩
end
end TA
namespace TA
open PySem PySem.Spec PyProof.Rows L2
/-! ### the script's numbers -/
def PotAt (H : Hp) (p : Addr) : Prop := ∃ x y : Int, H p = some (.lst [.int x, .int y]) ∧ 0 ≤ y ∧ y < 4294967296
/-- what is left as it stood when numbers are drawn from p -/
structure Drew (p : Addr) (H H' : Hp) : Prop where
  pot : PotAt H' p
  rest : Same (hid p H) (hid p H')
theorem Drew.trans {p : Addr} {H H1 H2 : Hp} (a : Drew p H H1) (b : Drew p H1 H2) : Drew p H H2 := ⟨b.pot, a.rest.trans b.rest⟩
theorem Drew.same {p : Addr} {H H' : Hp} (h : PotAt H p) (k : Same H H') : Drew p H H' := by
  obtain ⟨x, y, e, h1, h2⟩ := h
  exact ⟨⟨x, y, k _ _ e, h1, h2⟩, hid_mono k⟩
theorem PotAt.mono {p : Addr} {H H' : Hp} (h : PotAt H p) (k : Same H H') : PotAt H' p := (Drew.same h k).pot
theorem Drew.keep {p : Addr} {H H1 H2 : Hp} (a : Drew p H H1) (k : Same H1 H2) : Drew p H H2 := a.trans (.same a.pot k)
theorem Drew.get {p q : Addr} {H H' : Hp} {o : HO} (a : Drew p H H') (h : H q = some o) (ne : q ≠ p) : H' q = some o := same_hidp a.rest h ne
section
variable {P : Program} {w : World} {K : PySem.W.Frag} {mg : Str → Option Value} {base : Heap} (T : Tx K mg)
def spPot (K : PySem.W.Frag) : Sp := fun vs H Q _ => ∃ (a : Addr) (ns : List Int), vs = [.ref a, .int 0] ∧ SqL K H a (ns.map V.int) ∧ ∀ H' p, Same H H' → H p = none → PotAt H' p → Q (.ref p) H'
theorem pot_end (z : Int) : 0 ≤ z % 2147483579 + 1 ∧ z % 2147483579 + 1 < 4294967296 := by
  have h1 := Int.emod_nonneg z (show (2147483579 : Int) ≠ 0 by decide)
  have h2 := Int.emod_lt_of_pos z (show (0 : Int) < 2147483579 by decide)
  omega
theorem ok_pot : FnOk P w K mg base CX0 1 T.lw_pot.f T.lw_pot.fd ["_law_script", "_law_k"] (spPot K) := by
  refine T.lw_pot.F.ok sc_lw_pot (fun vs H Q E h => ?_) (fun cdv A outer s H vs Q E hr h => ?_)
  · obtain ⟨a, ns, rfl, _⟩ := h
    rfl
  · obtain ⟨a, ns, rfl, ha, q⟩ := h
    refine ⟨_, pss_cons (ps_set (i := 2) sc_lw_pot.nd rfl (.inl rfl) (pe_ifExp (pt_cmpR op_lt (pv 1) (pe_callB call_len_seq (by rfl) T.b_len boot_len (pa_cons (pv 0) pa_nil)) (nomark _))
        (pe_callB call_abs (by rfl) T.b_abs (by decide +kernel) (pa_cons (pe_ix ix_list (pv 0) (pv 1) fun _ _ => rfl) pa_nil)) (pe_op op_add (pe_op op_mul pe_int (pv 1)) pe_int)))
      (pss_one (ps_ret (pe_lst (pa_cons (pe_callB (call_max2 (by rfl)) (by rfl) T.b_max (by decide +kernel) (pa_cons pe_int (pa_cons (pe_op op_sub (pv 2) (pe_op op_pow pe_int pe_int)) pa_nil)))
        (pa_cons (pe_op op_add (pe_op op_mod (pe_callTy call_int1 (by rfl) T.b_int (by decide +kernel) (pa_cons (pe_op op_add (pe_op op_add (pe_op op_mul (pe_op op_mod (pe_callTy call_int1 (by rfl) T.b_int (by decide +kernel) (pa_cons (pv 2) pa_nil)) pe_int) pe_int) (pe_op op_mul pe_int (pv 1))) pe_int) pa_nil)) pe_int) pe_int) pa_nil))))), ?_⟩
    -- whatever the cell is
    have rest : ∀ c : Int, (tRet (tLst (tCons (tCB (fun xs H Q => ∃ i j, xs = [.int i, .int j] ∧ Q (.int (if j > i then j else i)) H) (tCons (tC (.int 0)) (tCons (tOp (rI0 fun i j => .int (i - j)) (tVar 2) (tOp (rI CPow fun i j => .int (i ^ j.toNat)) (tC (.int 10)) (tC (.int 18)))) tNil)))
        (tCons (tOp (rI0 fun i j => .int (i + j)) (tOp (rI (fun _ j => 0 < j) fun i j => .int (i % j)) (tCB (fun xs H Q => (∃ i, xs = [.int i] ∧ Q (.int i) H) ∨ ∃ k, xs = [.bl k] ∧ Q (.int (if k then 1 else 0)) H) (tCons (tOp (rI0 fun i j => .int (i + j)) (tOp (rI0 fun i j => .int (i + j)) (tOp (rI CMul fun i j => .int (i * j)) (tOp (rI (fun _ j => 0 < j) fun i j => .int (i % j))
          (tCB (fun xs H Q => (∃ i, xs = [.int i] ∧ Q (.int i) H) ∨ ∃ k, xs = [.bl k] ∧ Q (.int (if k then 1 else 0)) H) (tCons (tVar 2) tNil)) (tC (.int 2147483549))) (tC (.int 44119))) (tOp (rI CMul fun i j => .int (i * j)) (tC (.int 971)) (tVar 1))) (tC (.int 23081))) tNil)) (tC (.int 2147483579))) (tC (.int 1))) tNil))))
        { nx := fun _ H' => Q .non H', rt := Q } [some (.ref a), some (.int 0), some (.int c)] H := by
      intro c
      refine ⟨_, rfl, _, _, rfl, rfl, ⟨by decide, by decide, by decide⟩, _, _, rfl, rfl, _, _, rfl, ?_⟩
      refine ⟨_, rfl, .inl ⟨_, rfl, _, _, rfl, rfl, (by show (0 : Int) < _; decide), _, _, rfl, rfl, .inr ⟨by decide, by decide⟩, ?_⟩⟩
      refine ⟨_, rfl, _, _, rfl, rfl, .inl ⟨by decide, by decide⟩, _, _, rfl, rfl, _, _, rfl, rfl, .inl ⟨_, rfl, _, _, rfl, rfl, (by show (0 : Int) < _; decide), _, _, rfl, rfl, by show 2 ≤ sizeLine; decide, fun p hp => ?_⟩⟩
      have b := pot_end (c % 2147483549 * 44119 + 971 * 0 + 23081)
      exact q _ p (same_new hp) hp ⟨_, _, upd_same, b.1, b.2⟩
    refine ⟨_, rfl, _, rfl, a, _, rfl, .inl ha, _, _, rfl, rfl, _, rfl, ?_⟩
    by_cases h0 : (0 : Int) < ((ns.map V.int).length : Int)
    · rw [decide_eq_true h0]
      refine iteT ?_
      have hl : 0 < ns.length := by
        rw [List.length_map] at h0
        omega
      refine ⟨_, rfl, _, rfl, a, _, 0, .int ns[0], rfl, rfl, ha, atI_nat (j := 0) (by rw [List.getElem?_map, List.getElem?_eq_getElem hl]; rfl), _, rfl, rest _⟩
    · rw [decide_eq_false h0]
      refine iteF ?_
      exact ⟨_, rfl, _, _, rfl, rfl, .inl ⟨by decide, by decide⟩, _, _, rfl, rfl, rest _⟩
def spDraw : Sp := fun vs H Q _ => ∃ (p : Addr) (m : Nat), vs = [.ref p, vN m] ∧ 0 < m ∧ m ≤ 1000 ∧ PotAt H p ∧ ∀ H' d, d < m → Drew p H H' → Q (vN d) H'
theorem mod_nat (z : Int) {m : Nat} (h : 0 < m) : ∃ d : Nat, d < m ∧ z % (m : Int) = (d : Int) := by
  have h1 := Int.emod_nonneg z (show (m : Int) ≠ 0 by omega)
  have h2 := Int.emod_lt_of_pos z (show (0 : Int) < (m : Int) by omega)
  exact ⟨(z % (m : Int)).toNat, by omega, by omega⟩
theorem ok_draw : FnOk P w K mg base CX0 1 T.lw_draw.f T.lw_draw.fd ["_law_pot_here", "_law_many"] spDraw := by
  refine T.lw_draw.F.ok sc_lw_draw (fun vs H Q E h => ?_) (fun cdv A outer s H vs Q E hr h => ?_)
  · obtain ⟨p, m, rfl, _⟩ := h
    rfl
  · obtain ⟨p, m, rfl, h0, hm, ⟨x, y, hp, y0, y1⟩, q⟩ := h
    refine ⟨_, pss_cons (ps_if (pt_cmpR op_gt (pe_ix ix_list (pv 0) pe_int fun _ _ => rfl) pe_int (nomark _))
        (pss_cons (ps_asg (pe_callB call_divmodW (by rfl) T.b_divmod (by decide +kernel) (pa_cons (pe_ix ix_list (pv 0) pe_int fun _ _ => rfl) (pa_cons (pv 1) pa_nil)))
          (pg_tup (by rfl) (pgs_cons (pg_sub (pv 0) pe_int set_list) (pgs_cons (pg_name (i := 2) sc_lw_draw.nd rfl (.inl rfl)) pgs_nil)))) (pss_one (ps_ret (pv 2)))) pss_nil)
      (pss_cons (ps_asg (pe_op op_mod (pe_callTy call_int1 (by rfl) T.b_int (by decide +kernel) (pa_cons (pe_op op_add (pe_op op_mul (pe_ix ix_list (pv 0) pe_int fun _ _ => rfl) pe_int) pe_int) pa_nil)) pe_int) (pg_sub (pv 0) pe_int set_list))
      (pss_one (ps_ret (pe_op op_mod (pe_callTy call_int1 (by rfl) T.b_int (by decide +kernel) (pa_cons (pe_op op_fdiv (pe_op op_mod (pe_callTy call_int1 (by rfl) T.b_int (by decide +kernel) (pa_cons (pe_op op_mul (pe_ix ix_list (pv 0) pe_int fun _ _ => rfl) (pe_ix ix_list (pv 0) pe_int fun _ _ => rfl)) pa_nil)) pe_int) pe_int) pa_nil)) (pv 1))))), ?_⟩
    have at0 : ∀ x y : Int, atI [V.int x, V.int y] 0 = some (V.int x) := fun _ _ => rfl
    have at1 : ∀ x y : Int, atI [V.int x, V.int y] 1 = some (V.int y) := fun _ _ => rfl
    refine ⟨_, rfl, p, _, 0, _, rfl, rfl, SqL.of hp, at0 x y, _, _, rfl, rfl, _, rfl, ?_⟩
    by_cases hx : (0 : Int) < x
    · rw [decide_eq_true hx]
      refine iteT ?_
      refine ⟨_, rfl, p, _, 0, _, rfl, rfl, SqL.of hp, at0 x y, _, rfl, x, (m : Int), rfl, ⟨by omega, PyProof.noPylong_small (by omega)⟩, fun t ht => ?_⟩
      have nt : p ≠ t := ne_of_none hp ht
      refine ⟨t, _, rfl, SqT.of upd_same, rfl, _, _, rfl, _, rfl, p, _, 0, 0, rfl, rfl, by rw [upd_ne nt]; exact hp, rfl, _, _, rfl, rfl, _, rfl, ?_⟩
      obtain ⟨d, hd, ed⟩ := mod_nat x h0
      have ev : V.int (x % (m : Int)) = vN d := congrArg V.int ed
      have := q (upd (upd H t (.tup [.int (x / (m : Int)), .int (x % (m : Int))])) p (.lst [.int (x / (m : Int)), .int y])) d hd ⟨⟨_, _, upd_same, y0, y1⟩, (hid_mono (same_new ht)).trans hid_upd⟩
      rw [← ev] at this
      exact this
    · rw [decide_eq_false hx]
      refine iteF ?_
      refine ⟨_, rfl, p, _, 1, _, rfl, rfl, SqL.of hp, at1 x y, _, _, rfl, rfl, .inl ⟨by omega, by omega⟩, _, _, rfl, rfl, .inl ⟨_, rfl, _, _, rfl, rfl, (by show (0 : Int) < _; decide), ?_⟩⟩
      refine ⟨_, rfl, p, _, 1, 1, rfl, rfl, hp, rfl, ?_⟩
      have z0 : 0 ≤ (y * 44119 + 971) % 2147483629 := Int.emod_nonneg _ (by decide)
      have z1 : (y * 44119 + 971) % 2147483629 < 2147483629 := Int.emod_lt_of_pos _ (by decide)
      have fin : ∀ z : Int, 0 ≤ z → z < 2147483629 → tOp (rI (fun _ j => 0 < j) fun i j => .int (i % j)) (tCB (fun xs H Q => (∃ i, xs = [.int i] ∧ Q (.int i) H) ∨ ∃ k, xs = [.bl k] ∧ Q (.int (if k then 1 else 0)) H)
          (tCons (tOp (rI CDiv fun i j => .int (i / j)) (tOp (rI (fun _ j => 0 < j) fun i j => .int (i % j)) (tCB (fun xs H Q => (∃ i, xs = [.int i] ∧ Q (.int i) H) ∨ ∃ k, xs = [.bl k] ∧ Q (.int (if k then 1 else 0)) H)
            (tCons (tOp (rI CMul fun i j => .int (i * j)) (tOp (rIxL K) (tVar 0) (tC (.int 1))) (tOp (rIxL K) (tVar 0) (tC (.int 1)))) tNil)) (tC (.int 2147483587))) (tC (.int 13))) tNil)) (tVar 1) [some (.ref p), some (vN m), none] (upd H p (.lst [.int x, .int z])) Q := by
        intro z z0 z1
        refine ⟨_, rfl, p, _, 1, .int z, rfl, rfl, SqL.of upd_same, rfl, _, rfl, p, _, 1, .int z, rfl, rfl, SqL.of upd_same, rfl, _, _, rfl, rfl, .inl ⟨by omega, by omega⟩, .inl ⟨_, rfl, _, _, rfl, rfl, (by show (0 : Int) < _; decide), _, _, rfl, rfl, ⟨by decide, by decide⟩, .inl ⟨_, rfl, ?_⟩⟩⟩
        refine ⟨_, rfl, _, _, rfl, rfl, by show (0 : Int) < _; omega, ?_⟩
        obtain ⟨d, hd, ed⟩ := mod_nat (z * z % 2147483587 / 13) h0
        have ev : V.int (z * z % 2147483587 / 13 % (m : Int)) = vN d := congrArg V.int ed
        have := q (upd H p (.lst [.int x, .int z])) d hd ⟨⟨_, _, upd_same, z0, by omega⟩, hid_upd⟩
        rw [← ev] at this
        exact this
      exact fin _ z0 z1
end
end TA
namespace TA
open PySem PySem.Spec PyProof.Rows L2
theorem erase_perm {α : Type} : ∀ (l : List α) (d : Nat) (h : d < l.length), (l[d] :: l.eraseIdx d).Perm l
  | a :: l, 0, _ => List.Perm.refl _
  | a :: l, d + 1, h => by
    have h' : d < l.length := by simpa using h
    have ih := erase_perm l d h'
    show (l[d] :: a :: l.eraseIdx d).Perm (a :: l)
    exact (List.Perm.swap a l[d] _).trans (ih.cons a)
theorem erase_map {α β : Type} (f : α → β) : ∀ (l : List α) (d : Nat), (l.map f).eraseIdx d = (l.eraseIdx d).map f
  | [], _ => rfl
  | _ :: _, 0 => rfl
  | a :: l, d + 1 => congrArg (f a :: ·) (erase_map f l d)
theorem seq_ix {d n : Nat} (h : d < n) : seqIndex? (d : Int) n = some d := by
  unfold seqIndex?
  have h1 : ¬ (d : Int) < 0 := by omega
  simp only [h1, if_false]
  rw [if_pos (by simp; omega)]
  rfl
theorem rg_vs (n : Nat) : rgV 0 (n : Int) = vs1 (List.range n) := by
  unfold rgV
  rw [show ((n : Int) - 0).toNat = n by omega]
  refine List.map_congr_left fun i _ => ?_
  show V.int (0 + (i : Int)) = V.int (i : Int)
  rw [Int.zero_add]
/-- some are left in a list at q, some found in a list at f -/
structure Pick (p : Addr) (n : Nat) (H0 H : Hp) (q f : Addr) (left found : List Nat) : Prop where
  dr : Drew p H0 H
  nq : H0 q = none
  nf : H0 f = none
  qf : q ≠ f
  qp : q ≠ p
  fp : f ≠ p
  hq : H q = some (.lst (vs1 left))
  hf : H f = some (.lst (vs1 found))
  nd : (found ++ left).Nodup
  lt : ∀ x ∈ found ++ left, x < n
  ln : found.length + left.length = n
theorem Drew.mut {p q : Addr} {H0 H : Hp} {o : HO} (d : Drew p H0 H) (h : H0 q = none) (ne : q ≠ p) : Drew p H0 (upd H q o) := by
  obtain ⟨x, y, e, y0, y1⟩ := d.pot
  refine ⟨⟨x, y, by rw [upd_ne ne.symm]; exact e, y0, y1⟩, fun b u hb => ?_⟩
  have nb : b ≠ q := ne_of_none (of_hid hb).2 h
  obtain ⟨n1, n2⟩ := of_hid (d.rest b u hb)
  exact hid_get (by rw [upd_ne nb]; exact n2) n1
theorem Pick.step {p : Addr} {n : Nat} {H0 H H1 : Hp} {q f : Addr} {left found : List Nat} (k : Pick p n H0 H q f left found) (dr : Drew p H H1) {d : Nat} (hd : d < left.length) :
    Pick p n H0 (upd (upd H1 q (.lst ((vs1 left).eraseIdx d))) f (.lst (vs1 found ++ [vN left[d]]))) q f (left.eraseIdx d) (found ++ [left[d]]) := by
  have pm : (found ++ [left[d]] ++ left.eraseIdx d).Perm (found ++ left) := by
    rw [List.append_assoc]
    exact List.Perm.append_left found (erase_perm left d hd)
  refine ⟨((k.dr.trans dr).mut k.nq k.qp).mut k.nf k.fp, k.nq, k.nf, k.qf, k.qp, k.fp, ?_, ?_, pm.nodup_iff.mpr k.nd, fun x hx => k.lt x (pm.mem_iff.mp hx), ?_⟩
  · rw [upd_ne k.qf, upd_same, erase_map]
  · rw [upd_same, ← vs1_app]
    rfl
  · have := k.ln
    rw [List.length_append, List.length_eraseIdx, if_pos hd]
    simp only [List.length_cons, List.length_nil]
    omega
section
variable {P : Program} {w : World} {K : PySem.W.Frag} {mg : Str → Option Value} {base : Heap} (T : Tx K mg)
abbrev rLen1 (K : PySem.W.Frag) : List V → Hp → VK → Prop := fun xs H Q => ∃ p ys, xs = [.ref p] ∧ (SqL K H p ys ∨ SqT K H p ys) ∧ Q (.int ys.length) H
theorem pick_run {σ : L2.St} {H0 H : Hp} {D : Ends} {p q f : Addr} {n il jf : Nat} {left found : List Nat} (k : Pick p n H0 H q f left found) (h0 : σ[0]? = some (some (.ref p))) (hl : σ[il]? = some (some (.ref q))) (hf : σ[jf]? = some (some (.ref f)))
    (pos : left ≠ []) (hn : n ≤ 100) (next : ∀ H' left' found', Pick p n H0 H' q f left' found' → found'.length = found.length + 1 → D.nx σ H') :
    tDrop (tBM K "list" rAppend (tVar jf) (tCons (tBM K "list" rPopAt (tVar il) (tCons (tCall spDraw [] E0 (tCons (tVar 0) (tCons (tCB (rLen1 K) (tCons (tVar il) tNil)) tNil))) tNil)) tNil)) D σ H := by
  have hp : 0 < left.length := List.length_pos_iff.mpr pos
  have hle : left.length ≤ n := by have := k.ln; omega
  refine ⟨_, hf, .inl ⟨rfl, _, SqL.of k.hf⟩, _, hl, .inl ⟨rfl, _, SqL.of k.hq⟩, _, h0, _, hl, q, _, rfl, .inl (SqL.of k.hq), ?_⟩
  rw [List.length_map]
  refine ⟨p, left.length, rfl, hp, by omega, k.dr.pot, fun H1 d hd dr => ?_⟩
  have hl1 : (vs1 left).length = left.length := List.length_map _
  have hq1 := dr.get k.hq k.qp
  have hf1 := dr.get k.hf k.fp
  have ex : (vs1 left)[d]? = some (vN left[d]) := by
    rw [List.getElem?_map, List.getElem?_eq_getElem hd]
    rfl
  refine ⟨q, vs1 left, (d : Int), d, vN left[d], rfl, rfl, hq1, by omega, by omega, by rw [hl1]; exact seq_ix hd, ex, ?_⟩
  refine ⟨f, vs1 found, _, rfl, rfl, by rw [upd_ne k.qf.symm]; exact hf1, ?_, ?_⟩
  · rw [List.length_map]
    exact Nat.lt_of_le_of_lt (show found.length ≤ 100 by have := k.ln; omega) (by decide)
  · exact next _ _ _ (k.step dr hd) (by rw [List.length_append]; rfl)
/-- a lot drawn -/
def spLot : Sp := fun vs H Q _ => ∃ (p : Addr) (n least : Nat), vs = [.ref p, vN n, vN least] ∧ least ≤ n ∧ n ≤ 8 ∧ PotAt H p ∧ ∀ H' v l, Drew p H H' → L1 (Nw H H') v l → LotOk n l → least ≤ l.length → Q v H'
theorem ok_lot : FnOk P w K mg base CX0 2 T.lw_lot.f T.lw_lot.fd ["_law_pot_here", "_law_shelves", "_law_least"] spLot := by
  refine T.lw_lot.F.ok sc_lw_lot (fun vs H Q E h => ?_) (fun cdv A outer s H vs Q E hr h => ?_)
  · obtain ⟨p, n, least, rfl, _⟩ := h
    rfl
  · obtain ⟨p, n, least, rfl, hl, hn, pot, qq⟩ := h
    refine ⟨_, pss_cons (ps_par (i := 3) (j := 4) (by rfl) sc_lw_lot.nd rfl rfl (by decide) rfl rfl (pa_cons (pe_listRg (by rfl) (by rfl) T.b_list (prg_1 (by rfl) T.b_range (pv 1))) (pa_cons (pe_lst pa_nil) pa_nil)) (by rfl))
      (pss_cons (ps_for PassesOwn.never rfl (pi_range1 (by rfl) T.b_range (pa_cons (pe_op op_addN (pv 2) (pe_call (ok_draw T) (hr.mono (by decide)) (by rfl) T.lw_draw.g T.lw_draw.F.kp T.lw_draw.b .nil pass0
            (pa_cons (pv 0) (pa_cons (pe_op op_subN (pe_op op_addN (pv 1) pe_int) (pv 2)) pa_nil)))) pa_nil)) (pg_name (i := 5) sc_lw_lot.nd rfl (.inl rfl))
        (pss_one (ps_expr (pe_bm PySem.F.plainAttrs_list PySem.F.slot_list_append PySem.F.type_list_append mt_append (pv 4) (pa_cons (pe_bm PySem.F.plainAttrs_list PySem.F.slot_list_pop PySem.F.type_list_pop mt_popAt (pv 3)
          (pa_cons (pe_call (ok_draw T) (hr.mono (by decide)) (by rfl) T.lw_draw.g T.lw_draw.F.kp T.lw_draw.b .nil pass0 (pa_cons (pv 0) (pa_cons (pe_callB call_len_seq (by rfl) T.b_len boot_len (pa_cons (pv 3) pa_nil)) pa_nil))) pa_nil)) pa_nil)))))
      (pss_one (ps_ret (pv 4)))), ?_⟩
    refine ⟨_, rfl, (n : Int), rfl, ⟨by omega, by omega, by omega, by omega, by omega⟩, fun q hq => ⟨by show 0 ≤ sizeLine; decide, fun f hf => ⟨_, _, rfl, ?_⟩⟩⟩
    rw [rg_vs] at hf ⊢
    obtain ⟨x, y, hp, y0, y1⟩ := id pot
    have nqp : q ≠ p := (ne_of_none hp hq).symm
    have nqf : q ≠ f := fun e => by
      rw [← e, upd_same] at hf
      cases hf
    have hf0 : H f = none := by
      rw [upd_ne nqf.symm] at hf
      exact hf
    have nfp : f ≠ p := (ne_of_none hp hf0).symm
    have k0 : Pick p n H (upd (upd H q (.lst (vs1 (List.range n)))) f (.lst [])) q f (List.range n) [] := by
      refine ⟨((Drew.same pot (Same.refl H)).mut hq nqp).mut hf0 nfp, hq, hf0, nqf, nqp, nfp, by rw [upd_ne nqf, upd_same], by rw [upd_same]; rfl, List.nodup_range, fun x hx => List.mem_range.mp hx, by simp⟩
    refine ⟨_, rfl, _, rfl, _, rfl, n, 1, rfl, rfl, _, rfl, n + 1, least, rfl, rfl, by omega, p, n + 1 - least, rfl, by omega, by omega, k0.dr.pot, fun H1 d hd dr => ?_⟩
    have k1 : Pick p n H H1 q f (List.range n) [] := ⟨k0.dr.trans dr, hq, hf0, nqf, nqp, nfp, dr.get k0.hq nqp, dr.get k0.hf nfp, k0.nd, k0.lt, k0.ln⟩
    refine ⟨least, d, rfl, rfl, ((least + d : Nat) : Int), rfl, by omega, by omega, ?_⟩
    refine for_by (H0 := fun _ => none) (runs_range (least + d)) (fun i σ H' => ∃ y left found, σ = [some (.ref p), some (vN n), some (vN least), some (.ref q), some (.ref f), y] ∧ found.length = i ∧ Pick p n H H' q f left found) (fun _ _ _ _ _ _ e => by cases e) ⟨_, _, _, rfl, rfl, k1⟩ ?_ ?_
    · rintro i x σ H' hi ⟨y, left, found, rfl, hfi, k⟩
      have hlt : i < least + d := by
        have := (List.getElem?_eq_some_iff.mp hi).1
        simpa using this
      refine pick_run (K := K) (il := 3) (jf := 4) k rfl rfl rfl (fun e => ?_) (by omega) fun H2 left' found' k' hl' => ?_
      · have := k.ln
        rw [e] at this
        simp only [List.length_nil] at this
        omega
      · exact ⟨_, left', found', rfl, by omega, k'⟩
    · rintro σ H' ⟨y, left, found, rfl, hfi, k⟩
      have hfl : found.length = least + d := by
        rw [hfi]
        simp
      refine ⟨_, rfl, qq H' _ found k.dr ⟨f, rfl, nw_get k.nf k.hf⟩ ⟨(List.nodup_append.mp k.nd).1, fun x hx => k.lt x (List.mem_append_left _ hx), by omega⟩ (by omega)⟩
/-- an order drawn -/
def spOrder : Sp := fun vs H Q _ => ∃ (p : Addr) (n : Nat), vs = [.ref p, vN n] ∧ n ≤ 8 ∧ PotAt H p ∧ ∀ H' v o, Drew p H H' → L1 (Nw H H') v o → OrdOk n o → Q v H'
theorem ok_order : FnOk P w K mg base CX0 2 T.lw_order.f T.lw_order.fd ["_law_pot_here", "_law_shelves"] spOrder := by
  refine T.lw_order.F.ok sc_lw_order (fun vs H Q E h => ?_) (fun cdv A outer s H vs Q E hr h => ?_)
  · obtain ⟨p, n, rfl, _⟩ := h
    rfl
  · obtain ⟨p, n, rfl, hn, pot, qq⟩ := h
    refine ⟨_, pss_cons (ps_par (i := 2) (j := 3) (by rfl) sc_lw_order.nd rfl rfl (by decide) rfl rfl (pa_cons (pe_listRg (by rfl) (by rfl) T.b_list (prg_1 (by rfl) T.b_range (pv 1))) (pa_cons (pe_lst pa_nil) pa_nil)) (by rfl))
      (pss_cons (ps_while PassesOwn.never (pt_cmpR (op_neD hr.units) (pv 2) (pe_lst pa_nil) (nomark _))
        (pss_one (ps_expr (pe_bm PySem.F.plainAttrs_list PySem.F.slot_list_append PySem.F.type_list_append mt_append (pv 3) (pa_cons (pe_bm PySem.F.plainAttrs_list PySem.F.slot_list_pop PySem.F.type_list_pop mt_popAt (pv 2)
          (pa_cons (pe_call (ok_draw T) (hr.mono (by decide)) (by rfl) T.lw_draw.g T.lw_draw.F.kp T.lw_draw.b .nil pass0 (pa_cons (pv 0) (pa_cons (pe_callB call_len_seq (by rfl) T.b_len boot_len (pa_cons (pv 2) pa_nil)) pa_nil))) pa_nil)) pa_nil)))))
      (pss_one (ps_ret (pv 3)))), ?_⟩
    refine ⟨_, rfl, (n : Int), rfl, ⟨by omega, by omega, by omega, by omega, by omega⟩, fun q hq => ⟨by show 0 ≤ sizeLine; decide, fun f hf => ⟨_, _, rfl, ?_⟩⟩⟩
    rw [rg_vs] at hf ⊢
    obtain ⟨x, y, hp, y0, y1⟩ := id pot
    have nqp : q ≠ p := (ne_of_none hp hq).symm
    have nqf : q ≠ f := fun e => by
      rw [← e, upd_same] at hf
      cases hf
    have hf0 : H f = none := by
      rw [upd_ne nqf.symm] at hf
      exact hf
    have nfp : f ≠ p := (ne_of_none hp hf0).symm
    have k0 : Pick p n H (upd (upd H q (.lst (vs1 (List.range n)))) f (.lst [])) q f (List.range n) [] := by
      refine ⟨((Drew.same pot (Same.refl H)).mut hq nqp).mut hf0 nfp, hq, hf0, nqf, nqp, nfp, by rw [upd_ne nqf, upd_same], by rw [upd_same]; rfl, List.nodup_range, fun x hx => List.mem_range.mp hx, by simp⟩
    refine ⟨fun m σ H' => ∃ left found, σ = [some (.ref p), some (vN n), some (.ref q), some (.ref f)] ∧ m + found.length = n ∧ Pick p n H H' q f left found, ⟨n, _, _, rfl, rfl, k0⟩, ?_⟩
    rintro m σ H' ⟨left, found, rfl, hm, k⟩
    refine ⟨_, rfl, by show 0 ≤ sizeLine; decide, fun e he => ?_⟩
    have sm : Same H' (upd H' e (.lst [])) := same_new he
    refine ⟨dL left, dL [], L1.dp ⟨q, rfl, sm _ _ k.hq⟩, L1.dp (l := []) ⟨e, rfl, upd_same⟩, shaped_row _, shaped_row _, _, rfl, ?_⟩
    rw [eqv_row]
    have ke : Pick p n H (upd H' e (.lst [])) q f left found := ⟨k.dr.keep sm, hq, hf0, nqf, nqp, nfp, sm _ _ k.hq, sm _ _ k.hf, k.nd, k.lt, k.ln⟩
    by_cases hz : left = []
    · rw [decide_eq_true hz]
      refine iteF ⟨_, rfl, qq _ _ found ke.dr ⟨f, rfl, nw_get ke.nf ke.hf⟩ ⟨⟨(List.nodup_append.mp k.nd).1, fun x hx => k.lt x (List.mem_append_left _ hx), ?_⟩, ?_⟩⟩
      · have := k.ln
        omega
      · have := k.ln
        rw [hz] at this
        simpa using this
    · rw [decide_eq_false hz]
      refine iteT ⟨fun σ H' => ∃ left' found', σ = [some (.ref p), some (vN n), some (.ref q), some (.ref f)] ∧ found'.length = found.length + 1 ∧ Pick p n H H' q f left' found', ?_, ?_⟩
      · rintro σ' H2 ⟨left', found', rfl, hl', k'⟩
        have := k'.ln
        exact ⟨m - 1, by omega, left', found', rfl, by omega, k'⟩
      · exact pick_run (K := K) (il := 2) (jf := 3) ke rfl rfl rfl hz (by omega) fun H2 left' found' k' hl' => ⟨left', found', rfl, hl', k'⟩
end
end TA
namespace TA
open PySem PySem.Spec PyProof.Rows L2
theorem Drew.has {p b : Addr} {H H' : Hp} (d : Drew p H H') (h : H b ≠ none) : H' b ≠ none := by
  by_cases e : b = p
  · subst e
    obtain ⟨x, y, q, _⟩ := d.pot
    rw [q]
    exact nofun
  · cases hb : H b with
    | none => exact absurd hb h
    | some o =>
      rw [d.get hb e]
      exact nofun
/-- what is new stays, p and f being known before -/
theorem nw_dr {p f : Addr} {Hf H' H2 : Hp} {o : HO} (hp : Hf p ≠ none) (hf : Hf f ≠ none) (d : Drew p H' H2) : Same (Nw Hf H') (Nw Hf (upd H2 f o)) := fun b u h => by
  obtain ⟨h1, h2⟩ := of_nw h
  have np : b ≠ p := fun e => hp (e ▸ h1)
  have nf : b ≠ f := fun e => hf (e ▸ h1)
  exact nw_get h1 (by rw [upd_ne nf]; exact d.get h2 np)
theorem nw_late {Hf H' H2 : Hp} {f : Addr} {o : HO} (hd : ∀ b, Hf b ≠ none → H' b ≠ none) (hf : H' f ≠ none) : Same (Nw H' H2) (Nw Hf (upd H2 f o)) := fun b u h => by
  obtain ⟨h1, h2⟩ := of_nw h
  have nf : b ≠ f := fun e => hf (e ▸ h1)
  refine nw_get ?_ (by rw [upd_ne nf]; exact h2)
  cases e : Hf b with
  | none => rfl
  | some u => exact absurd h1 (hd b (by rw [e]; exact nofun))
theorem vs_len {F : V → List Nat → Prop} {vs : List V} {ks : List (List Nat)} (h : Paired F vs ks) : vs.length = ks.length := h.length
section
variable {P : Program} {w : World} {K : PySem.W.Frag} {mg : Str → Option Value} {base : Heap} (T : Tx K mg)
def spKinds : Sp := fun vs H Q _ => ∃ (p : Addr) (n m : Nat), vs = [.ref p, vN n, vN m] ∧ 1 ≤ n ∧ n ≤ 8 ∧ m ≤ 50 ∧ PotAt H p ∧ ∀ H' v ks, Drew p H H' → L2s (Nw H H') v ks → (∀ k ∈ ks, KindOk n k) → ks.length ≤ m → Q v H'
theorem ok_kinds : FnOk P w K mg base CX0 3 T.lw_kinds.f T.lw_kinds.fd ["_law_pot_here", "_law_shelves", "_law_most"] spKinds := by
  refine T.lw_kinds.F.ok sc_lw_kinds (fun vs H Q E h => ?_) (fun cdv A outer s H vs Q E hr h => ?_)
  · obtain ⟨p, n, m, rfl, _⟩ := h
    rfl
  · obtain ⟨p, n, m, rfl, h1, hn, hm, pot, qq⟩ := h
    refine ⟨_, pss_cons (ps_set (i := 3) sc_lw_kinds.nd rfl (.inl rfl) (pe_lst pa_nil))
      (pss_cons (ps_for PassesOwn.never rfl (pi_range1 (by rfl) T.b_range (pa_cons (pe_call (ok_draw T) (hr.mono (by decide)) (by rfl) T.lw_draw.g T.lw_draw.F.kp T.lw_draw.b .nil pass0
            (pa_cons (pv 0) (pa_cons (pe_op op_addN (pv 2) pe_int) pa_nil))) pa_nil)) (pg_name (i := 4) sc_lw_kinds.nd rfl (.inl rfl))
        (pss_one (ps_expr (pe_bm PySem.F.plainAttrs_list PySem.F.slot_list_append PySem.F.type_list_append mt_append (pv 3) (pa_cons (pe_call (ok_lot T) (hr.mono (by decide)) (by rfl) T.lw_lot.g T.lw_lot.F.kp T.lw_lot.b .nil pass0 (pa_cons (pv 0) (pa_cons (pv 1) (pa_cons pe_int pa_nil)))) pa_nil)))))
      (pss_one (ps_ret (pv 3)))), ?_⟩
    refine ⟨by show 0 ≤ sizeLine; decide, fun f hf => ?_⟩
    obtain ⟨x, y, hp, y0, y1⟩ := id pot
    have nfp : f ≠ p := (ne_of_none hp hf).symm
    have d0 : Drew p H (upd H f (.lst [])) := (Drew.same pot (Same.refl H)).mut hf nfp
    obtain ⟨Hf, eHf⟩ : ∃ Hf, Hf = upd H f (.lst []) := ⟨_, rfl⟩
    rw [← eHf] at d0 ⊢
    have hff : Hf f = some (.lst []) := by rw [eHf]; exact upd_same
    have sf : Same H Hf := by rw [eHf]; exact same_new hf
    have hpf : Hf p ≠ none := d0.has (by rw [hp]; exact nofun)
    have hfn : Hf f ≠ none := by rw [hff]; exact nofun
    have has : ∀ {H' : Hp} {vs : List V}, Drew p H H' → H' f = some (.lst vs) → ∀ b, Hf b ≠ none → H' b ≠ none := fun {H' vs} d e b hb => by
      by_cases eb : b = f
      · rw [eb, e]
        exact nofun
      · refine d.has ?_
        rw [eHf, upd_ne eb] at hb
        exact hb
    refine ⟨_, rfl, _, rfl, m, 1, rfl, rfl, p, m + 1, rfl, by omega, by omega, d0.pot, fun H1 d hd dr => ?_⟩
    refine ⟨(d : Int), rfl, by omega, by omega, ?_⟩
    refine for_by (H0 := fun _ => none) (runs_range d) (fun i σ H' => ∃ y vs ks, σ = [some (.ref p), some (vN n), some (vN m), some (.ref f), y] ∧ ks.length = i ∧ Drew p H H' ∧ H' f = some (.lst vs) ∧ Paired (L1 (Nw Hf H')) vs ks ∧ ∀ k ∈ ks, KindOk n k) (fun _ _ _ _ _ _ e => by cases e)
      ⟨_, [], [], rfl, rfl, d0.trans dr, dr.get hff nfp, .nil, fun _ h => absurd h List.not_mem_nil⟩ ?_ ?_
    · rintro i x σ H' hi ⟨y, vs, ks, rfl, hl, dH, hfv, hpr, hk⟩
      have hlt : i < d := by
        have := (List.getElem?_eq_some_iff.mp hi).1
        simpa using this
      have hvl := vs_len hpr
      refine ⟨_, rfl, .inl ⟨rfl, _, SqL.of hfv⟩, _, rfl, _, rfl, p, n, 1, rfl, h1, hn, dH.pot, fun H2 v l d2 hv hlo hle => ?_⟩
      refine ⟨f, vs, v, rfl, rfl, d2.get hfv nfp, Nat.lt_of_le_of_lt (show vs.length ≤ 100 by omega) (by decide), ?_⟩
      refine ⟨_, vs ++ [v], ks ++ [l], rfl, by rw [List.length_append, hl]; rfl, (dH.trans d2).mut hf nfp, upd_same, paired_app (paired_mono hpr (nw_dr hpf hfn d2)) (.cons (hv.mono (nw_late (has dH hfv) (by rw [hfv]; exact nofun))) .nil), fun k h => ?_⟩
      rcases List.mem_append.mp h with h | h
      · exact hk k h
      · rw [List.mem_singleton.mp h]
        exact ⟨hlo, fun e => by rw [e] at hle; simp at hle⟩
    · rintro σ H' ⟨y, vs, ks, rfl, hl, dH, hfv, hpr, hk⟩
      have hfl : ks.length = d := by
        rw [hl]
        simp
      exact ⟨_, rfl, qq H' _ ks dH ⟨f, vs, rfl, nw_get hf hfv, paired_mono hpr (nw_back sf)⟩ hk (by omega)⟩
/-! ### told, by the law -/
theorem sort_row {k : List Nat} {ns : List Int} (nd : k.Nodup) (h8 : In8 k) (pm : ns.Perm (cI k)) (le : ns.Pairwise (· ≤ ·)) : ns.map V.int = vs1 (norm k) := by
  have nds : ns.Nodup := pm.nodup_iff.mpr (by
    refine List.Pairwise.map (R := fun a b : Nat => a ≠ b) _ (fun a b h e => h (Int.ofNat.inj e)) nd)
  have up : ns.Pairwise (· < ·) := (le.and nds).imp fun ⟨h1, h2⟩ => by omega
  obtain ⟨bs, rfl, ub, hb⟩ := ints_back up (bs := k) fun j => by
    rw [pm.mem_iff]
    exact decide_eq_true_iff.symm
  rw [← ints_vs]
  congr 1
  exact ext_nat ub (norm_up k) fun x => by rw [hb x, mem_norm h8]
theorem once_snoc (l : List (List Nat)) (k : List Nat) : once (l ++ [k]) = if k ∈ once l then once l else once l ++ [k] := by
  unfold once
  rw [List.foldl_append]
  rfl
theorem any_eqv (l : List (List Nat)) (k : List Nat) : (l.map dL).any (fun z => PyData.eqv z (dL k)) = decide (k ∈ l) := by
  rw [List.any_map]
  induction l with
  | nil => rfl
  | cons a l ih =>
    rw [List.any_cons, ih]
    show (PyData.eqv (dL a) (dL k) || _) = _
    rw [eqv_row, ← Bool.decide_or]
    refine decide_eq_decide.mpr ?_
    rw [List.mem_cons]
    exact ⟨fun h => h.imp Eq.symm id, fun h => h.imp Eq.symm id⟩
def Lots8 (ks : List (List Nat)) : Prop := ks.length ≤ 50 ∧ ∀ k ∈ ks, k.Nodup ∧ In8 k
theorem Lots8.of {n : Nat} {ks : List (List Nat)} (h : ∀ k ∈ ks, KindOk n k) (hn : n ≤ 8) (hl : ks.length ≤ 50) : Lots8 ks := ⟨hl, fun k hk => ⟨(h k hk).1.1, fun x hx => by have := (h k hk).1.2.1 x hx; omega⟩⟩
def spTold : Sp := fun vs H Q _ => ∃ (v : V) (ks : List (List Nat)), vs = [v] ∧ S2s H v ks ∧ Lots8 ks ∧ ∀ H' r, Same H H' → L2s (Nw H H') r (told ks) → Q r H'
theorem ok_told : FnOk P w K mg base CX0 1 T.lw_told.f T.lw_told.fd ["_law_kinds_here"] spTold := by
  refine T.lw_told.F.ok sc_lw_told (fun vs H Q E h => ?_) (fun cdv A outer s H vs Q E hr h => ?_)
  · obtain ⟨v, ks, rfl, _⟩ := h
    rfl
  · obtain ⟨v, ks, rfl, ⟨a, vs, rfl, hor, hpr⟩, ⟨hl, hk⟩, qq⟩ := h
    have hu65 : (A.deeper (envOfC ("_law_told" : Str) (defScope s_lw_told) s.heap.objs.size T.lw_told.f cdv)).units + 65 < cLine := by have := hr.un; omega
    refine ⟨_, pss_cons (ps_set (i := 1) sc_lw_told.nd rfl (.inl rfl) (pe_lst pa_nil))
      (pss_cons (ps_for PassesOwn.never rfl (pi_list (pe_callB (cr_sortRows hr.units) (by rfl) T.b_sorted (by decide +kernel) (pa_cons (pe_lc (own := [("_law_kind", 2)]) (g := gName 2) (by rfl) sc_lw_told.nd (pi_seq (pv 0))
            (blkOk_by (own := [("_law_kind", 2)]) (N := ["_law_kinds_here", "_law_found", "_law_kind"]) (sc := defScope s_lw_told) (by decide +kernel)) (fun _ _ _ _ _ => pg_name (i := 2) sc_lw_told.nd rfl (.inl rfl)) (fun _ _ _ _ _ => pts_nil)
            (fun _ _ _ _ _ => pe_callB (r := rSorted K) cr_sorted (by rfl) T.b_sorted (by decide +kernel) (pa_cons (pv 2) pa_nil))) pa_nil)))
          (pg_name (i := 2) sc_lw_told.nd rfl (.inl rfl))
          (pss_one (ps_if (pt_cmpR (op_notInD hu65) (pv 2) (pv 1) (by rfl)) (pss_one (ps_expr (pe_bm PySem.F.plainAttrs_list PySem.F.slot_list_append PySem.F.type_list_append mt_append (pv 1) (pa_cons (pv 2) pa_nil)))) pss_nil)))
      (pss_one (ps_ret (pv 1)))), ?_⟩
    refine ⟨by show 0 ≤ sizeLine; decide, fun f hf => ?_⟩
    have sf : Same H (upd H f (.lst [])) := same_new hf
    obtain ⟨Hf, eHf⟩ : ∃ Hf, Hf = upd H f (.lst []) := ⟨_, rfl⟩
    rw [← eHf] at sf ⊢
    have hff : Hf f = some (.lst []) := by rw [eHf]; exact upd_same
    refine ⟨_, rfl, a, vs, rfl, hor.imp (fun h => SqL.of (sf _ _ h)) (fun h => SqT.of (sf _ _ h)), fun J hJ D hD => comp_all ks hJ hpr.length (by omega) hD (fun k N v => L1 N v (norm k)) (fun _ _ _ _ k h => h.mono k) (fun i x k H' Z hx hd kk z => ?_) (fun H' ys kk hy hys => ?_) ⟨2, rfl⟩⟩
    · obtain ⟨k', hk', hL⟩ := paired_get hpr i x hx
      have ed : k' = k := Option.some.inj (hk'.symm.trans hd)
      subst ed
      obtain ⟨b, rfl, hb⟩ := (hL.mono sf).mono kk
      obtain ⟨nd, h8⟩ := hk k' (List.mem_of_getElem? hd)
      have := len_in8 nd h8
      refine ⟨rfl, _, rfl, b, cI k', rfl, SqL.of (by rw [← ints_vs]; exact hb), by rw [List.length_map]; omega, fun ns p pm le hp => z _ _ (same_new hp) ⟨p, rfl, nw_get hp ?_⟩⟩
      rw [upd_same, sort_row nd h8 pm le]
    · have hp' : Paired (L1 (Nw Hf H')) ys (ks.map norm) := paired_map (Paired.mono (fun _ _ h => L1.mono h (nw_start hD)) hys)
      refine ⟨D, ys, ks.map norm, L1 (Nw Hf H'), rfl, SqL.of hy, hp', fun x k h => (h.mono nw_same).dp, by rw [List.length_map]; omega, fun p3 vs' ks' hp3 pm le hPr => ?_⟩
      have s3 : Same H' (upd H' p3 (.lst vs')) := same_new hp3
      obtain ⟨H3, e3⟩ : ∃ H3, H3 = upd H' p3 (.lst vs') := ⟨_, rfl⟩
      have hp3' : H3 p3 = some (.lst vs') := by rw [e3]; exact upd_same
      rw [← e3] at s3 ⊢
      have k3 : Same Hf H3 := kk.trans s3
      have hPr3 : Paired (L1 (Nw Hf H3)) vs' ks' := paired_mono hPr (nw_mono s3)
      have nfp : p3 ≠ f := (ne_of_none (kk _ _ hff) hp3).symm
      have kl : ks'.length ≤ 50 := by
        rw [pm.length_eq, List.length_map]
        exact hl
      have hvl := vs_len hPr3
      have sb : ∀ {H4 : Hp}, Same (hid f H3) (hid f H4) → Same (Nw Hf H3) (Nw Hf H4) := fun {H4} h b o q => by
        obtain ⟨q1, q2⟩ := of_nw q
        have nb : b ≠ f := fun e => by
          rw [e, hff] at q1
          cases q1
        exact nw_get q1 (same_hidp h q2 nb)
      have hlen : ∀ l : List (List Nat), (once l).length ≤ l.length := by
        intro l
        have h : ∀ (l f : List (List Nat)), (l.foldl (fun f k => if k ∈ f then f else f ++ [k]) f).length ≤ f.length + l.length := by
          intro l
          induction l with
          | nil => exact fun f => Nat.le_refl _
          | cons a l ih =>
            intro f
            rw [List.foldl_cons, List.length_cons]
            split
            · have := ih f
              omega
            · have := ih (f ++ [a])
              rw [List.length_append] at this
              simp only [List.length_cons, List.length_nil] at this
              omega
        have := h l []
        rw [List.length_nil, Nat.zero_add] at this
        exact this
      refine ⟨p3, rfl, ⟨_, SqL.of hp3'⟩, for_by (H0 := hid f H3) (runs_list (K := K) (SqL.of (hid_get hp3' nfp)))
        (fun i σ H4 => ∃ y ws, σ = [some (.ref a), some (.ref f), y] ∧ Same (hid f H3) (hid f H4) ∧ H4 f = some (.lst ws) ∧ Paired (L1 (Nw Hf H4)) ws (once (ks'.take i))) (fun i σ H4 ⟨_, _, _, h, _⟩ => h.trans hid_same) ⟨_, [], rfl, Same.refl _, k3 _ _ hff, .nil⟩ ?_ ?_⟩
      · rintro i x σ H4 hi ⟨y, ws, rfl, hs, hfw, hw⟩
        obtain ⟨k, hk', hL⟩ := paired_get hPr3 i x hi
        have hL4 : L1 (Nw Hf H4) x k := hL.mono (sb hs)
        have e1 : ks'.take (i + 1) = ks'.take i ++ [k] := by rw [List.take_add_one, hk']; rfl
        have hwl := vs_len hw
        have := hlen (ks'.take i)
        rw [List.length_take] at this
        refine ⟨_, rfl, _, rfl, dL k, (once (ks'.take i)).map dL, (hL4.mono nw_same).dp, .lst (SqL.of hfw) (dpAll_rows (paired_mono hw nw_same)), shaped_row k, shaped_rows _, _, rfl, ?_⟩
        rw [any_eqv]
        by_cases hm : k ∈ once (ks'.take i)
        · rw [decide_eq_true hm]
          refine iteF ⟨some x, ws, rfl, hs, hfw, ?_⟩
          rw [e1, once_snoc, if_pos hm]
          exact hw
        · rw [decide_eq_false hm]
          refine iteT ⟨_, rfl, .inl ⟨rfl, _, SqL.of hfw⟩, _, rfl, f, ws, x, rfl, rfl, hfw, Nat.lt_of_le_of_lt (show ws.length ≤ 50 by omega) (by decide), some x, ws ++ [x], rfl, hs.trans hid_upd, upd_same, ?_⟩
          rw [e1, once_snoc, if_neg hm]
          have st : Same (Nw Hf H4) (Nw Hf (upd H4 f (.lst (ws ++ [x])))) := fun b o q => by
            obtain ⟨q1, q2⟩ := of_nw q
            have nb : b ≠ f := fun e => by
              rw [e, hff] at q1
              cases q1
            exact nw_get q1 (by rw [upd_ne nb]; exact q2)
          exact paired_app (paired_mono hw st) (.cons (hL4.mono st) .nil)
      · rintro σ H4 ⟨y, ws, rfl, hs, hfw, hw⟩
        rw [show ks'.take vs'.length = ks' from List.take_of_length_le (by omega)] at hw
        have eo : once ks' = told ks := once_canon le fun x => pm.mem_iff
        rw [eo] at hw
        refine ⟨_, rfl, qq H4 _ (fun b o hb => ?_) ⟨f, ws, rfl, nw_get hf hfw, paired_mono hw (nw_back sf)⟩⟩
        exact same_hidp hs (k3 _ _ (sf _ _ hb)) (ne_of_none hb hf)
end
end TA
namespace TA
open PySem PySem.Spec PyProof.Rows L2
theorem nw_drew {p : Addr} {H H1 H2 : Hp} (hp : H p ≠ none) (d : Drew p H1 H2) : Same (Nw H H1) (Nw H H2) := fun b u h => by
  obtain ⟨h1, h2⟩ := of_nw h
  exact nw_get h1 (d.get h2 fun e => hp (e ▸ h1))
theorem nw_after {p : Addr} {H H1 H2 : Hp} (d : Drew p H H1) : Same (Nw H1 H2) (Nw H H2) := fun b u h => by
  obtain ⟨h1, h2⟩ := of_nw h
  refine nw_get ?_ h2
  cases e : H b with
  | none => rfl
  | some u => exact absurd h1 (d.has (by rw [e]; exact nofun))
theorem PotAt.some {H : Hp} {p : Addr} (h : PotAt H p) : H p ≠ none := by
  obtain ⟨x, y, e, _⟩ := h
  rw [e]
  exact nofun
/-- what the law keeps of a store to make: n, the deliveries, the sales -/
def WorldAt (H : Hp) (v : V) (n : Nat) (D S : List (List Nat)) : Prop := ∃ a b c, v = .ref a ∧ H a = some (.tup [vN n, b, c]) ∧ L2s H b D ∧ L2s H c S
theorem WorldAt.mono {H H' : Hp} {v : V} {n : Nat} {D S : List (List Nat)} (h : WorldAt H v n D S) (k : Same H H') : WorldAt H' v n D S := by
  obtain ⟨a, b, c, e, h1, h2, h3⟩ := h
  exact ⟨a, b, c, e, k _ _ h1, h2.mono k, h3.mono k⟩
theorem KindOk.rev {n : Nat} {k : List Nat} (h : KindOk n k) : KindOk n k.reverse := by
  obtain ⟨⟨nd, hx, hl⟩, ne⟩ := h
  exact ⟨⟨(List.reverse_perm k).nodup_iff.mpr nd, fun x h => hx x (List.mem_reverse.mp h), by rw [List.length_reverse]; exact hl⟩, fun e => ne (List.reverse_eq_nil_iff.mp e)⟩
section
variable {P : Program} {w : World} {K : PySem.W.Frag} {mg : Str → Option Value} {base : Heap} (T : Tx K mg)
/-- the law's own renaming -/
def spLMoved : Sp := fun vs H Q _ => ∃ (v u : V) (n : Nat) (ks : List (List Nat)) (o : List Nat), vs = [v, u] ∧ S2s H v ks ∧ L1 H u o ∧ OrdOk n o ∧ n ≤ 8 ∧ (∀ k ∈ ks, KindOk n k) ∧ ks.length ≤ 50 ∧
  ∀ H' r, Same H H' → L2s (Nw H H') r (told (ks.map (mv o))) → Q r H'
theorem ok_lmoved : FnOk P w K mg base CX0 2 T.lw_moved.f T.lw_moved.fd ["_law_kinds_here", "_law_order_here"] spLMoved := by
  refine T.lw_moved.F.ok sc_lw_moved (fun vs H Q E h => ?_) (fun cdv A outer s H vs Q E hr h => ?_)
  · obtain ⟨v, u, n, ks, o, rfl, _⟩ := h
    rfl
  · obtain ⟨v, u, n, ks, o, rfl, ⟨a, vs, rfl, hor, hpr⟩, ⟨b, rfl, hb⟩, ho, hn, hk, hl, q⟩ := h
    refine ⟨_, pss_one (ps_ret (pe_call (ok_told T) (hr.mono (by decide)) (by rfl) T.lw_told.g T.lw_told.F.kp T.lw_told.b .nil pass0 (pa_cons (pe_lc (own := [("_law_kind", 2)]) (g := gName 2) (by rfl) sc_lw_moved.nd (pi_seq (pv 0))
      (blkOk_by (own := [("_law_kind", 2)]) (N := ["_law_kinds_here", "_law_order_here", "_law_kind", "_law_shelf"]) (sc := defScope s_lw_moved) (by decide +kernel)) (fun _ _ _ _ _ => pg_name (i := 2) sc_lw_moved.nd rfl (.inl rfl)) (fun _ _ _ _ _ => pts_nil)
      (fun _ _ _ _ _ => pe_lc (own := [("_law_shelf", 3)]) (wi := iList K (tVar 2)) (g := gName 3) (by rfl) sc_lw_moved.nd (pi_list (pv 2))
        (blkOk_by (own := [("_law_shelf", 3)]) (N := ["_law_kinds_here", "_law_order_here", "_law_kind", "_law_shelf"]) (sc := relS (lcSc (arg0 (retE (nthS 0 s_lw_moved)))) (defScope s_lw_moved)) (by decide +kernel)) (fun _ _ _ _ _ => pg_name (i := 3) sc_lw_moved.nd rfl (.inl rfl)) (fun _ _ _ _ _ => pts_nil)
        (fun _ _ _ _ _ => pe_ix (r := rIxL K) ix_list (pv 1) (pv 3) fun _ _ => rfl))) pa_nil))), ?_⟩
    refine ⟨_, rfl, a, vs, rfl, hor.imp (fun h => SqL.of h) (fun h => SqT.of h), fun J hJ D0 hD0 => comp_all ks hJ hpr.length (by omega) hD0 (fun k N v => L1 N v (mv o k)) (fun _ _ _ _ k h => h.mono k) (fun i x k H' Z hx hd kk z => ?_) (fun H' ys kk hy hys => ?_) ⟨2, rfl⟩⟩
    · obtain ⟨k', hk', hL⟩ := paired_get hpr i x hx
      have ed : k' = k := Option.some.inj (hk'.symm.trans hd)
      subst ed
      obtain ⟨c, rfl, hc⟩ := hL.mono kk
      have hkk := hk k' (List.mem_of_getElem? hd)
      have hll := hkk.1.2.2
      refine ⟨rfl, _, rfl, c, rfl, ⟨_, SqL.of hc⟩, fun D1 hD1 => comp_all k' (runs_list (K := K) (SqL.of hc)) (by simp) (by omega) hD1 (fun x _ v => v = vN (o.getD x 0)) (fun _ _ _ _ _ h => h) (fun j y e H3 Z3 hyj hdj k3 z3 => ?_) (fun H3 ys k3 hy3 hys3 => ?_) ⟨3, rfl⟩⟩
      · have ey : y = vN e := by
          rw [List.getElem?_map, hdj] at hyj
          exact (Option.some.inj hyj).symm
        subst ey
        have hlt : e < o.length := by rw [ho.2]; exact hkk.1.2.1 e (List.mem_of_getElem? hdj)
        refine ⟨rfl, _, rfl, _, rfl, b, vs1 o, (e : Int), vN (o.getD e 0), rfl, rfl, SqL.of (k3 _ _ (kk _ _ hb)), atI_nat ?_, z3 _ _ (Same.refl _) rfl⟩
        rw [List.getElem?_map, List.getElem?_eq_getElem hlt, getD_lt hlt]
        rfl
      · have ey : ys = vs1 (mv o k') := by
          refine (paired_fun hys3).trans ?_
          show _ = List.map vN (List.map _ _)
          rw [List.map_map]
          rfl
        subst ey
        exact z _ _ k3 ⟨D1, rfl, nw_get hD1 hy3⟩
    · have hp' : Paired (L1 H') ys (ks.map (mv o)) := paired_map (Paired.mono (fun _ _ h => L1.mono h nw_same) hys)
      refine ⟨.ref D0, ks.map (mv o), rfl, ⟨D0, ys, rfl, .inl hy, hp'⟩, Lots8.of (n := n) (fun k h => ?_) hn (by rw [List.length_map]; exact hl), fun H2 r k2 hr2 => q H2 r (kk.trans k2) (hr2.mono (nw_back kk))⟩
      obtain ⟨k0, h0, rfl⟩ := List.mem_map.mp h
      exact ho.kind (hk k0 h0)
def spStore : Sp := fun vs H Q _ => ∃ (p : Addr) (m : Nat), vs = [.ref p, vN m, vN 3] ∧ 2 ≤ m ∧ m ≤ 8 ∧ PotAt H p ∧ ∀ H' v n D S, Drew p H H' → WorldAt (Nw H H') v n D S → 2 ≤ n → n ≤ m → (∀ k ∈ D, KindOk n k) → (∀ k ∈ S, KindOk n k) → D.length ≤ 4 → S.length ≤ 3 → Q v H'
theorem ok_store : FnOk P w K mg base CX0 4 T.lw_store.f T.lw_store.fd ["_law_pot_here", "_law_most", "_law_kinds_here"] spStore := by
  refine T.lw_store.F.ok sc_lw_store (fun vs H Q E h => ?_) (fun cdv A outer s H vs Q E hr h => ?_)
  · obtain ⟨p, m, rfl, _⟩ := h
    rfl
  · obtain ⟨p, m, rfl, m2, m8, pot, q⟩ := h
    refine ⟨_, pss_cons (ps_set (i := 3) sc_lw_store.nd rfl (.inl rfl) (pe_op op_addN pe_int (pe_call (ok_draw T) (hr.mono (by decide)) (by rfl) T.lw_draw.g T.lw_draw.F.kp T.lw_draw.b .nil pass0 (pa_cons (pv 0) (pa_cons (pe_op op_subN (pv 1) pe_int) pa_nil)))))
      (pss_cons (ps_par (i := 4) (j := 5) (by rfl) sc_lw_store.nd rfl rfl (by decide) rfl rfl (pa_cons (pe_call (ok_kinds T) (hr.mono (by decide)) (by rfl) T.lw_kinds.g T.lw_kinds.F.kp T.lw_kinds.b .nil pass0 (pa_cons (pv 0) (pa_cons (pv 3) (pa_cons (pv 2) pa_nil))))
          (pa_cons (pe_call (ok_kinds T) (hr.mono (by decide)) (by rfl) T.lw_kinds.g T.lw_kinds.F.kp T.lw_kinds.b .nil pass0 (pa_cons (pv 0) (pa_cons (pv 3) (pa_cons (pv 2) pa_nil)))) pa_nil)) (by rfl))
      (pss_cons (ps_if (PW.pt (pw_and (pt_cmpR (op_neD hr.units) (pv 4) (pe_lst pa_nil) (nomark _)) (pw_and1 (pt_cmpR op_eq (pe_call (ok_draw T) (hr.mono (by decide)) (by rfl) T.lw_draw.g T.lw_draw.F.kp T.lw_draw.b .nil pass0 (pa_cons (pv 0) (pa_cons pe_int pa_nil))) pe_int (nomark _)))))
          (pss_one (ps_set (i := 4) sc_lw_store.nd rfl (.inl rfl) (pe_op op_cat (pv 4) (pe_lst (pa_cons (pe_revL (pe_ix ix_list (pv 4) pe_int fun _ _ => rfl)) pa_nil))))) pss_nil)
      (pss_one (ps_ret (pe_tup (pa_cons (pv 3) (pa_cons (pv 4) (pa_cons (pv 5) pa_nil)))))))), ?_⟩
    have hpn := pot.some
    refine ⟨_, rfl, _, rfl, m, 1, rfl, rfl, by omega, p, m - 1, rfl, by omega, by omega, pot, fun H1 d hd d1 => ?_⟩
    refine ⟨2, d, rfl, rfl, ?_⟩
    refine ⟨_, rfl, _, rfl, _, rfl, p, 2 + d, 3, rfl, by omega, by omega, by decide, d1.pot, fun H2 v2 D d2 hv2 kD lD => ?_⟩
    refine ⟨_, rfl, _, rfl, _, rfl, p, 2 + d, 3, rfl, by omega, by omega, by decide, d2.pot, fun H3 v3 S d3 hv3 kS lS => ⟨v2, v3, rfl, ?_⟩⟩
    have hD3 : L2s (Nw H H3) v2 D := (hv2.mono (nw_after d1)).mono (nw_drew hpn d3)
    have hS3 : L2s (Nw H H3) v3 S := hv3.mono (nw_after (d1.trans d2))
    have dr3 := d1.trans (d2.trans d3)
    refine ⟨_, rfl, by show 0 ≤ sizeLine; decide, fun e he => ?_⟩
    have k4 : Same H3 (upd H3 e (.lst [])) := same_new he
    obtain ⟨H4, e4⟩ : ∃ H4, H4 = upd H3 e (.lst []) := ⟨_, rfl⟩
    have he4 : H4 e = some (.lst []) := by rw [e4]; exact upd_same
    rw [← e4] at k4 ⊢
    have dr4 := dr3.keep k4
    have hD4 : L2s (Nw H H4) v2 D := hD3.mono (nw_mono k4)
    have hS4 : L2s (Nw H H4) v3 S := hS3.mono (nw_mono k4)
    -- the end, for whatever deliveries there are
    have fin : ∀ (H5 : Hp) (v : V) (D5 : List (List Nat)), Drew p H H5 → L2s (Nw H H5) v D5 → L2s (Nw H H5) v3 S → (∀ k ∈ D5, KindOk (2 + d) k) → D5.length ≤ 4 → tRet (tTup (tCons (tVar 3) (tCons (tVar 4) (tCons (tVar 5) tNil)))) { nx := fun _ H' => Q .non H', rt := Q }
        [some (.ref p), some (vN m), some (vN 3), some (vN (2 + d)), some v, some v3] H5 := by
      intro H5 v D5 d5 hv hs kd ld
      refine ⟨_, rfl, _, rfl, _, rfl, by show 3 ≤ sizeLine; decide, fun t ht => ?_⟩
      have k6 : Same H5 (upd H5 t (.tup [vN (2 + d), v, v3])) := same_new ht
      refine q _ _ (2 + d) D5 S (d5.keep k6) ⟨t, v, v3, rfl, nw_get ?_ upd_same, hv.mono (nw_mono k6), hs.mono (nw_mono k6)⟩ (by omega) (by omega) kd kS ld lS
      cases eh : H t with
      | none => rfl
      | some o => exact absurd ht (d5.has (by rw [eh]; exact nofun))
    refine ⟨dLL D, dLL [], (hD4.mono nw_same).dp, L2s.dp (ks := []) ⟨e, [], rfl, he4, .nil⟩, shaped_rows _, shaped_rows _, _, rfl, ?_⟩
    rw [eqv_rows]
    by_cases hz : D = []
    · rw [decide_eq_true hz]
      exact iteF (iteF (fin H4 v2 D dr4 hD4 hS4 kD (by omega)))
    · rw [decide_eq_false hz]
      refine iteT ⟨_, rfl, p, 3, rfl, by decide, by decide, dr4.pot, fun H5 d' hd' d5 => ?_⟩
      have dr5 := dr4.trans d5
      have hD5 : L2s (Nw H H5) v2 D := hD4.mono (nw_drew hpn d5)
      have hS5 : L2s (Nw H H5) v3 S := hS4.mono (nw_drew hpn d5)
      refine ⟨rfl, _, rfl, ite2 (fun _ => ?_) (fun _ => fin H5 v2 D dr5 hD5 hS5 kD (by omega))⟩
      obtain ⟨a, vs, rfl, ha, hpr⟩ := id hD5
      obtain ⟨k0, ks, rfl⟩ := List.exists_cons_of_ne_nil hz
      cases hpr with
      | cons h1 hrest =>
        rename_i x0 xs
        obtain ⟨c, rfl, hc⟩ := id h1
        have hc5 := (of_nw hc).2
        have ha5 := (of_nw ha).2
        refine ⟨_, rfl, _, rfl, a, _, 0, .ref c, rfl, rfl, SqL.of ha5, atI_nat (j := 0) rfl, c, _, rfl, SqL.of hc5, fun g hg => ⟨by show 1 ≤ sizeLine; decide, fun e2 he2 => ?_⟩⟩
        have k6 : Same H5 (upd H5 g (.lst (vs1 k0).reverse)) := same_new hg
        have k7 : Same (upd H5 g (.lst (vs1 k0).reverse)) (upd (upd H5 g (.lst (vs1 k0).reverse)) e2 (.lst [.ref g])) := same_new he2
        have k67 := k6.trans k7
        have hg7 := k7 _ _ upd_same
        obtain ⟨H7, e7⟩ : ∃ H7, H7 = upd (upd H5 g (.lst (vs1 k0).reverse)) e2 (.lst [.ref g]) := ⟨_, rfl⟩
        have he7 : H7 e2 = some (.lst [.ref g]) := by rw [e7]; exact upd_same
        rw [← e7] at k67 hg7 ⊢
        refine ⟨a, e2, _, _, rfl, rfl, k67 _ _ ha5, he7, ?_, fun l hl => ?_⟩
        · have := vs_len hrest
          refine Nat.le_trans (m := 10) ?_ (by decide)
          simp only [List.length_cons, List.length_nil] at lD ⊢
          omega
        · have k8 := same_new (o := .lst (.ref c :: xs ++ [.ref g])) hl
          have g0 : H g = none := by
            cases eh : H g with
            | none => rfl
            | some o => exact absurd hg (dr5.has (by rw [eh]; exact nofun))
          have l0 : H l = none := by
            cases eh : H l with
            | none => rfl
            | some o => exact absurd hl ((dr5.keep k67).has (by rw [eh]; exact nofun))
          refine fin _ (.ref l) (k0 :: ks ++ [k0.reverse]) (dr5.keep (k67.trans k8)) ⟨l, _, rfl, nw_get l0 upd_same, paired_app (paired_mono (.cons h1 hrest) (nw_mono (k67.trans k8))) (.cons ⟨g, rfl, nw_get g0 ?_⟩ .nil)⟩ (hS5.mono (nw_mono (k67.trans k8))) (fun k hk => ?_) ?_
          · rw [k8 _ _ hg7]
            unfold vs1
            rw [List.map_reverse]
          · rcases List.mem_append.mp hk with h | h
            · exact kD k h
            · rw [List.mem_singleton.mp h]
              exact (kD k0 List.mem_cons_self).rev
          · rw [List.length_append]
            simp only [List.length_cons, List.length_nil] at lD ⊢
            omega
end
end TA
namespace TA
open PySem PySem.Spec PyProof.Rows L2
theorem smR_of {k : List Nat} (h : In8 k) (hl : k.length ≤ 60) : SmR k := ⟨hl, fun x hx => by have := h x hx; omega⟩
theorem smRs_ok {n : Nat} {D : List (List Nat)} (h : KdsOk n D) (hn : n ≤ 8) (hl : D.length ≤ 60) : SmRs D := ⟨hl, fun k hk => smR_of (h.in8 hn k hk) (by
  have := len_in8 (nodup_lt (h.2 k hk).2.1) (h.in8 hn k hk)
  omega)⟩
section
variable {P : Program} {w : World} {K : PySem.W.Frag} {mg : Str → Option Value} {base : Heap} (T : Tx K mg)
/-- the law's look at a store, where it must say yes -/
def spIs (C : Addr) : Sp := fun vs H Q _ => ∃ (v u z : V) (n : Nat) (D S ds ss : List (List Nat)), vs = [v, vN n, u, z] ∧ St8 C H v n D S ∧ S2s H u ds ∧ S2s H z ss ∧ Lots8 ds ∧ Lots8 ss ∧ told ds = D ∧ told ss = S ∧
  ∀ H', Same H H' → Q (.bl true) H'
theorem ok_is : FnG P w K mg base 4 T.lw_is.f T.lw_is.fd ["_law_store_here", "_law_shelves", "_law_deliveries", "_law_sales"] (spIs T.C) := by
  refine okG T.lw_is.F sc_lw_is (fun vs H Q E h => ?_) (fun cdv A outer s H vs Q E hg hr h => ?_)
  · obtain ⟨v, u, z, n, D, S, ds, ss, rfl, _⟩ := h
    rfl
  · obtain ⟨v, u, z, n, D, S, ds, ss, rfl, st, hu, hz, l8, m8, eD, eS, q⟩ := h
    obtain ⟨at_, two, le, okD, okS, lD, lS⟩ := id st
    refine ⟨_, pss_one (ps_ret (pe_cmpR op_eq
      (pe_callB (cr_repr hg hr.units) (by rfl) T.b_repr (by decide +kernel) (pa_cons (pe_lst (pa_cons (pe_prop (pv 0) T.cl T.PP (ok_shelves T) (hr.mono (by decide)) T.bP .nil pass0 rfl)
        (pa_cons (pe_meth0 (pv 0) T.cl T.MD (ok_deliveries T) (hr.mono (by decide)) T.bD .nil pass0) (pa_cons (pe_meth0 (pv 0) T.cl T.MS (ok_sales T) (hr.mono (by decide)) T.bS .nil pass0) pa_nil)))) pa_nil))
      (pe_callB (cr_repr hg hr.units) (by rfl) T.b_repr (by decide +kernel) (pa_cons (pe_lst (pa_cons (pv 1) (pa_cons (pe_call (ok_told T) (hr.mono (by decide)) (by rfl) T.lw_told.g T.lw_told.F.kp T.lw_told.b .nil pass0 (pa_cons (pv 2) pa_nil))
        (pa_cons (pe_call (ok_told T) (hr.mono (by decide)) (by rfl) T.lw_told.g T.lw_told.F.kp T.lw_told.b .nil pass0 (pa_cons (pv 3) pa_nil)) pa_nil)))) pa_nil)) (nomark _))), ?_⟩
    obtain ⟨a, dx, tD, tS, dk, rfl, ha, hd, hs⟩ := id at_
    refine ⟨_, rfl, a, dx, _, rfl, ha, .ref a, n, D, S, rfl, at_, ?_⟩
    refine ⟨_, rfl, a, dx, _, rfl, ha, flds_no _ _ _ _ (by decide +kernel) (by decide +kernel) (by decide +kernel) (by decide +kernel), .ref a, n, D, S, rfl, at_, le, okD, by show D.length ≤ 100; omega, fun H1 r1 k1 hr1 => ?_⟩
    refine ⟨_, rfl, a, dx, _, rfl, k1 _ _ ha, flds_no _ _ _ _ (by decide +kernel) (by decide +kernel) (by decide +kernel) (by decide +kernel), .ref a, n, D, S, rfl, at_.mono k1, le, okS, by show S.length ≤ 100; omega, fun H2 r2 k2 hr2 => ?_⟩
    have sD := smRs_ok okD le (by omega)
    have sS := smRs_ok okS le (by omega)
    have sh := shows_list (n := n) (by omega) sD sS
    refine ⟨by show 3 ≤ sizeLine; decide, fun l hl => ?_⟩
    have k3 : Same H2 (upd H2 l (.lst [vN n, r1, r2])) := same_new hl
    refine ⟨l, .list (dW n D S), rfl, .lst (SqL.of upd_same) (.cons (.int n) (.cons (((hr1.mono nw_same).mono (k2.trans k3)).dp) (.cons (((hr2.mono nw_same).mono k3).dp) .nil))), sh.sh, sh.nd, sh.dp, sh.sz, ?_⟩
    have s3 := k1.trans (k2.trans k3)
    refine ⟨_, rfl, _, rfl, u, ds, rfl, hu.mono s3, l8, fun H4 r4 k4 hr4 => ?_⟩
    refine ⟨_, rfl, z, ss, rfl, (hz.mono s3).mono k4, m8, fun H5 r5 k5 hr5 => ?_⟩
    rw [eD] at hr4
    rw [eS] at hr5
    refine ⟨by show 3 ≤ sizeLine; decide, fun l2 hl2 => ?_⟩
    have k6 : Same H5 (upd H5 l2 (.lst [vN n, r4, r5])) := same_new hl2
    refine ⟨l2, .list (dW n D S), rfl, .lst (SqL.of upd_same) (.cons (.int n) (.cons (((hr4.mono nw_same).mono (k5.trans k6)).dp) (.cons (((hr5.mono nw_same).mono k6).dp) .nil))), sh.sh, sh.nd, sh.dp, sh.sz, rfl, ?_⟩
    exact q_bl (Q := Q) (decide_eq_true rfl) (q _ (s3.trans (k4.trans (k5.trans k6))))
end
end TA
namespace TA
open PySem PySem.Spec PyProof.Rows L2
theorem in_vs (l : List Nat) (d : Nat) : inV (vN d) (vs1 l) = decide (d ∈ l) := by
  unfold inV
  induction l with
  | nil => rfl
  | cons a l ih =>
    show (eqV (vN a) (vN d) || (vs1 l).any fun y => eqV y (vN d)) = _
    rw [ih]
    have e : eqV (vN a) (vN d) = decide (d = a) := by
      show ((a : Int) == (d : Int)) = _
      by_cases h : d = a
      · subst h
        simp
      · rw [decide_eq_false h]
        exact beq_eq_false_iff_ne.mpr (by omega)
    rw [e, ← Bool.decide_or]
    exact decide_eq_decide.mpr List.mem_cons.symm
theorem flat_vs (l : List Nat) : (vs1 l).all flatV = true := by
  rw [List.all_map, List.all_eq_true]
  exact fun _ _ => rfl
section
variable {K : PySem.W.Frag} {σ : L2.St} {H : Hp} {Q : Bool → Hp → Prop} {i j d : Nat} {a : Addr} {l : List Nat}
theorem t_in (h1 : σ[i]? = some (some (vN d))) (h2 : σ[j]? = some (some (.ref a))) (ha : H a = some (.lst (vs1 l))) (q : Q (decide (d ∈ l)) H) : tTest (tOp (rIn K false) (tVar i) (tVar j)) σ H Q := by
  refine ⟨_, h1, _, h2, a, vs1 l, rfl, .inl (SqL.of ha), rfl, flat_vs l, _, rfl, ?_⟩
  rw [← in_vs] at q
  exact q
theorem t_notin (h1 : σ[i]? = some (some (vN d))) (h2 : σ[j]? = some (some (.ref a))) (ha : H a = some (.lst (vs1 l))) (q : Q (!decide (d ∈ l)) H) : tTest (tOp (rIn K true) (tVar i) (tVar j)) σ H Q := by
  refine ⟨_, h1, _, h2, a, vs1 l, rfl, .inl (SqL.of ha), rfl, flat_vs l, _, rfl, ?_⟩
  rw [← in_vs] at q
  exact q
end
theorem lot_n {n : Nat} {p : Nat → Bool} (hn : n ≤ 8) (h : ∀ i, p i = true → i < n) : (List.range n).filter p = lotBy p := by
  unfold lotBy
  refine ext_nat (List.pairwise_lt_range.filter _) (List.pairwise_lt_range.filter _) fun x => ?_
  rw [List.mem_filter, List.mem_filter, List.mem_range, List.mem_range]
  exact ⟨fun ⟨h1, h2⟩ => ⟨by omega, h2⟩, fun ⟨_, h2⟩ => ⟨h x h2, h2⟩⟩
theorem mem_lot {p : Nat → Bool} {x : Nat} : x ∈ lotBy p ↔ x < 8 ∧ p x = true := by
  unfold lotBy
  rw [List.mem_filter, List.mem_range]
theorem lotBy_ok {n : Nat} {p : Nat → Bool} (h : ∀ i, p i = true → i < n) : LotOk n (lotBy p) :=
  ⟨List.nodup_range.filter _, fun x hx => h x (mem_lot.mp hx).2, Nat.le_trans (List.length_filter_le _ _) (by simp)⟩
theorem due_comp {n D i : Nat} {H : Hp} {σ : L2.St} {tt : TT} {Qd : Hp → Prop} {p : Nat → Bool} (hn : n ≤ 8) (hD : H D = none) (hp : ∀ i, p i = true → i < n) (hw : ∀ x, wipe ((wipe σ [i]).set i (some x)) [i] = wipe σ [i]) (hs : ∀ x, ((wipe σ [i]).set i (some x))[i]? = some (some x))
    (ht : ∀ (d : Nat) (H' : Hp) (Q : Bool → Hp → Prop), Same H H' → Q (p d) H' → tt ((wipe σ [i]).set i (some (vN d))) H' Q) (q : ∀ H', Same H H' → L1 (Nw H H') (.ref D) (lotBy p) → Qd H') :
    ∃ W : Nat → Nat → Hp → Prop, (∃ m, W 0 m (upd H D (.lst []))) ∧ ∀ j m H, W j m H →
      ((Itr 0 n).stop j H ∧ Qd H) ∨ ((Itr 0 n).go j H ∧ ∃ Nx : Hp → Prop, (∀ H', Nx H' → ∃ m', m' < m ∧ W (j + 1) m' H') ∧ ∀ x H', (Itr 0 n).yld j H x H' → gName i x (wipe σ [i]) H' fun σ2 H2 => wipe σ2 [i] = wipe σ [i] ∧ tt σ2 H2 fun b H3 =>
        if b = true then tVar i σ2 H3 fun y H4 => ∃ acc, H4 D = some (.lst acc) ∧ acc.length < sizeLine ∧ Nx (upd H4 D (.lst (acc ++ [y]))) else Nx H3) := by
  refine comp_by (List.range n) (runs_range n) (by simp) (by simp; omega) hD p (fun d _ v => v = vN d) (fun _ _ _ _ _ h => h) (fun j x d H' Z Zn hx hd k z1 z2 => ?_) fun H' ys k hy hys => ?_
  · have ex : x = vN d := by
      rw [List.getElem?_map, hd] at hx
      exact (Option.some.inj hx).symm
    subst ex
    refine ⟨hw _, ht d H' _ k ?_⟩
    cases e : p d with
    | true => exact iteT ⟨_, hs _, z1 _ _ e (Same.refl _) rfl⟩
    | false => exact iteF (z2 _ e (Same.refl _))
  · have ey : ys = vs1 ((List.range n).filter p) := paired_fun hys
    subst ey
    rw [lot_n hn hp] at hy
    exact q H' k ⟨D, rfl, nw_get hD hy⟩
theorem iteF' {c : Bool} {A B : Prop} (h : c = false) (b : B) : if c = true then A else B := by
  rw [h]
  exact iteF b
theorem iteT' {c : Bool} {A B : Prop} (h : c = true) (a : A) : if c = true then A else B := by
  rw [h]
  exact iteT a
theorem wi_lt {n : Nat} {l m : List Nat} (h : LotOk n l) : ∀ i, (decide (i ∈ l) && !decide (i ∈ m)) = true → i < n := fun i e => by
  rw [Bool.and_eq_true, decide_eq_true_eq] at e
  exact h.2.1 i e.1
theorem cm_lt {n : Nat} {l m : List Nat} (h : LotOk n l) : ∀ i, (decide (i ∈ l) && decide (i ∈ m)) = true → i < n := fun i e => by
  rw [Bool.and_eq_true, decide_eq_true_eq] at e
  exact h.2.1 i e.1
theorem jn_lt {n : Nat} {l m : List Nat} (h : LotOk n l) (h' : LotOk n m) : ∀ i, (decide (i ∈ l) || decide (i ∈ m)) = true → i < n := fun i e => by
  rw [Bool.or_eq_true, decide_eq_true_eq, decide_eq_true_eq] at e
  exact e.elim (h.2.1 i) (h'.2.1 i)
theorem not_eqv {l : List Nat} {b : Bool} (h : b = decide (l = [])) : (!decide (V.bl b = V.bl (PyData.eqv (dL l) (dL [])))) = false := by
  rw [eqv_row, ← h, decide_eq_true rfl]
  rfl
theorem LotOk.smR {n : Nat} {l : List Nat} (h : LotOk n l) (hn : n ≤ 8) : SmR l := ⟨by have := h.2.2; omega, fun x hx => by have := h.2.1 x hx; omega⟩
abbrev rTupOf (K : PySem.W.Frag) : List V → Hp → VK → Prop := fun xs H Q => ∃ p ys, xs = [.ref p] ∧ ((SqL K H p ys ∧ ∀ l, H l = none → Q (.ref l) (upd H l (.tup ys))) ∨ (SqT K H p ys ∧ Q (.ref p) H))
theorem near_run {K : PySem.W.Frag} {σ : L2.St} {H : Hp} {p a : Addr} {l : List Nat} {Q : VK} (h0 : σ[0]? = some (some (.ref p))) (h2 : σ[2]? = some (some (.ref a))) (pot : PotAt H p) (ha : H a = some (.lst (vs1 l))) (ne : a ≠ p)
    (q : ∀ H' v, Drew p H H' → S1 H' v l → Q v H') : tIf (tTest (tOp rEq (tCall spDraw [] E0 (tCons (tVar 0) (tCons (tC (.int 2)) tNil))) (tC (.int 0)))) (tCB (rTupOf K) (tCons (tVar 2) tNil)) (tVar 2) σ H Q := by
  refine ⟨_, h0, p, 2, rfl, by decide, by decide, pot, fun H5 d hd d5 => ⟨rfl, _, rfl, ?_⟩⟩
  have h5 := d5.get ha ne
  refine ite2 (fun _ => ?_) (fun _ => ⟨_, h2, q H5 _ d5 (.inl ⟨a, rfl, h5⟩)⟩)
  exact ⟨_, h2, a, vs1 l, rfl, .inl ⟨SqL.of h5, fun t ht => q _ _ (d5.keep (same_new ht)) (.inr ⟨t, rfl, upd_same⟩)⟩⟩
theorem cm_comm (l m : List Nat) : cmL l m = cmL m l := by
  unfold cmL
  congr 1
  funext i
  exact Bool.and_comm _ _
theorem wi_cm (l m : List Nat) : wiL (cmL l m) l = [] := by
  refine List.filter_eq_nil_iff.mpr fun x hx h => ?_
  rw [Bool.and_eq_true, decide_eq_true_eq, Bool.not_eq_true', decide_eq_false_iff_not] at h
  have := (mem_lot.mp h.1).2
  rw [Bool.and_eq_true, decide_eq_true_eq] at this
  exact h.2 this.1
theorem wi_nil (l : List Nat) (h8 : In8 l) : wiL l [] = [] ↔ l = [] := by
  constructor
  · intro h
    refine List.eq_nil_iff_forall_not_mem.mpr fun x hx => ?_
    have := List.filter_eq_nil_iff.mp h x (List.mem_range.mpr (h8 x hx))
    simp [hx] at this
  · intro h
    rw [h]
    rfl
section
variable {P : Program} {w : World} {K : PySem.W.Frag} {mg : Str → Option Value} {base : Heap} (T : Tx K mg)
def spYes : Sp := fun vs H Q _ => ∃ p : Addr, vs = [.ref p] ∧ PotAt H p ∧ ∀ H', Drew p H H' → Q (.bl true) H'
abbrev NLR : List Str := ["_law_pot_here", "_law_shelves", "_law_one", "_law_other", "_law_shown", "_law_near", "_law_far", "_law_told_here", "_law_due", "_law_shelf"]
theorem ok_lots_right : FnG P w K mg base 7 T.lw_lots_right.f T.lw_lots_right.fd ["_law_pot_here"] spYes := by
  refine okG T.lw_lots_right.F sc_lw_lots_right (fun vs H Q E h => ?_) (fun cdv A outer s H vs Q E hg hr h => ?_)
  · obtain ⟨p, rfl, _⟩ := h
    rfl
  · obtain ⟨p, rfl, pot, q⟩ := h
    have hpn := pot.some
    refine ⟨_, pss_cons (ps_set (i := 1) sc_lw_lots_right.nd rfl (.inl rfl) (pe_op op_addN pe_int (pe_call (ok_draw T) (hr.mono (by decide)) (by rfl) T.lw_draw.g T.lw_draw.F.kp T.lw_draw.b .nil pass0 (pa_cons (pv 0) (pa_cons pe_int pa_nil)))))
      (pss_cons (ps_asg (pe_tup (pa_cons (pe_call (ok_lot T) (hr.mono (by decide)) (by rfl) T.lw_lot.g T.lw_lot.F.kp T.lw_lot.b .nil pass0 (pa_cons (pv 0) (pa_cons (pv 1) (pa_cons pe_int pa_nil))))
          (pa_cons (pe_call (ok_lot T) (hr.mono (by decide)) (by rfl) T.lw_lot.g T.lw_lot.F.kp T.lw_lot.b .nil pass0 (pa_cons (pv 0) (pa_cons (pv 1) (pa_cons pe_int pa_nil)))) pa_nil)))
        (pg_tup (by rfl) (pgs_cons (pg_name (i := 2) sc_lw_lots_right.nd rfl (.inr rfl)) (pgs_cons (pg_name (i := 3) sc_lw_lots_right.nd rfl (.inr rfl)) pgs_nil))))
      (pss_cons (ps_set (i := 4) sc_lw_lots_right.nd rfl (.inl rfl) (pe_callB (cr_repr hg hr.units) (by rfl) T.b_repr (by decide +kernel) (pa_cons (pe_lst (pa_cons (pv 2) (pa_cons (pv 3) pa_nil))) pa_nil)))
      (pss_cons (ps_par (i := 5) (j := 6) (by rfl) sc_lw_lots_right.nd rfl rfl (by decide) rfl rfl (pa_cons (pe_ifExp (pt_cmpR op_eq (pe_call (ok_draw T) (hr.mono (by decide)) (by rfl) T.lw_draw.g T.lw_draw.F.kp T.lw_draw.b .nil pass0 (pa_cons (pv 0) (pa_cons pe_int pa_nil))) pe_int (nomark _))
          (pe_callTy call_tuple_of (by rfl) T.b_tuple (by decide +kernel) (pa_cons (pv 2) pa_nil)) (pv 2)) (pa_cons (pe_callTy call_list_of (by rfl) T.b_list (by decide +kernel) (pa_cons (pv 3) pa_nil)) pa_nil)) (by rfl))
      (pss_cons (ps_set (i := 7) sc_lw_lots_right.nd rfl (.inl rfl) (pe_lst (pa_cons (pe_call (ok_joined T) (hr.mono (by decide)) (by rfl) T.joined.g T.joined.F.kp T.joined.b .nil pass0 (pa_cons (pv 1) (pa_cons (pv 5) (pa_cons (pv 6) pa_nil))))
          (pa_cons (pe_call (ok_without T) (hr.mono (by decide)) (by rfl) T.without.g T.without.F.kp T.without.b .nil pass0 (pa_cons (pv 1) (pa_cons (pv 5) (pa_cons (pv 6) pa_nil))))
          (pa_cons (pe_callN0 (ok_common T) (hr.mono (by decide)) (by rfl) T.common.g T.common.F.kp T.kb_common pass0 (pk_cons (pv 5) (pk_cons (pv 1) (pk_cons (pv 6) pk_nil))))
          (pa_cons (pe_callN (ok_without T) (hr.mono (by decide)) (by rfl) T.without.g T.without.F.kp T.kb_without pass0 (pa_cons (pv 1) pa_nil) (pk_cons (pv 5) (pk_cons (pv 6) pk_nil))) pa_nil))))))
      (pss_cons (ps_set (i := 8) sc_lw_lots_right.nd rfl (.inl rfl) (pe_lst (pa_cons
          (pe_lc (own := [("_law_shelf", 9)]) (g := gName 9) (by rfl) sc_lw_lots_right.nd (pi_range1 (by rfl) T.b_range (pa_cons (pv 1) pa_nil)) (blkOk_by (own := [("_law_shelf", 9)]) (N := NLR) (sc := defScope s_lw_lots_right) (by decide +kernel)) (fun _ _ _ _ _ => pg_name (i := 9) sc_lw_lots_right.nd rfl (.inl rfl))
            (fun _ _ _ _ _ => pts_one (PW.pt (pw_or (pt_cmpR (r := rIn K false) op_in_seq (pv 9) (pv 2) (by with_unfolding_all rfl)) (pw_or1 (pt_cmpR (r := rIn K false) op_in_seq (pv 9) (pv 3) (by with_unfolding_all rfl)))))) (fun _ _ _ _ _ => pv 9))
          (pa_cons (pe_lc (own := [("_law_shelf", 9)]) (g := gName 9) (by rfl) sc_lw_lots_right.nd (pi_range1 (by rfl) T.b_range (pa_cons (pv 1) pa_nil)) (blkOk_by (own := [("_law_shelf", 9)]) (N := NLR) (sc := defScope s_lw_lots_right) (by decide +kernel)) (fun _ _ _ _ _ => pg_name (i := 9) sc_lw_lots_right.nd rfl (.inl rfl))
            (fun _ _ _ _ _ => pts_one (PW.pt (pw_and (pt_cmpR (r := rIn K false) op_in_seq (pv 9) (pv 2) (by with_unfolding_all rfl)) (pw_and1 (pt_cmpR (r := rIn K true) op_notIn_seq (pv 9) (pv 3) (by with_unfolding_all rfl)))))) (fun _ _ _ _ _ => pv 9)) pa_nil))))
      (pss_cons (ps_set (i := 8) sc_lw_lots_right.nd rfl (.inl rfl) (pe_op op_cat (pv 8) (pe_lst (pa_cons
          (pe_lc (own := [("_law_shelf", 9)]) (g := gName 9) (by rfl) sc_lw_lots_right.nd (pi_range1 (by rfl) T.b_range (pa_cons (pv 1) pa_nil)) (blkOk_by (own := [("_law_shelf", 9)]) (N := NLR) (sc := defScope s_lw_lots_right) (by decide +kernel)) (fun _ _ _ _ _ => pg_name (i := 9) sc_lw_lots_right.nd rfl (.inl rfl))
            (fun _ _ _ _ _ => pts_one (PW.pt (pw_and (pt_cmpR (r := rIn K false) op_in_seq (pv 9) (pv 2) (by with_unfolding_all rfl)) (pw_and1 (pt_cmpR (r := rIn K false) op_in_seq (pv 9) (pv 3) (by with_unfolding_all rfl)))))) (fun _ _ _ _ _ => pv 9))
          (pa_cons (pe_lc (own := [("_law_shelf", 9)]) (g := gName 9) (by rfl) sc_lw_lots_right.nd (pi_range1 (by rfl) T.b_range (pa_cons (pv 1) pa_nil)) (blkOk_by (own := [("_law_shelf", 9)]) (N := NLR) (sc := defScope s_lw_lots_right) (by decide +kernel)) (fun _ _ _ _ _ => pg_name (i := 9) sc_lw_lots_right.nd rfl (.inl rfl))
            (fun _ _ _ _ _ => pts_one (PW.pt (pw_and (pt_cmpR (r := rIn K false) op_in_seq (pv 9) (pv 3) (by with_unfolding_all rfl)) (pw_and1 (pt_cmpR (r := rIn K true) op_notIn_seq (pv 9) (pv 2) (by with_unfolding_all rfl)))))) (fun _ _ _ _ _ => pv 9)) pa_nil)))))
      (pss_cons (ps_if (PW.pt (pw_or (pt_cmpR (op_neD hr.units) (pv 7) (pv 8) (nomark _)) (pw_or1 (pt_cmpR op_ne (pe_callB (cr_repr hg hr.units) (by rfl) T.b_repr (by decide +kernel) (pa_cons (pe_lst (pa_cons (pv 2) (pa_cons (pv 3) pa_nil))) pa_nil)) (pv 4) (nomark _))))) (pss_one ps_never) pss_nil)
      (pss_cons (ps_if (PW.pt (pw_or (pt_cmpR op_ne (pe_call (ok_is_within T) (hr.mono (by decide)) (by rfl) T.is_within.g T.is_within.F.kp T.is_within.b .nil pass0 (pa_cons (pv 1) (pa_cons (pv 5) (pa_cons (pv 6) pa_nil))))
            (pe_cmpR (op_eqD hr.units) (pe_ix ix_list (pv 8) pe_int fun _ _ => rfl) (pe_lst pa_nil) (nomark _)) (nomark _))
          (pw_or1 (pt_cmpR op_ne (pe_callN0 (ok_is_within T) (hr.mono (by decide)) (by rfl) T.is_within.g T.is_within.F.kp T.kb_is_within pass0 (pk_cons (pv 6) (pk_cons (pv 1) (pk_cons (pv 5) pk_nil))))
            (pe_cmpR (op_eqD hr.units) (pe_ix ix_list (pv 8) pe_int fun _ _ => rfl) (pe_lst pa_nil) (nomark _)) (nomark _))))) (pss_one ps_never) pss_nil)
      (pss_one (ps_ret (pe_and (pe_cmpR op_isBl (pe_call (ok_is_within T) (hr.mono (by decide)) (by rfl) T.is_within.g T.is_within.F.kp T.is_within.b .nil pass0 (pa_cons (pv 1) (pa_cons (pe_ix ix_list (pv 8) pe_int fun _ _ => rfl) (pa_cons (pv 2) pa_nil)))) pe_bl (nomark _))
        (pe_one (pe_cmpR op_eq (pe_call (ok_is_within T) (hr.mono (by decide)) (by rfl) T.is_within.g T.is_within.F.kp T.is_within.b .nil pass0 (pa_cons (pv 1) (pa_cons (pe_ix ix_list (pv 8) pe_int fun _ _ => rfl) (pa_cons (pe_lst pa_nil) pa_nil))))
          (pe_cmpR (op_eqD hr.units) (pe_ix ix_list (pv 8) pe_int fun _ _ => rfl) (pe_lst pa_nil) (nomark _)) (nomark _)))))))))))))), ?_⟩
    refine ⟨_, rfl, p, 7, rfl, by decide, by decide, pot, fun H1 d hd d1 => ⟨2, d, rfl, rfl, ?_⟩⟩
    have n2 : 2 ≤ 2 + d := by omega
    have n8 : 2 + d ≤ 8 := by omega
    obtain ⟨n, en⟩ : ∃ n, n = 2 + d := ⟨_, rfl⟩
    rw [← en] at n2 n8 ⊢
    clear en hd
    refine ⟨_, rfl, _, rfl, p, n, 0, rfl, by omega, n8, d1.pot, fun H2 v1 l d2 hv1 ol _ => ?_⟩
    refine ⟨_, rfl, _, rfl, p, n, 0, rfl, by omega, n8, d2.pot, fun H3 v2 m d3 hv2 om _ => ⟨by show 2 ≤ sizeLine; decide, fun t ht => ?_⟩⟩
    obtain ⟨a, rfl, ha⟩ := hv1
    obtain ⟨b, rfl, hb⟩ := hv2
    have nap : a ≠ p := fun e => d1.pot.some (e ▸ (of_nw ha).1)
    have nbp : b ≠ p := fun e => d2.pot.some (e ▸ (of_nw hb).1)
    have k3 : Same H3 (upd H3 t (.tup [.ref a, .ref b])) := same_new ht
    have ha3 := d3.get (of_nw ha).2 nap
    have hb3 := (of_nw hb).2
    refine ⟨t, _, rfl, SqT.of upd_same, rfl, _, _, rfl, _, _, rfl, rfl, ?_⟩
    have dl : ∀ {G : Hp} {e : Addr}, G a = some (.lst (vs1 l)) → G b = some (.lst (vs1 m)) → G e = some (.lst [.ref a, .ref b]) → Dp K G (.ref e) (dLL [l, m]) := fun h1 h2 h3 => L2s.dp ⟨_, _, rfl, h3, .cons ⟨a, rfl, h1⟩ (.cons ⟨b, rfl, h2⟩ .nil)⟩
    have sh := shows_rows (ks := [l, m]) ⟨by show 2 ≤ 60; decide, fun k hk => by
      rcases List.mem_cons.mp hk with e | hk
      · rw [e]
        exact ol.smR n8
      · rw [List.mem_singleton.mp hk]
        exact om.smR n8⟩
    -- shown
    refine ⟨_, rfl, _, rfl, by show 2 ≤ sizeLine; decide, fun e he => ?_⟩
    have k4 := k3.trans (same_new (o := .lst [.ref a, .ref b]) he)
    refine ⟨e, dLL [l, m], rfl, dl (k4 _ _ ha3) (k4 _ _ hb3) upd_same, sh.sh, sh.nd, sh.dp, sh.sz, ?_⟩
    obtain ⟨H4, e4⟩ : ∃ H4, H4 = upd (upd H3 t (.tup [.ref a, .ref b])) e (.lst [.ref a, .ref b]) := ⟨_, rfl⟩
    rw [← e4] at k4 ⊢
    clear e4
    have d4 : Drew p H H4 := (d1.trans (d2.trans d3)).keep k4
    -- near, far
    refine near_run (K := K) rfl rfl d4.pot (k4 _ _ ha3) nap fun H5 near d5 hn => ?_
    have ha5 := d5.get (k4 _ _ ha3) nap
    have hb5 := d5.get (k4 _ _ hb3) nbp
    refine ⟨_, rfl, b, _, rfl, .inl (SqL.of hb5), fun f hf => ⟨_, _, rfl, ?_⟩⟩
    have k6 : Same H5 (upd H5 f (.lst (vs1 m))) := same_new hf
    obtain ⟨H6, e6⟩ : ∃ H6, H6 = upd H5 f (.lst (vs1 m)) := ⟨_, rfl⟩
    have hf6 : S1 H6 (.ref f) m := .inl ⟨f, rfl, by rw [e6]; exact upd_same⟩
    rw [← e6] at k6 ⊢
    clear e6
    have hn6 := hn.mono k6
    have ha6 := k6 _ _ ha5
    have hb6 := k6 _ _ hb5
    have d6 : Drew p H H6 := (d4.trans d5).keep k6
    -- what the program tells
    refine ⟨_, rfl, _, rfl, _, rfl, n, near, .ref f, l, m, rfl, n2, n8, hn6, hf6, ol, om, fun H7 r1 k7 q1 => ?_⟩
    refine ⟨_, rfl, _, rfl, _, rfl, n, near, .ref f, l, m, rfl, n2, n8, hn6.mono k7, hf6.mono k7, ol, om, fun H8 r2 k8 q2 => ?_⟩
    have s8 := k7.trans k8
    refine ⟨_, rfl, _, rfl, _, rfl, rfl, rfl, n, .ref f, near, m, l, rfl, n2, n8, hf6.mono s8, hn6.mono s8, om, ol, fun H9 r3 k9 q3 => ?_⟩
    have s9 := s8.trans k9
    refine ⟨_, rfl, _, rfl, _, rfl, rfl, rfl, n, .ref f, near, m, l, rfl, n2, n8, hf6.mono s9, hn6.mono s9, om, ol, fun H10 r4 k10 q4 => ?_⟩
    have s10 := s9.trans k10
    refine ⟨by show 4 ≤ sizeLine; decide, fun t7 ht7 => ?_⟩
    have k11 : Same H10 (upd H10 t7 (.lst [r1, r2, r3, r4])) := same_new ht7
    have hT : L2s (upd H10 t7 (.lst [r1, r2, r3, r4])) (.ref t7) [jnL l m, wiL l m, cmL m l, wiL m l] :=
      ⟨t7, _, rfl, upd_same, .cons ((q1.mono nw_same).mono (k8.trans (k9.trans (k10.trans k11)))) (.cons ((q2.mono nw_same).mono (k9.trans (k10.trans k11))) (.cons ((q3.mono nw_same).mono (k10.trans k11)) (.cons ((q4.mono nw_same).mono k11) .nil)))⟩
    have s11 := s10.trans k11
    obtain ⟨H11, e11⟩ : ∃ H11, H11 = upd H10 t7 (.lst [r1, r2, r3, r4]) := ⟨_, rfl⟩
    rw [← e11] at k11 hT s11 ⊢
    clear e11
    have ha11 := s11 _ _ ha6
    have hb11 := s11 _ _ hb6
    -- what is due
    refine ⟨_, rfl, (n : Int), rfl, by omega, by omega, fun D1 hD1 => due_comp (p := fun i => decide (i ∈ l) || decide (i ∈ m)) n8 hD1 (jn_lt ol om) (fun _ => rfl) (fun _ => rfl) (fun i H' Q' k q' => ?_) fun H12 k12 j1 => ?_⟩
    · refine t_in (l := l) rfl rfl (k _ _ ha11) ?_
      cases hh : decide (i ∈ l) with
      | true =>
        rw [hh] at q'
        exact iteT q'
      | false =>
        rw [hh] at q'
        exact iteF (t_in (l := m) rfl rfl (k _ _ hb11) q')
    have ha12 := k12 _ _ ha11
    have hb12 := k12 _ _ hb11
    refine ⟨_, rfl, (n : Int), rfl, by omega, by omega, fun D2 hD2 => due_comp (p := fun i => decide (i ∈ l) && !decide (i ∈ m)) n8 hD2 (wi_lt ol) (fun _ => rfl) (fun _ => rfl) (fun i H' Q' k q' => ?_) fun H13 k13 j2 => ?_⟩
    · refine t_in (l := l) rfl rfl (k _ _ ha12) ?_
      cases hh : decide (i ∈ l) with
      | true =>
        rw [hh] at q'
        exact iteT (t_notin (l := m) rfl rfl (k _ _ hb12) q')
      | false =>
        rw [hh] at q'
        exact iteF q'
    refine ⟨by show 2 ≤ sizeLine; decide, fun t8 ht8 => ?_⟩
    have k14 : Same H13 (upd H13 t8 (.lst [.ref D1, .ref D2])) := same_new ht8
    have h8 : (upd H13 t8 (.lst [.ref D1, .ref D2])) t8 = some (.lst [.ref D1, .ref D2]) := upd_same
    obtain ⟨H14, e14⟩ : ∃ H14, H14 = upd H13 t8 (.lst [.ref D1, .ref D2]) := ⟨_, rfl⟩
    rw [← e14] at k14 h8 ⊢
    clear e14
    have ha14 := k14 _ _ (k13 _ _ ha12)
    have hb14 := k14 _ _ (k13 _ _ hb12)
    refine ⟨_, rfl, _, rfl, (n : Int), rfl, by omega, by omega, fun D3 hD3 => due_comp (p := fun i => decide (i ∈ l) && decide (i ∈ m)) n8 hD3 (cm_lt ol) (fun _ => rfl) (fun _ => rfl) (fun i H' Q' k q' => ?_) fun H15 k15 j3 => ?_⟩
    · refine t_in (l := l) rfl rfl (k _ _ ha14) ?_
      cases hh : decide (i ∈ l) with
      | true =>
        rw [hh] at q'
        exact iteT (t_in (l := m) rfl rfl (k _ _ hb14) q')
      | false =>
        rw [hh] at q'
        exact iteF q'
    have ha15 := k15 _ _ ha14
    have hb15 := k15 _ _ hb14
    refine ⟨_, rfl, (n : Int), rfl, by omega, by omega, fun D4 hD4 => due_comp (p := fun i => decide (i ∈ m) && !decide (i ∈ l)) n8 hD4 (wi_lt om) (fun _ => rfl) (fun _ => rfl) (fun i H' Q' k q' => ?_) fun H16 k16 j4 => ?_⟩
    · refine t_in (l := m) rfl rfl (k _ _ hb15) ?_
      cases hh : decide (i ∈ m) with
      | true =>
        rw [hh] at q'
        exact iteT (t_notin (l := l) rfl rfl (k _ _ ha15) q')
      | false =>
        rw [hh] at q'
        exact iteF q'
    refine ⟨by show 2 ≤ sizeLine; decide, fun t9 ht9 => ?_⟩
    have k17 : Same H16 (upd H16 t9 (.lst [.ref D3, .ref D4])) := same_new ht9
    have h9 : (upd H16 t9 (.lst [.ref D3, .ref D4])) t9 = some (.lst [.ref D3, .ref D4]) := upd_same
    obtain ⟨H17, e17⟩ : ∃ H17, H17 = upd H16 t9 (.lst [.ref D3, .ref D4]) := ⟨_, rfl⟩
    rw [← e17] at k17 h9 ⊢
    clear e17
    refine ⟨t8, t9, _, _, rfl, rfl, k17 _ _ (k16 _ _ (k15 _ _ h8)), h9, by show 4 ≤ sizeLine; decide, fun t10 ht10 => ?_⟩
    have k18 : Same H17 (upd H17 t10 (.lst ([.ref D1, .ref D2] ++ [.ref D3, .ref D4]))) := same_new ht10
    have h10 : (upd H17 t10 (.lst ([.ref D1, .ref D2] ++ [.ref D3, .ref D4]))) t10 = some (.lst [.ref D1, .ref D2, .ref D3, .ref D4]) := upd_same
    obtain ⟨G, eG⟩ : ∃ G, G = upd H17 t10 (.lst ([.ref D1, .ref D2] ++ [.ref D3, .ref D4])) := ⟨_, rfl⟩
    rw [← eG] at k18 h10 ⊢
    clear eG
    have g1 : L1 G (.ref D1) (jnL l m) := (j1.mono nw_same).mono (k13.trans (k14.trans (k15.trans (k16.trans (k17.trans k18)))))
    have g2 : L1 G (.ref D2) (wiL l m) := (j2.mono nw_same).mono (k14.trans (k15.trans (k16.trans (k17.trans k18))))
    have g3 : L1 G (.ref D3) (cmL l m) := (j3.mono nw_same).mono (k16.trans (k17.trans k18))
    have g4 : L1 G (.ref D4) (wiL m l) := (j4.mono nw_same).mono (k17.trans k18)
    have sG : Same H6 G := s11.trans (k12.trans (k13.trans (k14.trans (k15.trans (k16.trans (k17.trans k18))))))
    have hD : L2s G (.ref t10) [jnL l m, wiL l m, cmL l m, wiL m l] := ⟨t10, _, rfl, h10, .cons g1 (.cons g2 (.cons g3 (.cons g4 .nil)))⟩
    have hT' : L2s G (.ref t7) [jnL l m, wiL l m, cmL l m, wiL m l] := by
      have := hT.mono (k12.trans (k13.trans (k14.trans (k15.trans (k16.trans (k17.trans k18))))))
      rw [cm_comm m l] at this
      exact this
    have oj : LotOk n (jnL l m) := lotBy_ok (jn_lt ol om)
    have oc : LotOk n (cmL l m) := lotBy_ok (cm_lt ol)
    -- the first test
    refine ⟨_, rfl, _, rfl, _, _, hT'.dp, hD.dp, shaped_rows _, shaped_rows _, _, rfl, iteF' (by rw [eqv_rows, decide_eq_true rfl]; rfl) ?_⟩
    refine ⟨_, rfl, _, rfl, by show 2 ≤ sizeLine; decide, fun e2 he2 => ?_⟩
    have k19 : Same G (upd G e2 (.lst [.ref a, .ref b])) := same_new he2
    refine ⟨e2, dLL [l, m], rfl, dl (k19 _ _ (sG _ _ ha6)) (k19 _ _ (sG _ _ hb6)) upd_same, sh.sh, sh.nd, sh.dp, sh.sz, _, rfl, rfl, _, rfl, iteF' (by rw [decide_eq_true rfl]; rfl) ?_⟩
    obtain ⟨G1, eG1⟩ : ∃ G1, G1 = upd G e2 (.lst [.ref a, .ref b]) := ⟨_, rfl⟩
    rw [← eG1] at k19 ⊢
    clear eG1
    have sG1 := sG.trans k19
    -- the second
    refine ⟨_, rfl, _, rfl, _, rfl, n, near, .ref f, l, m, rfl, n2, n8, hn6.mono sG1, hf6.mono sG1, ol, om, fun G2 k20 => ?_⟩
    refine ⟨_, rfl, t10, _, 1, .ref D2, rfl, rfl, SqL.of (k20 _ _ (k19 _ _ h10)), rfl, by show 0 ≤ sizeLine; decide, fun e3 he3 => ?_⟩
    have k21 := (k19.trans k20).trans (same_new (o := .lst []) he3)
    refine ⟨_, dL [], (g2.mono k21).dp, L1.dp (l := []) ⟨e3, rfl, upd_same⟩, shaped_row _, shaped_row _, rfl, _, rfl, iteF' (not_eqv rfl) ?_⟩
    obtain ⟨G3, eG3⟩ : ∃ G3, G3 = upd G2 e3 (.lst []) := ⟨_, rfl⟩
    rw [← eG3] at k21 ⊢
    clear eG3
    refine ⟨_, rfl, _, rfl, _, rfl, rfl, rfl, n, .ref f, near, m, l, rfl, n2, n8, hf6.mono (sG.trans k21), hn6.mono (sG.trans k21), om, ol, fun G4 k22 => ?_⟩
    refine ⟨_, rfl, t10, _, 3, .ref D4, rfl, rfl, SqL.of (k22 _ _ (k21 _ _ h10)), rfl, by show 0 ≤ sizeLine; decide, fun e4 he4 => ?_⟩
    have k23 := (k21.trans k22).trans (same_new (o := .lst []) he4)
    refine ⟨_, dL [], (g4.mono k23).dp, L1.dp (l := []) ⟨e4, rfl, upd_same⟩, shaped_row _, shaped_row _, rfl, _, rfl, iteF' (not_eqv rfl) ?_⟩
    obtain ⟨G5, eG5⟩ : ∃ G5, G5 = upd G4 e4 (.lst []) := ⟨_, rfl⟩
    rw [← eG5] at k23 ⊢
    clear eG5
    -- the last
    refine ⟨_, rfl, _, rfl, t10, _, 2, .ref D3, rfl, rfl, SqL.of (k23 _ _ h10), rfl, _, rfl, n, .ref D3, .ref a, cmL l m, l, rfl, n2, n8, .inl (g3.mono k23), .inl ⟨a, rfl, k23 _ _ (sG _ _ ha6)⟩, oc, ol, fun G6 k24 => ?_⟩
    refine ⟨_, _, rfl, rfl, _, rfl, iteT' (by rw [decide_eq_true (wi_cm l m)]; rfl) ?_⟩
    have k25 := k23.trans k24
    refine ⟨_, rfl, _, rfl, t10, _, 0, .ref D1, rfl, rfl, SqL.of (k25 _ _ h10), rfl, by show 0 ≤ sizeLine; decide, fun e5 he5 => ?_⟩
    have k26 := k25.trans (same_new (o := .lst []) he5)
    obtain ⟨G7, eG7⟩ : ∃ G7, G7 = upd G6 e5 (.lst []) := ⟨_, rfl⟩
    have he7 : G7 e5 = some (.lst (vs1 [])) := by rw [eG7]; exact upd_same
    rw [← eG7] at k26 ⊢
    clear eG7
    refine ⟨n, .ref D1, .ref e5, jnL l m, [], rfl, n2, n8, .inl (g1.mono k26), .inl ⟨e5, rfl, he7⟩, oj, ⟨List.nodup_nil, fun x hx => absurd hx List.not_mem_nil, by show 0 ≤ 50; decide⟩, fun G8 k27 => ?_⟩
    have k28 := k26.trans k27
    refine ⟨_, rfl, t10, _, 0, .ref D1, rfl, rfl, SqL.of (k28 _ _ h10), rfl, by show 0 ≤ sizeLine; decide, fun e6 he6 => ?_⟩
    have k29 := k28.trans (same_new (o := .lst []) he6)
    refine ⟨_, dL [], (g1.mono k29).dp, L1.dp (l := []) ⟨e6, rfl, upd_same⟩, shaped_row _, shaped_row _, rfl, q_bl (Q := Q) ?_ (q _ (d6.keep (sG.trans k29)))⟩
    rw [eqv_row]
    refine decide_eq_true (congrArg V.bl (decide_eq_decide.mpr (wi_nil _ fun x hx => ?_)))
    have := oj.2.1 x hx
    omega
end
end TA
namespace TA
open PySem PySem.Spec PyProof.Rows L2
/-! ### the plain laws of kinds -/
theorem mem_told {x : List Nat} {D : List (List Nat)} : x ∈ told D ↔ ∃ k ∈ D, norm k = x := by
  unfold told
  rw [mem_canon, List.mem_map]
theorem canon_canon (a b : List (List Nat)) : canon (canon a ++ b) = canon (a ++ b) := canon_ext fun x => by
  rw [List.mem_append, List.mem_append, mem_canon]
theorem told_app (D E : List (List Nat)) : told (D ++ E) = canon (told D ++ E.map norm) := by
  unfold told
  rw [canon_canon, List.map_append]
theorem told_snoc (D : List (List Nat)) (k : List Nat) : told (D ++ [k]) = canon (told D ++ [norm k]) := told_app D [k]
theorem told_up (D : List (List Nat)) : (told D).Pairwise (· < ·) := canon_up _
theorem more_iff {U : List (List Nat)} (u : U.Pairwise (· < ·)) (x : List Nat) : canon (U ++ [x]) = U ↔ x ∈ U := by
  constructor
  · intro e
    rw [← e]
    exact mem_canon.mpr (List.mem_append_right _ (List.mem_singleton.mpr rfl))
  · intro h
    refine (canon_ext fun y => ?_).trans (canon_of_up u)
    rw [List.mem_append, List.mem_singleton]
    exact ⟨fun q => q.elim id fun e => e ▸ h, .inl⟩
theorem mem_cut {U : List (List Nat)} (u : U.Pairwise (· < ·)) {j : Nat} (hj : j < U.length) {y : List Nat} : y ∈ cutL U j ↔ y ∈ U ∧ y ≠ U[j] := by
  have ec : cutL U j = U.eraseIdx j := by
    unfold cutL
    exact (List.eraseIdx_eq_take_drop_succ _ _).symm
  rw [ec]
  have pm := erase_perm U j hj
  have nd := pm.nodup_iff.mpr (nodup_up u)
  obtain ⟨h1, _⟩ := List.nodup_cons.mp nd
  constructor
  · intro h
    exact ⟨pm.mem_iff.mp (List.mem_cons_of_mem _ h), fun e => h1 (e ▸ h)⟩
  · rintro ⟨h, ne⟩
    exact (List.mem_cons.mp (pm.mem_iff.mpr h)).resolve_left ne
theorem cut_up {U : List (List Nat)} (u : U.Pairwise (· < ·)) (j : Nat) : (cutL U j).Pairwise (· < ·) := u.sublist (cut_sub U j)
theorem cut_len {U : List (List Nat)} {j : Nat} (hj : j < U.length) : (cutL U j).length < U.length := by
  unfold cutL
  rw [List.length_append, List.length_take, List.length_drop]
  omega
/-- one more, and that one away again -/
theorem back_iff {U : List (List Nat)} (u : U.Pairwise (· < ·)) {x : List Nat} {j : Nat} (hj : j < (canon (U ++ [x])).length) (ej : (canon (U ++ [x]))[j] = x) : cutL (canon (U ++ [x])) j = U ↔ ¬ x ∈ U := by
  constructor
  · intro e h
    have := cut_len hj
    rw [e, (more_iff u x).mpr h] at this
    omega
  · intro h
    refine ext_lots (cut_up (canon_up _) j) u fun y => ?_
    rw [mem_cut (canon_up _) hj, mem_canon, ej, List.mem_append, List.mem_singleton]
    exact ⟨fun ⟨a, b⟩ => a.resolve_right b, fun a => ⟨.inl a, fun e => h (e ▸ a)⟩⟩
theorem at_index {U : List (List Nat)} (u : U.Pairwise (· < ·)) {x : List Nat} (h : x ∈ U) : ∃ j, ∃ hj : j < U.length, U[j] = x ∧ ∀ m, ∀ hm : m < U.length, m < j → U[m] ≠ x := by
  obtain ⟨j, hj, e⟩ := List.getElem_of_mem h
  refine ⟨j, hj, e, fun m hm hlt e2 => ?_⟩
  have := List.pairwise_iff_getElem.mp (nodup_up u) m j hm hj hlt
  exact this (e2.trans e.symm)
theorem cut_told {n : Nat} {D : List (List Nat)} (h : KdsOk n (told D)) (hn : n ≤ 8) (i : Nat) : told (cutL (told D) i) = cutL (told D) i := told_of_ok (h.cut i) hn
theorem told_told {n : Nat} {D : List (List Nat)} (h : KdsOk n (told D)) (hn : n ≤ 8) : told (told D) = told D := told_of_ok h hn
end TA
namespace TA
open PySem PySem.Spec PyProof.Rows L2
theorem paired_take {F : V → List Nat → Prop} : ∀ {vs : List V} {ks : List (List Nat)} (i : Nat), Paired F vs ks → Paired F (vs.take i) (ks.take i)
  | _, _, 0, _ => .nil
  | _, _, i + 1, .nil => .nil
  | _, _, i + 1, .cons r t => .cons r (paired_take i t)
theorem paired_drop {F : V → List Nat → Prop} : ∀ {vs : List V} {ks : List (List Nat)} (i : Nat), Paired F vs ks → Paired F (vs.drop i) (ks.drop i)
  | _, _, 0, h => h
  | _, _, i + 1, .nil => .nil
  | _, _, i + 1, .cons r t => paired_drop i t
theorem cutV_take (xs : List V) (i : Nat) (hi : i ≤ xs.length) : cutV xs none (some (i : Int)) = xs.take i := by
  have e2 : HT.sIx xs.length xs.length (some (i : Int)) = i := by rw [HT.sIx_nat]; omega
  unfold cutV
  rw [e2, HT.sIx_none, List.drop_zero, Nat.sub_zero]
theorem cutV_drop (xs : List V) (i : Nat) (hi : i ≤ xs.length) : cutV xs (some (i : Int)) none = xs.drop i := by
  have e2 : HT.sIx xs.length 0 (some (i : Int)) = i := by rw [HT.sIx_nat]; omega
  unfold cutV
  rw [e2, HT.sIx_none]
  exact List.take_of_length_le (Nat.le_of_eq List.length_drop)
/-- a list of rows without its i-th -/
theorem cut_run {K : PySem.W.Frag} {σ : L2.St} {H : Hp} {a : Addr} {i jt jp : Nat} {vs : List V} {U : List (List Nat)} {Q : VK} (h1 : σ[jt]? = some (some (.ref a))) (h2 : σ[jp]? = some (some (vN i))) (ha : H a = some (.lst vs)) (hp : Paired (L1 H) vs U) (hi : i < U.length) (hl : U.length ≤ 100)
    (q : ∀ H' v, Same H H' → L2s H' v (cutL U i) → Q v H') : tOp rCat (tSl (rSlL K) (tVar jt) tNoPart (tPart (tVar jp))) (tSl (rSlL K) (tVar jt) (tPart (tOp (rI0 fun i j => .int (i + j)) (tVar jp) (tC (.int 1)))) tNoPart) σ H Q := by
  have hv := vs_len hp
  refine ⟨_, h1, _, h2, (i : Int), rfl, a, vs, rfl, SqL.of ha, fun p1 hp1 => ?_⟩
  have k1 : Same H (upd H p1 (.lst (cutV vs none (some (i : Int))))) := same_new hp1
  refine ⟨_, h1, _, h2, _, _, rfl, rfl, ((i + 1 : Nat) : Int), rfl, a, vs, rfl, SqL.of (k1 _ _ ha), fun p2 hp2 => ?_⟩
  have e1 := cutV_take vs i (by omega)
  have e2 := cutV_drop vs (i + 1) (by omega)
  have k2 := same_new (o := .lst (cutV vs (some ((i + 1 : Nat) : Int)) none)) hp2
  refine ⟨p1, p2, vs.take i, vs.drop (i + 1), rfl, rfl, ?_, ?_, ?_, fun p3 hp3 => ?_⟩
  · rw [k2 p1 _ upd_same, e1]
  · rw [upd_same, e2]
  · rw [List.length_take, List.length_drop]
    exact Nat.le_trans (show _ ≤ 200 by omega) (by decide)
  · have k3 := (k1.trans k2).trans (same_new (o := .lst (vs.take i ++ vs.drop (i + 1))) hp3)
    exact q _ _ k3 ⟨p3, _, rfl, upd_same, paired_app (paired_take i (paired_mono hp k3)) (paired_drop (i + 1) (paired_mono hp k3))⟩
/-- sorted(kind) -/
theorem sort_run {K : PySem.W.Frag} {σ : L2.St} {H : Hp} {a : Addr} {i n : Nat} {k : List Nat} {Q : VK} (h1 : σ[i]? = some (some (.ref a))) (ha : H a = some (.lst (vs1 k))) (hk : KindOk n k) (hn : n ≤ 8) (q : ∀ H' v, Same H H' → L1 H' v (norm k) → Q v H') : tCB (rSorted K) (tCons (tVar i) tNil) σ H Q := by
  obtain ⟨⟨nd, hx, hl⟩, _⟩ := hk
  refine ⟨_, h1, a, cI k, rfl, SqL.of (by rw [← ints_vs]; exact ha), by rw [List.length_map]; omega, fun ns p pm le hp => q _ _ (same_new hp) ⟨p, rfl, ?_⟩⟩
  rw [upd_same, sort_row nd (fun x h => by have := hx x h; omega) pm le]
theorem St8.eqs {C : Addr} {H : Hp} {v u : V} {n m : Nat} {D S D' S' : List (List Nat)} {Q : VK} (h : St8 C H v n D S) (h' : St8 C H u m D' S') (q : Q (.bl (decide (n = m ∧ D = D' ∧ S = S'))) H) : rEqOwn C (spEqS C) v u H Q := by
  obtain ⟨a, dx, tD, tS, dk, rfl, ha, _⟩ := id h.at_
  obtain ⟨b, dy, uD, uS, ek, rfl, hb, _⟩ := id h'.at_
  exact ⟨a, dx, _, b, rfl, rfl, ha, .inl ⟨dy, _, hb⟩, .ref a, .ref b, n, D, S, rfl, h.at_, h.le, h.okD, h.okS, .inl ⟨m, D', S', h'.at_, h'.le, h'.okD, h'.okS, ⟨_, rfl⟩, q⟩⟩
theorem rng_at {n i : Nat} {x : V} (h : (vs1 (List.range n))[i]? = some x) : i < n ∧ x = vN i := by
  rw [List.getElem?_map] at h
  obtain ⟨j, hj, rfl⟩ := Option.map_eq_some_iff.mp h
  obtain ⟨h1, h2⟩ := List.getElem?_eq_some_iff.mp hj
  rw [List.getElem_range] at h2
  rw [List.length_range] at h1
  exact ⟨h1, by rw [h2]⟩
theorem lots_of_ok {n : Nat} {U : List (List Nat)} (h : KdsOk n U) (hn : n ≤ 8) (hl : U.length ≤ 50) : Lots8 U := Lots8.of (h.kind hn) hn hl
theorem bl_eq {a b : Bool} (h : a = b) : decide (V.bl a = V.bl b) = true := by
  rw [h]
  exact decide_eq_true rfl
theorem bl_ne {a b : Bool} (h : a = b) : (!decide (V.bl a = V.bl b)) = false := by
  rw [bl_eq h]
  rfl
section
variable {P : Program} {w : World} {K : PySem.W.Frag} {mg : Str → Option Value} {base : Heap} (T : Tx K mg)
/-- what a part of the law that draws is told -/
structure Given (C : Addr) (H : Hp) (v u : V) (n : Nat) (D S : List (List Nat)) : Prop where
  st : St8 C H v n (told D) (told S)
  wd : WorldAt H u n D S
  kD : ∀ k ∈ D, KindOk n k
  kS : ∀ k ∈ S, KindOk n k
  lD : D.length ≤ 4
  lS : S.length ≤ 4
theorem Given.mono {C : Addr} {H H' : Hp} {v u : V} {n : Nat} {D S : List (List Nat)} (g : Given C H v u n D S) (k : Same H H') : Given C H' v u n D S := ⟨g.st.mono k, g.wd.mono k, g.kD, g.kS, g.lD, g.lS⟩
def spPart (C : Addr) : Sp := fun vs H Q _ => ∃ (p : Addr) (v u : V) (n : Nat) (D S : List (List Nat)), vs = [.ref p, v, u] ∧ PotAt H p ∧ Given C (hid p H) v u n D S ∧ n ≤ 7 ∧ ∀ H', Drew p H H' → Q (.bl true) H'
theorem ok_made_right : FnG P w K mg base 10 T.lw_made_right.f T.lw_made_right.fd ["_law_pot_here", "_law_one", "_law_world"] (spPart T.C) := by
  refine okG T.lw_made_right.F sc_lw_made_right (fun vs H Q E h => ?_) (fun cdv A outer s H vs Q E hg hr h => ?_)
  · obtain ⟨p, v, u, n, D, S, rfl, _⟩ := h
    rfl
  · obtain ⟨p, v, u, n, D, S, rfl, pot, G, n7, q⟩ := h
    have hu65 : (A.deeper (envOfC ("_law_made_right" : Str) (defScope s_lw_made_right) s.heap.objs.size T.lw_made_right.f cdv)).units + 65 < cLine := by have := hr.un; omega
    refine ⟨_, pss_cons (ps_asg (pv 2) (pg_tup (by rfl) (pgs_cons (pg_name (i := 3) sc_lw_made_right.nd rfl (.inl rfl)) (pgs_cons (pg_name (i := 4) sc_lw_made_right.nd rfl (.inl rfl)) (pgs_cons (pg_name (i := 5) sc_lw_made_right.nd rfl (.inl rfl)) pgs_nil)))))
      (pss_cons (ps_set (i := 6) sc_lw_made_right.nd rfl (.inl rfl) (pe_call (ok_lot T) (hr.mono (by decide)) (by rfl) T.lw_lot.g T.lw_lot.F.kp T.lw_lot.b .nil pass0 (pa_cons (pv 0) (pa_cons (pv 3) (pa_cons pe_int pa_nil)))))
      (pss_cons (ps_if (PW.pt (pw_or (pt_not (pt_val (pe_callG (ok_is T) hg (hr.mono (by decide)) (by rfl) T.lw_is.g T.lw_is.F.kp T.lw_is.b (pa_cons (pe_call (ok_with_delivery T) (hr.mono (by decide)) (by rfl) T.with_delivery.g T.with_delivery.F.kp T.with_delivery.b .nil pass0 (pa_cons (pv 1) (pa_cons (pe_callTy call_tuple_of (by rfl) T.b_tuple (by decide +kernel) (pa_cons (pv 6) pa_nil)) pa_nil)))
            (pa_cons (pv 3) (pa_cons (pe_op op_cat (pv 4) (pe_lst (pa_cons (pv 6) pa_nil))) (pa_cons (pv 5) pa_nil)))))))
          (pw_or1 (pt_not (pt_val (pe_callG (ok_is T) hg (hr.mono (by decide)) (by rfl) T.lw_is.g T.lw_is.F.kp T.lw_is.b (pa_cons (pe_callN0 (ok_with_sale T) (hr.mono (by decide)) (by rfl) T.with_sale.g T.with_sale.F.kp T.kb_with_sale pass0 (pk_cons (pv 6) (pk_cons (pv 1) pk_nil)))
            (pa_cons (pv 3) (pa_cons (pv 4) (pa_cons (pe_op op_cat (pv 5) (pe_lst (pa_cons (pv 6) pa_nil))) pa_nil)))))))))) (pss_one ps_never) pss_nil)
      (pss_cons (ps_par (i := 7) (j := 8) (by rfl) sc_lw_made_right.nd rfl rfl (by decide) rfl rfl (pa_cons (pe_call (ok_told T) (hr.mono (by decide)) (by rfl) T.lw_told.g T.lw_told.F.kp T.lw_told.b .nil pass0 (pa_cons (pv 4) pa_nil)) (pa_cons (pe_call (ok_told T) (hr.mono (by decide)) (by rfl) T.lw_told.g T.lw_told.F.kp T.lw_told.b .nil pass0 (pa_cons (pv 5) pa_nil)) pa_nil)) (by rfl))
      (pss_cons (ps_for PassesOwn.never rfl (pi_range1 (by rfl) T.b_range (pa_cons (pe_callB call_len_seq (by rfl) T.b_len boot_len (pa_cons (pv 7) pa_nil)) pa_nil)) (pg_name (i := 9) sc_lw_made_right.nd rfl (.inl rfl))
        (pss_one (ps_if (pt_not (pt_val (pe_callG (ok_is T) hg (hr.mono (by decide)) (by rfl) T.lw_is.g T.lw_is.F.kp T.lw_is.b (pa_cons (pe_call (ok_without_delivery T) (hr.mono (by decide)) (by rfl) T.without_delivery.g T.without_delivery.F.kp T.without_delivery.b .nil pass0 (pa_cons (pv 1) (pa_cons (pv 9) pa_nil)))
            (pa_cons (pv 3) (pa_cons (pe_op op_cat (pe_slice sl_list (pv 7) po_none (po_some (pv 9))) (pe_slice sl_list (pv 7) (po_some (pe_op op_add (pv 9) pe_int)) po_none)) (pa_cons (pv 5) pa_nil))))))) (pss_one ps_never) pss_nil)))
      (pss_cons (ps_for PassesOwn.never rfl (pi_range1 (by rfl) T.b_range (pa_cons (pe_callB call_len_seq (by rfl) T.b_len boot_len (pa_cons (pv 8) pa_nil)) pa_nil)) (pg_name (i := 9) sc_lw_made_right.nd rfl (.inl rfl))
        (pss_one (ps_if (pt_not (pt_val (pe_callG (ok_is T) hg (hr.mono (by decide)) (by rfl) T.lw_is.g T.lw_is.F.kp T.lw_is.b (pa_cons (pe_callN0 (ok_without_sale T) (hr.mono (by decide)) (by rfl) T.without_sale.g T.without_sale.F.kp T.kb_without_sale pass0 (pk_cons (pv 9) (pk_cons (pv 1) pk_nil)))
            (pa_cons (pv 3) (pa_cons (pv 4) (pa_cons (pe_op op_cat (pe_slice sl_list (pv 8) po_none (po_some (pv 9))) (pe_slice sl_list (pv 8) (po_some (pe_op op_add (pv 9) pe_int)) po_none)) pa_nil))))))) (pss_one ps_never) pss_nil)))
      (pss_cons (ps_if (pt_cmpR op_ne (pe_cmpR (op_eqOwn (ok_eq T) (hr.mono (by decide)) T.aE T.iE T.st T.bE) (pe_call (ok_with_sale T) (hr.mono (by decide)) (by rfl) T.with_sale.g T.with_sale.F.kp T.with_sale.b .nil pass0 (pa_cons (pv 1) (pa_cons (pv 6) pa_nil))) (pv 1) (nomark _))
          (pe_cmpR (op_inD hu65) (pe_callB cr_sorted (by rfl) T.b_sorted (by decide +kernel) (pa_cons (pv 6) pa_nil)) (pv 8) (by with_unfolding_all rfl)) (nomark _)) (pss_one ps_never) pss_nil)
      (pss_cons (ps_set (i := 10) sc_lw_made_right.nd rfl (.inl rfl) (pe_call (ok_with_delivery T) (hr.mono (by decide)) (by rfl) T.with_delivery.g T.with_delivery.F.kp T.with_delivery.b .nil pass0 (pa_cons (pv 1) (pa_cons (pv 6) pa_nil))))
      (pss_cons (ps_set (i := 11) sc_lw_made_right.nd rfl (.inl rfl) (pe_bm PySem.F.plainAttrs_list PySem.F.slot_list_index PySem.F.type_list_index (mt_indexD hu65) (pe_meth0 (pv 10) T.cl T.MD (ok_deliveries T) (hr.mono (by decide)) T.bD .nil pass0)
          (pa_cons (pe_callB cr_sorted (by rfl) T.b_sorted (by decide +kernel) (pa_cons (pv 6) pa_nil)) pa_nil)))
      (pss_one (ps_ret (pe_and (pe_cmpR op_eq (pe_cmpR (op_eqOwn (ok_eq T) (hr.mono (by decide)) T.aE T.iE T.st T.bE) (pe_call (ok_without_delivery T) (hr.mono (by decide)) (by rfl) T.without_delivery.g T.without_delivery.F.kp T.without_delivery.b .nil pass0 (pa_cons (pv 10) (pa_cons (pv 11) pa_nil))) (pv 1) (nomark _))
            (pe_cmpR (op_notInD hu65) (pe_callB cr_sorted (by rfl) T.b_sorted (by decide +kernel) (pa_cons (pv 6) pa_nil)) (pv 7) (by with_unfolding_all rfl)) (nomark _))
          (pe_one (pe_cmpR op_eq (pe_cmpR (op_eqOwn (ok_eq T) (hr.mono (by decide)) T.aE T.iE T.st T.bE) (pv 10) (pv 1) (nomark _))
            (pe_cmpR (op_inD hu65) (pe_callB cr_sorted (by rfl) T.b_sorted (by decide +kernel) (pa_cons (pv 6) pa_nil)) (pv 7) (by with_unfolding_all rfl)) (nomark _)))))))))))))), ?_⟩
    obtain ⟨st0, ⟨a, b, c, rfl, hw, hb, hc⟩, kD, kS, lD, lS⟩ := id G
    obtain ⟨ba, bvs, rfl, hba, hbp⟩ := hb
    obtain ⟨ca, cvs, rfl, hca, hcp⟩ := hc
    have le := st0.le
    have two := st0.two
    refine ⟨_, rfl, a, _, rfl, SqT.of (hid_same _ _ hw), rfl, _, _, rfl, _, _, rfl, _, _, rfl, rfl, ?_⟩
    refine ⟨_, rfl, _, rfl, p, n, 1, rfl, by omega, le, pot, fun H1 r k dr hk lo hle => ?_⟩
    obtain ⟨ka, rfl, hka⟩ := hk
    have hk1 := (of_nw hka).2
    have kk : KindOk n k := ⟨lo, fun e => by rw [e] at hle; simp at hle⟩
    have s1 : Same (hid p H) H1 := dr.rest.trans hid_same
    have st1 : St8 T.C H1 v n (told D) (told S) := st0.mono s1
    have hb1 := s1 _ _ hba
    have hc1 := s1 _ _ hca
    have hbp1 := paired_mono hbp s1
    have hcp1 := paired_mono hcp s1
    have lkD : Lots8 D := Lots8.of kD le (by omega)
    have lkS : Lots8 S := Lots8.of kS le (by omega)
    have tlD := told_len D
    have tlS := told_len S
    have lDk : Lots8 (D ++ [k]) := Lots8.of (fun x hx => (List.mem_append.mp hx).elim (kD x) fun h => List.mem_singleton.mp h ▸ kk) le (by rw [List.length_append]; simp only [List.length_cons, List.length_nil]; omega)
    have lSk : Lots8 (S ++ [k]) := Lots8.of (fun x hx => (List.mem_append.mp hx).elim (kS x) fun h => List.mem_singleton.mp h ▸ kk) le (by rw [List.length_append]; simp only [List.length_cons, List.length_nil]; omega)
    have bl1 := vs_len hbp1
    have cl1 := vs_len hcp1
    clear G hw hba hbp hca hcp st0
    -- with one more delivery
    refine ⟨_, rfl, _, rfl, ka, _, rfl, .inl ⟨SqL.of hk1, fun t ht => ?_⟩⟩
    have k2 := same_new (o := .tup (vs1 k)) ht
    refine ⟨v, .ref t, n, told D, told S, k, rfl, st1.mono k2, .inr ⟨t, rfl, upd_same⟩, kk, by omega, by omega, fun H3 r1 k3 st3 => ?_⟩
    have s3 := k2.trans k3
    refine ⟨_, rfl, _, rfl, _, rfl, by show 1 ≤ sizeLine; decide, fun e he => ?_⟩
    have k4 := same_new (o := .lst [.ref ka]) he
    have s4 := s3.trans k4
    refine ⟨ba, e, bvs, [.ref ka], rfl, rfl, s4 _ _ hb1, upd_same, Nat.le_trans (show bvs.length + 1 ≤ 10 by omega) (by decide), fun l hl => ?_⟩
    have k5 := same_new (o := .lst (bvs ++ [.ref ka])) hl
    have s5 := s4.trans k5
    refine ⟨_, rfl, r1, .ref l, .ref ca, n, canon (told D ++ [norm k]), told S, D ++ [k], S, rfl, st3.mono (k4.trans k5), ⟨l, _, rfl, .inl upd_same, paired_app (paired_mono hbp1 s5) (.cons ⟨ka, rfl, s5 _ _ hk1⟩ .nil)⟩, ⟨ca, cvs, rfl, .inl (s5 _ _ hc1), paired_mono hcp1 s5⟩, lDk, lkS, told_snoc D k, rfl, fun H6 k6 => ⟨true, rfl, iteF ?_⟩⟩
    have s6 := s5.trans k6
    clear st3 k2 k3 k4 k5 k6 s3 s4 s5
    -- with one more sale
    refine ⟨_, rfl, _, rfl, rfl, rfl, v, .ref ka, n, told D, told S, k, rfl, st1.mono s6, .inl ⟨ka, rfl, s6 _ _ hk1⟩, kk, by omega, by omega, fun H7 r2 k7 st7 => ?_⟩
    have s7 := s6.trans k7
    refine ⟨_, rfl, _, rfl, _, rfl, _, rfl, by show 1 ≤ sizeLine; decide, fun e he => ?_⟩
    have k8 := same_new (o := .lst [.ref ka]) he
    have s8 := s7.trans k8
    refine ⟨ca, e, cvs, [.ref ka], rfl, rfl, s8 _ _ hc1, upd_same, Nat.le_trans (show cvs.length + 1 ≤ 10 by omega) (by decide), fun l hl => ?_⟩
    have k9 := same_new (o := .lst (cvs ++ [.ref ka])) hl
    have s9 := s8.trans k9
    refine ⟨r2, .ref ba, .ref l, n, told D, canon (told S ++ [norm k]), D, S ++ [k], rfl, st7.mono (k8.trans k9), ⟨ba, bvs, rfl, .inl (s9 _ _ hb1), paired_mono hbp1 s9⟩, ⟨l, _, rfl, .inl upd_same, paired_app (paired_mono hcp1 s9) (.cons ⟨ka, rfl, s9 _ _ hk1⟩ .nil)⟩, lkD, lSk, rfl, told_snoc S k, fun H10 k10 => ⟨true, rfl, iteF ?_⟩⟩
    have s10 := s9.trans k10
    clear st7 k7 k8 k9 k10 s6 s7 s8 s9
    -- told
    refine ⟨_, rfl, .ref ba, D, rfl, ⟨ba, bvs, rfl, .inl (s10 _ _ hb1), paired_mono hbp1 s10⟩, lkD, fun H11 r3 k11 hr3 => ?_⟩
    have s11 := s10.trans k11
    refine ⟨_, rfl, .ref ca, S, rfl, ⟨ca, cvs, rfl, .inl (s11 _ _ hc1), paired_mono hcp1 s11⟩, lkS, fun H12 r4 k12 hr4 => ⟨_, _, rfl, ?_⟩⟩
    have s12 := s11.trans k12
    obtain ⟨ta, tvs, rfl, hta, htp⟩ := (hr3.mono nw_same).mono k12
    obtain ⟨sa, svs, rfl, hsa, hsp⟩ := hr4.mono nw_same
    have tl := vs_len htp
    have sl := vs_len hsp
    have st12 := st1.mono s12
    clear hr3 hr4 k11 k12 s10 s11
    have okD := st1.okD
    have okS := st1.okS
    -- without each delivery
    refine ⟨_, rfl, ta, tvs, rfl, .inl (SqL.of hta), (tvs.length : Int), rfl, by omega, by omega, for_by (H0 := fun _ => none) (runs_range tvs.length)
      (fun i σ H' => ∃ y, σ = [some (.ref p), some v, some (.ref a), some (vN n), some (.ref ba), some (.ref ca), some (.ref ka), some (.ref ta), some (.ref sa), y, none, none] ∧ Same H12 H') (fun _ _ _ _ _ _ e => by cases e) ⟨_, rfl, Same.refl _⟩ ?_ ?_⟩
    · rintro i x σ H' hi ⟨y, rfl, k1⟩
      obtain ⟨hlt, rfl⟩ := rng_at hi
      have hlt : i < (told D).length := by omega
      refine ⟨_, rfl, _, rfl, v, i, n, told D, told S, rfl, st12.mono k1, hlt, fun H2 r k2 st2 => ?_⟩
      have q2 := k1.trans k2
      refine ⟨_, rfl, cut_run (K := K) rfl rfl (q2 _ _ hta) (paired_mono htp q2) hlt (by omega) fun H3 z k3 hz => ?_⟩
      have q3 := q2.trans k3
      have q3' := s12.trans q3
      have lc : (cutL (told D) i).length ≤ 50 := by
        have := cut_len hlt
        omega
      exact ⟨_, rfl, r, z, .ref ca, n, cutL (told D) i, told S, cutL (told D) i, S, rfl, st2.mono k3, hz.s2, ⟨ca, cvs, rfl, .inl (q3' _ _ hc1), paired_mono hcp1 q3'⟩, lots_of_ok (okD.cut i) le lc, lkS, cut_told okD le i, rfl, fun H4 k4 => ⟨true, rfl, iteF ⟨_, rfl, q3.trans k4⟩⟩⟩
    · rintro σ H13 ⟨y, rfl, k13⟩
      -- without each sale
      refine ⟨_, rfl, sa, svs, rfl, .inl (SqL.of (k13 _ _ hsa)), (svs.length : Int), rfl, by omega, by omega, for_by (H0 := fun _ => none) (runs_range svs.length)
        (fun i σ H' => ∃ y, σ = [some (.ref p), some v, some (.ref a), some (vN n), some (.ref ba), some (.ref ca), some (.ref ka), some (.ref ta), some (.ref sa), y, none, none] ∧ Same H12 H') (fun _ _ _ _ _ _ e => by cases e) ⟨_, rfl, k13⟩ ?_ ?_⟩
      · rintro i x σ H' hi ⟨y, rfl, k1⟩
        obtain ⟨hlt, rfl⟩ := rng_at hi
        have hlt : i < (told S).length := by omega
        refine ⟨_, rfl, _, rfl, rfl, rfl, v, i, n, told D, told S, rfl, st12.mono k1, hlt, fun H2 r k2 st2 => ?_⟩
        have q2 := k1.trans k2
        refine ⟨_, rfl, _, rfl, cut_run (K := K) rfl rfl (q2 _ _ hsa) (paired_mono hsp q2) hlt (by omega) fun H3 z k3 hz => ?_⟩
        have q3 := q2.trans k3
        have q3' := s12.trans q3
        have lc : (cutL (told S) i).length ≤ 50 := by
          have := cut_len hlt
          omega
        exact ⟨r, .ref ba, z, n, told D, cutL (told S) i, D, cutL (told S) i, rfl, st2.mono k3, ⟨ba, bvs, rfl, .inl (q3' _ _ hb1), paired_mono hbp1 q3'⟩, hz.s2, lkD, lots_of_ok (okS.cut i) le lc, rfl, cut_told okS le i, fun H4 k4 => ⟨true, rfl, iteF ⟨_, rfl, q3.trans k4⟩⟩⟩
      · rintro σ H14 ⟨y2, rfl, k14⟩
        -- a sale that is there already
        refine ⟨_, rfl, _, rfl, v, .ref ka, n, told D, told S, k, rfl, st12.mono k14, .inl ⟨ka, rfl, k14 _ _ (s12 _ _ hk1)⟩, kk, by omega, by omega, fun H15 r k15 st15 => ?_⟩
        have k15 := k14.trans k15
        refine ⟨_, rfl, st15.eqs (st12.mono k15) ?_⟩
        refine sort_run (K := K) rfl (k15 _ _ (s12 _ _ hk1)) kk le fun H16 z k16 hz => ?_
        have k16 := k15.trans k16
        refine ⟨_, rfl, dL (norm k), (told S).map dL, hz.dp, .lst (SqL.of (k16 _ _ hsa)) (dpAll_rows (paired_mono hsp k16)), shaped_row _, shaped_rows _, rfl, _, rfl, iteF' (bl_ne ?_) ?_⟩
        · rw [any_eqv]
          refine decide_eq_decide.mpr ?_
          rw [← more_iff (told_up S) (norm k)]
          exact ⟨fun h => h.2.2, fun h => ⟨rfl, rfl, h⟩⟩
        -- a delivery more and away again
        refine ⟨_, rfl, _, rfl, v, .ref ka, n, told D, told S, k, rfl, st12.mono k16, .inl ⟨ka, rfl, k16 _ _ (s12 _ _ hk1)⟩, kk, by omega, by omega, fun H17 hv k17 st17 => ?_⟩
        have st17 : St8 T.C H17 hv n (canon (told D ++ [norm k])) (told S) := st17
        have k17' := k16.trans k17
        obtain ⟨d, dx, tD, tS, dk, rfl, hd, _⟩ := id st17.at_
        refine ⟨_, rfl, d, dx, _, rfl, hd, flds_no _ _ _ _ (by decide +kernel) (by decide +kernel) (by decide +kernel) (by decide +kernel), .ref d, n, _, _, rfl, st17.at_, le, st17.okD, by show (canon (told D ++ [norm k])).length ≤ 100; have := st17.lD; omega, fun H18 r5 k18 hr5 => ?_⟩
        obtain ⟨da, dvs, rfl, hda, hdp⟩ := hr5.mono nw_same
        have k18' := k17'.trans k18
        refine ⟨.inl ⟨rfl, _, SqL.of hda⟩, sort_run (K := K) rfl (k18' _ _ (s12 _ _ hk1)) kk le fun H19 z k19 hz => ?_⟩
        have k19' := k18'.trans k19
        have hin : norm k ∈ canon (told D ++ [norm k]) := mem_canon.mpr (List.mem_append_right _ (List.mem_singleton.mpr rfl))
        obtain ⟨j, hj, ej, hfirst⟩ := at_index (canon_up _) hin
        have ej' : ((canon (told D ++ [norm k])).map dL)[j]? = some (dL (norm k)) := by
          rw [List.getElem?_map, List.getElem?_eq_getElem hj, ej]
          rfl
        refine ⟨da, z, dL (norm k), (canon (told D ++ [norm k])).map dL, j, dL (norm k), rfl, rfl, .lst (SqL.of (k19 _ _ hda)) (dpAll_rows (paired_mono hdp k19)), hz.dp, shaped_rows _, shaped_row _, ej', by rw [eqv_row]; exact decide_eq_true rfl, fun m z' hm hz' => ?_, ?_⟩
        · rw [List.getElem?_map] at hz'
          obtain ⟨x, hx, rfl⟩ := Option.map_eq_some_iff.mp hz'
          obtain ⟨hml, e2⟩ := List.getElem?_eq_some_iff.mp hx
          rw [eqv_row]
          exact decide_eq_false fun e => hfirst m hml hm (e2.trans e)
        refine ⟨_, rfl, _, rfl, .ref d, j, n, canon (told D ++ [norm k]), told S, rfl, st17.mono (k18.trans k19), hj, fun H20 r6 k20 st20 => ?_⟩
        have k20' := k19'.trans k20
        refine ⟨_, rfl, st20.eqs (st12.mono k20') ?_⟩
        refine sort_run (K := K) rfl (k20' _ _ (s12 _ _ hk1)) kk le fun H21 z2 k21 hz2 => ?_
        have k21' := k20'.trans k21
        refine ⟨_, rfl, dL (norm k), (told D).map dL, hz2.dp, .lst (SqL.of (k21' _ _ hta)) (dpAll_rows (paired_mono htp k21')), shaped_row _, shaped_rows _, rfl, _, rfl, iteT' (bl_eq ?_) ?_⟩
        · rw [any_eqv, ← decide_not]
          refine decide_eq_decide.mpr ?_
          rw [← back_iff (told_up D) hj ej]
          exact ⟨fun h => h.2.1, fun h => ⟨rfl, h, rfl⟩⟩
        refine ⟨_, rfl, _, rfl, (st17.mono (k18.trans (k19.trans (k20.trans k21)))).eqs (st12.mono k21') ?_⟩
        refine sort_run (K := K) rfl (k21' _ _ (s12 _ _ hk1)) kk le fun H22 z3 k22 hz3 => ?_
        have k22' := k21'.trans k22
        refine ⟨_, rfl, dL (norm k), (told D).map dL, hz3.dp, .lst (SqL.of (k22' _ _ hta)) (dpAll_rows (paired_mono htp k22')), shaped_row _, shaped_rows _, rfl, q_bl (Q := Q) (bl_eq ?_) (q _ (dr.keep (s12.trans k22')))⟩
        rw [any_eqv]
        refine decide_eq_decide.mpr ?_
        rw [← more_iff (told_up D) (norm k)]
        exact ⟨fun h => h.2.1, fun h => ⟨rfl, h, rfl⟩⟩
end
end TA
namespace TA
open PySem PySem.Spec PyProof.Rows L2
/-! ### renaming, plainly -/
theorem mem_mv {o k : List Nat} {y : Nat} : y ∈ mv o k ↔ ∃ x ∈ k, o.getD x 0 = y := List.mem_map
theorem mem_ren {o : List Nat} {U : List (List Nat)} {x : List Nat} : x ∈ ren o U ↔ ∃ k ∈ U, norm (mv o k) = x := by
  unfold ren
  rw [mem_canon, List.mem_map]
theorem KindOk.in8 {n : Nat} {k : List Nat} (h : KindOk n k) (hn : n ≤ 8) : In8 k := fun x hx => by
  have := h.1.2.1 x hx
  omega
theorem mv_norm {o k : List Nat} (h : In8 k) : norm (mv o (norm k)) = norm (mv o k) := norm_ext fun y => by
  rw [mem_mv, mem_mv]
  exact ⟨fun ⟨x, hx, e⟩ => ⟨x, (mem_norm h).mp hx, e⟩, fun ⟨x, hx, e⟩ => ⟨x, (mem_norm h).mpr hx, e⟩⟩
theorem ren_up (o : List Nat) (U : List (List Nat)) : (ren o U).Pairwise (· < ·) := canon_up _
theorem told_moved {n : Nat} {o : List Nat} {D : List (List Nat)} (hD : ∀ k ∈ D, KindOk n k) (hn : n ≤ 8) : told (D.map (mv o)) = ren o (told D) := by
  refine ext_lots (told_up _) (ren_up _ _) fun x => ?_
  rw [mem_told, mem_ren]
  constructor
  · rintro ⟨k, hk, e⟩
    obtain ⟨k0, h0, rfl⟩ := List.mem_map.mp hk
    exact ⟨norm k0, mem_told.mpr ⟨k0, h0, rfl⟩, (mv_norm ((hD k0 h0).in8 hn)).trans e⟩
  · rintro ⟨k, hk, e⟩
    obtain ⟨k0, h0, rfl⟩ := mem_told.mp hk
    exact ⟨mv o k0, List.mem_map.mpr ⟨k0, h0, rfl⟩, (mv_norm ((hD k0 h0).in8 hn)).symm.trans e⟩
/-! the way back -/
theorem ord_all {n : Nat} {o : List Nat} (ho : OrdOk n o) {s : Nat} (hs : s < n) : s ∈ o := by
  have pm : ((List.range n).filter fun x => decide (x ∈ o)).Perm o := (List.perm_ext_iff_of_nodup (List.nodup_range.filter _) ho.1.1).mpr fun x => by
    rw [List.mem_filter, List.mem_range, decide_eq_true_eq]
    exact ⟨fun h => h.2, fun h => ⟨ho.1.2.1 x h, h⟩⟩
  have hl := pm.length_eq
  rw [ho.2] at hl
  have := (List.length_filter_eq_length_iff (p := fun x => decide (x ∈ o)) (l := List.range n)).mp (by rw [hl, List.length_range])
  exact of_decide_eq_true (this s (List.mem_range.mpr hs))
def fx (o : List Nat) (s : Nat) : Nat := o.findIdx (· == s)
theorem fx_lt {n : Nat} {o : List Nat} (ho : OrdOk n o) {s : Nat} (hs : s < n) : fx o s < o.length := List.findIdx_lt_length_of_exists ⟨s, ord_all ho hs, beq_self_eq_true s⟩
theorem fx_at {n : Nat} {o : List Nat} (ho : OrdOk n o) {s : Nat} (hs : s < n) : o[fx o s]'(fx_lt ho hs) = s := beq_iff_eq.mp (List.findIdx_getElem (w := fx_lt ho hs) (p := (· == s)))
theorem fx_first {o : List Nat} {s m : Nat} (hm : m < fx o s) (h : m < o.length) : o[m] ≠ s := fun e => by
  have := List.not_of_lt_findIdx (p := (· == s)) (xs := o) hm
  rw [e, beq_self_eq_true] at this
  cases this
def bk (n : Nat) (o : List Nat) : List Nat := (List.range n).map (fx o)
theorem bk_at {n : Nat} {o : List Nat} {s : Nat} (hs : s < n) : (bk n o).getD s 0 = fx o s := by
  unfold bk
  rw [List.getD_eq_getElem?_getD, List.getElem?_map, List.getElem?_range hs]
  rfl
theorem bk_inv {n : Nat} {o : List Nat} (ho : OrdOk n o) {x : Nat} (hx : x < n) : (bk n o).getD (o.getD x 0) 0 = x := by
  have hl : x < o.length := by rw [ho.2]; exact hx
  have hs : o.getD x 0 < n := ho.1.2.1 _ (getD_mem hl)
  rw [bk_at hs]
  refine getD_inj ho.1.1 (fx_lt ho hs) hl ?_
  rw [getD_lt (fx_lt ho hs), fx_at ho hs]
theorem bk_ok {n : Nat} {o : List Nat} (ho : OrdOk n o) : OrdOk n (bk n o) := by
  have hl : (bk n o).length = n := by
    unfold bk
    rw [List.length_map, List.length_range]
  refine ⟨⟨nodup_mapOn List.nodup_range fun x hx y hy e => ?_, fun x hx => ?_, by have := ho.1.2.2; rw [hl]; rw [ho.2] at this; exact this⟩, hl⟩
  · have hx := List.mem_range.mp hx
    have hy := List.mem_range.mp hy
    rw [← fx_at ho hx, ← fx_at ho hy]
    congr 1
  · obtain ⟨s, hs, rfl⟩ := List.mem_map.mp hx
    have := fx_lt ho (List.mem_range.mp hs)
    rw [ho.2] at this
    exact this
theorem in8_mv {n : Nat} {o k : List Nat} (ho : OrdOk n o) (hn : n ≤ 8) (hk : ∀ x ∈ k, x < n) : In8 (mv o k) := fun y hy => by
  obtain ⟨x, hx, rfl⟩ := mem_mv.mp hy
  have := ho.1.2.1 _ (getD_mem (o := o) (x := x) (by rw [ho.2]; exact hk x hx))
  omega
theorem ren_back {n : Nat} {o : List Nat} {U : List (List Nat)} (ho : OrdOk n o) (hn : n ≤ 8) (hU : KdsOk n U) : ren (bk n o) (ren o U) = U := by
  have f : ∀ k ∈ U, norm (mv (bk n o) (norm (mv o k))) = k := fun k hk => by
    have hx := (hU.2 k hk).2.2
    rw [mv_norm (in8_mv ho hn hx)]
    refine (norm_ext fun y => ?_).trans (norm_of_up (hU.in8 hn k hk) (hU.2 k hk).2.1)
    rw [mem_mv]
    constructor
    · rintro ⟨z, hz, rfl⟩
      obtain ⟨x, hx', rfl⟩ := mem_mv.mp hz
      rw [bk_inv ho (hx x hx')]
      exact hx'
    · intro hy
      exact ⟨o.getD y 0, mem_mv.mpr ⟨y, hy, rfl⟩, bk_inv ho (hx y hy)⟩
  refine ext_lots (ren_up _ _) hU.1 fun x => ?_
  rw [mem_ren]
  constructor
  · rintro ⟨z, hz, e⟩
    obtain ⟨k, hk, rfl⟩ := mem_ren.mp hz
    rw [f k hk] at e
    exact e ▸ hk
  · intro hx
    exact ⟨norm (mv o x), mem_ren.mpr ⟨x, hx, rfl⟩, f x hx⟩
theorem flat_in8 {n : Nat} {U : List (List Nat)} (hn : n ≤ 8) (hU : KdsOk n U) : ∀ x ∈ U.flatten, x < n := fun x hx => by
  obtain ⟨k, hk, h⟩ := List.mem_flatten.mp hx
  exact (hU.2 k hk).2.2 x h
/-- what is named, renamed -/
theorem named_ren {n : Nat} {o : List Nat} {U : List (List Nat)} (ho : OrdOk n o) (hn : n ≤ 8) (hU : KdsOk n U) : norm (ren o U).flatten = norm (mv o (norm U.flatten)) := by
  have h8 : In8 U.flatten := fun x hx => by
    have := flat_in8 hn hU x hx
    omega
  rw [mv_norm h8]
  refine norm_ext fun y => ?_
  rw [List.mem_flatten, mem_mv]
  constructor
  · rintro ⟨z, hz, hy⟩
    obtain ⟨k, hk, rfl⟩ := mem_ren.mp hz
    obtain ⟨x, hx, e⟩ := mem_mv.mp ((mem_norm (in8_mv ho hn (hU.2 k hk).2.2)).mp hy)
    exact ⟨x, List.mem_flatten.mpr ⟨k, hk, hx⟩, e⟩
  · rintro ⟨x, hx, e⟩
    obtain ⟨k, hk, hxk⟩ := List.mem_flatten.mp hx
    exact ⟨_, mem_ren.mpr ⟨k, hk, rfl⟩, (mem_norm (in8_mv ho hn (hU.2 k hk).2.2)).mpr (mem_mv.mpr ⟨x, hxk, e⟩)⟩
theorem ren_more {o k : List Nat} {U : List (List Nat)} (h8 : In8 k) : ren o (canon (U ++ [norm k])) = canon (ren o U ++ [norm (mv o k)]) := by
  refine ext_lots (ren_up _ _) (canon_up _) fun x => ?_
  rw [mem_ren, mem_canon, List.mem_append, List.mem_singleton, mem_ren]
  constructor
  · rintro ⟨z, hz, e⟩
    rw [mem_canon, List.mem_append, List.mem_singleton] at hz
    rcases hz with h | h
    · exact .inl ⟨z, h, e⟩
    · subst h
      rw [mv_norm h8] at e
      exact .inr e.symm
  · rintro (⟨z, hz, e⟩ | rfl)
    · exact ⟨z, mem_canon.mpr (List.mem_append_left _ hz), e⟩
    · exact ⟨norm k, mem_canon.mpr (List.mem_append_right _ (List.mem_singleton.mpr rfl)), mv_norm h8⟩
end TA
namespace TA
open PySem PySem.Spec PyProof.Rows L2
theorem StoreAt.hid {C p : Addr} {H : Hp} {v : V} {n : Nat} {D S : List (List Nat)} (h : StoreAt C H v n D S) (pot : PotAt H p) : StoreAt C (hid p H) v n D S := by
  obtain ⟨a, dx, tD, tS, dk, e, h1, h2, h3⟩ := h
  obtain ⟨x, y, hp, _⟩ := pot
  have ne : ∀ {b : Addr} {o : HO}, H b = some o → (∀ xs, o ≠ .lst xs) → b ≠ p := fun {b o} q no eb => by
    rw [eb, hp] at q
    exact no _ (Option.some.inj q).symm
  exact ⟨a, dx, tD, tS, dk, e, hid_get h1 (ne h1 fun _ => nofun), hid_get h2 (ne h2 fun _ => nofun), hid_get h3 (ne h3 fun _ => nofun)⟩
theorem St8.hid {C p : Addr} {H : Hp} {v : V} {n : Nat} {D S : List (List Nat)} (h : St8 C H v n D S) (pot : PotAt H p) : St8 C (hid p H) v n D S := ⟨h.at_.hid pot, h.two, h.le, h.okD, h.okS, h.lD, h.lS⟩
/-- [order[shelf] for shelf in J] -/
theorem mv_comp {K : PySem.W.Frag} {H : Hp} {J : It} {D oa : Addr} {σ : L2.St} {i j n : Nat} {k o : List Nat} {Qd : Hp → Prop} (hJ : Runs J (vs1 k) H) (hD : H D = none) (hl : k.length ≤ 100) (ho : OrdOk n o) (hk : ∀ x ∈ k, x < n) (hoa : H oa = some (.lst (vs1 o)))
    (hw : ∀ x, wipe ((wipe σ [i]).set i (some x)) [i] = wipe σ [i]) (hs : ∀ x, ((wipe σ [i]).set i (some x))[i]? = some (some x)) (hj : ∀ x, ((wipe σ [i]).set i (some x))[j]? = some (some (.ref oa)))
    (q : ∀ H', Same H H' → L1 (Nw H H') (.ref D) (mv o k) → Qd H') :
    ∃ W : Nat → Nat → Hp → Prop, (∃ m, W 0 m (upd H D (.lst []))) ∧ ∀ t m H, W t m H →
      (J.stop t H ∧ Qd H) ∨ (J.go t H ∧ ∃ Nx : Hp → Prop, (∀ H', Nx H' → ∃ m', m' < m ∧ W (t + 1) m' H') ∧ ∀ x H', J.yld t H x H' → gName i x (wipe σ [i]) H' fun σ2 H2 => wipe σ2 [i] = wipe σ [i] ∧ tYes σ2 H2 fun b H3 =>
        if b = true then tOp (rIxL K) (tVar j) (tVar i) σ2 H3 fun y H4 => ∃ acc, H4 D = some (.lst acc) ∧ acc.length < sizeLine ∧ Nx (upd H4 D (.lst (acc ++ [y]))) else Nx H3) := by
  refine comp_all k hJ (by simp) (by omega) hD (fun x _ v => v = vN (o.getD x 0)) (fun _ _ _ _ _ h => h) (fun t y e H3 Z3 hyj hdj k3 z3 => ?_) (fun H3 ys k3 hy3 hys3 => ?_) ⟨i, rfl⟩
  · have ey : y = vN e := by
      rw [List.getElem?_map, hdj] at hyj
      exact (Option.some.inj hyj).symm
    subst ey
    have hlt : e < o.length := by rw [ho.2]; exact hk e (List.mem_of_getElem? hdj)
    refine ⟨hw _, _, hj _, _, hs _, oa, vs1 o, (e : Int), vN (o.getD e 0), rfl, rfl, SqL.of (k3 _ _ hoa), atI_nat ?_, z3 _ _ (Same.refl _) rfl⟩
    rw [List.getElem?_map, List.getElem?_eq_getElem hlt, getD_lt hlt]
    rfl
  · have ey : ys = vs1 (mv o k) := by
      refine (paired_fun hys3).trans ?_
      show _ = List.map vN (List.map _ _)
      rw [List.map_map]
      rfl
    subst ey
    exact q _ k3 ⟨D, rfl, nw_get hD hy3⟩
theorem eqV_nn (a b : Nat) : eqV (vN a) (vN b) = decide (a = b) := by
  show ((a : Int) == (b : Int)) = _
  by_cases h : a = b
  · subst h
    simp
  · rw [decide_eq_false h]
    exact beq_eq_false_iff_ne.mpr (by omega)
/-- [order.index(shelf) for shelf in range(n)] -/
theorem bk_comp {K : PySem.W.Frag} {H : Hp} {D oa : Addr} {σ : L2.St} {i j n : Nat} {o : List Nat} {Qd : Hp → Prop} (hD : H D = none) (hn : n ≤ 8) (ho : OrdOk n o) (hoa : H oa = some (.lst (vs1 o)))
    (hw : ∀ x, wipe ((wipe σ [i]).set i (some x)) [i] = wipe σ [i]) (hs : ∀ x, ((wipe σ [i]).set i (some x))[i]? = some (some x)) (hj : ∀ x, ((wipe σ [i]).set i (some x))[j]? = some (some (.ref oa)))
    (q : ∀ H', Same H H' → L1 (Nw H H') (.ref D) (bk n o) → Qd H') :
    ∃ W : Nat → Nat → Hp → Prop, (∃ m, W 0 m (upd H D (.lst []))) ∧ ∀ t m H, W t m H →
      ((Itr 0 n).stop t H ∧ Qd H) ∨ ((Itr 0 n).go t H ∧ ∃ Nx : Hp → Prop, (∀ H', Nx H' → ∃ m', m' < m ∧ W (t + 1) m' H') ∧ ∀ x H', (Itr 0 n).yld t H x H' → gName i x (wipe σ [i]) H' fun σ2 H2 => wipe σ2 [i] = wipe σ [i] ∧ tYes σ2 H2 fun b H3 =>
        if b = true then tBM K "list" (rIndex K) (tVar j) (tCons (tVar i) tNil) σ2 H3 fun y H4 => ∃ acc, H4 D = some (.lst acc) ∧ acc.length < sizeLine ∧ Nx (upd H4 D (.lst (acc ++ [y]))) else Nx H3) := by
  refine comp_all (List.range n) (runs_range n) (by simp) (by simp; omega) hD (fun x _ v => v = vN (fx o x)) (fun _ _ _ _ _ h => h) (fun t y e H3 Z3 hyj hdj k3 z3 => ?_) (fun H3 ys k3 hy3 hys3 => ?_) ⟨i, rfl⟩
  · have ey : y = vN e := by
      rw [List.getElem?_map, hdj] at hyj
      exact (Option.some.inj hyj).symm
    subst ey
    have he : e < n := List.mem_range.mp (List.mem_of_getElem? hdj)
    have hf := fx_lt ho he
    have h3 := k3 _ _ hoa
    refine ⟨hw _, _, hj _, .inl ⟨rfl, _, SqL.of h3⟩, _, hs _, oa, vs1 o, vN e, fx o e, vN e, rfl, rfl, SqL.of h3, rfl, flat_vs o, ?_, by rw [eqV_nn]; exact decide_eq_true rfl, fun m z' hm hz => ?_, z3 _ _ (Same.refl _) rfl⟩
    · rw [List.getElem?_map, List.getElem?_eq_getElem hf, fx_at ho he]
      rfl
    · rw [List.getElem?_map] at hz
      obtain ⟨x, hx, rfl⟩ := Option.map_eq_some_iff.mp hz
      obtain ⟨hml, e2⟩ := List.getElem?_eq_some_iff.mp hx
      rw [eqV_nn]
      exact decide_eq_false fun e3 => fx_first hm hml (e2.trans e3)
  · have ey : ys = vs1 (bk n o) := by
      refine (paired_fun hys3).trans ?_
      show _ = List.map vN (List.map _ _)
      rw [List.map_map]
      rfl
    subst ey
    exact q _ k3 ⟨D, rfl, nw_get hD hy3⟩
section
variable {P : Program} {w : World} {K : PySem.W.Frag} {mg : Str → Option Value} {base : Heap} (T : Tx K mg)
abbrev NRR : List Str := ["_law_pot_here", "_law_one", "_law_world", "_law_shelves", "_law_deliveries", "_law_sales", "_law_order_here", "_law_late", "_law_back", "_law_kind", "_law_shelf"]
theorem ok_renamed_right : FnG P w K mg base 10 T.lw_renamed_right.f T.lw_renamed_right.fd ["_law_pot_here", "_law_one", "_law_world"] (spPart T.C) := by
  refine okG T.lw_renamed_right.F sc_lw_renamed_right (fun vs H Q E h => ?_) (fun cdv A outer s H vs Q E hg hr h => ?_)
  · obtain ⟨p, v, u, n, D, S, rfl, _⟩ := h
    rfl
  · obtain ⟨p, v, u, n, D, S, rfl, pot, G, n7, q⟩ := h
    refine ⟨_, pss_cons (ps_asg (pv 2) (pg_tup (by rfl) (pgs_cons (pg_name (i := 3) sc_lw_renamed_right.nd rfl (.inl rfl)) (pgs_cons (pg_name (i := 4) sc_lw_renamed_right.nd rfl (.inl rfl)) (pgs_cons (pg_name (i := 5) sc_lw_renamed_right.nd rfl (.inl rfl)) pgs_nil)))))
      (pss_cons (ps_set (i := 6) sc_lw_renamed_right.nd rfl (.inr rfl) (pe_call (ok_order T) (hr.mono (by decide)) (by rfl) T.lw_order.g T.lw_order.F.kp T.lw_order.b .nil pass0 (pa_cons (pv 0) (pa_cons (pv 3) pa_nil))))
      (pss_cons (ps_par (i := 7) (j := 8) (by rfl) sc_lw_renamed_right.nd rfl rfl (by decide) rfl rfl (pa_cons (pe_call (ok_renamed T) (hr.mono (by decide)) (by rfl) T.renamed.g T.renamed.F.kp T.renamed.b .nil pass0 (pa_cons (pv 1) (pa_cons (pv 6) pa_nil)))
          (pa_cons (pe_lc (own := [("_law_shelf", 10)]) (g := gName 10) (te := tBM K "list" (rIndex K) (tVar 6) (tCons (tVar 10) tNil)) (by rfl) sc_lw_renamed_right.nd (pi_range1 (by rfl) T.b_range (pa_cons (pv 3) pa_nil)) (blkOk_by (own := [("_law_shelf", 10)]) (N := NRR) (sc := defScope s_lw_renamed_right) (by decide +kernel))
            (fun _ _ _ _ _ => pg_name (i := 10) sc_lw_renamed_right.nd rfl (.inl rfl)) (fun _ _ _ _ _ => pts_nil)
            (fun _ _ _ _ _ => pe_bm PySem.F.plainAttrs_list PySem.F.slot_list_index PySem.F.type_list_index mt_index (pv 6) (pa_cons (pv 10) pa_nil))) pa_nil)) (by rfl))
      (pss_cons (ps_if (PW.pt (pw_or (pt_not (pt_val (pe_callG (ok_is T) hg (hr.mono (by decide)) (by rfl) T.lw_is.g T.lw_is.F.kp T.lw_is.b (pa_cons (pv 7) (pa_cons (pv 3)
            (pa_cons (pe_call (ok_lmoved T) (hr.mono (by decide)) (by rfl) T.lw_moved.g T.lw_moved.F.kp T.lw_moved.b .nil pass0 (pa_cons (pv 4) (pa_cons (pv 6) pa_nil)))
            (pa_cons (pe_call (ok_lmoved T) (hr.mono (by decide)) (by rfl) T.lw_moved.g T.lw_moved.F.kp T.lw_moved.b .nil pass0 (pa_cons (pv 5) (pa_cons (pv 6) pa_nil))) pa_nil)))))))
          (pw_or1 (pt_not (pt_cmpR (op_eqOwn (ok_eq T) (hr.mono (by decide)) T.aE T.iE T.st T.bE) (pe_callN0 (ok_renamed T) (hr.mono (by decide)) (by rfl) T.renamed.g T.renamed.F.kp T.kb_renamed pass0
            (pk_cons (pe_callTy call_tuple_of (by rfl) T.b_tuple (by decide +kernel) (pa_cons (pv 8) pa_nil)) (pk_cons (pv 7) pk_nil))) (pv 1) (nomark _)))))) (pss_one ps_never) pss_nil)
      (pss_cons (ps_if (pt_cmpR (op_neD hr.units) (pe_call (ok_named T) (hr.mono (by decide)) (by rfl) T.named.g T.named.F.kp T.named.b .nil pass0 (pa_cons (pv 7) pa_nil))
          (pe_callB cr_sorted (by rfl) T.b_sorted (by decide +kernel) (pa_cons (pe_lc (own := [("_law_shelf", 10)]) (g := gName 10) (te := tOp (rIxL K) (tVar 6) (tVar 10)) (by rfl) sc_lw_renamed_right.nd
            (pi_list (pe_call (ok_named T) (hr.mono (by decide)) (by rfl) T.named.g T.named.F.kp T.named.b .nil pass0 (pa_cons (pv 1) pa_nil))) (blkOk_by (own := [("_law_shelf", 10)]) (N := NRR) (sc := defScope s_lw_renamed_right) (by decide +kernel))
            (fun _ _ _ _ _ => pg_name (i := 10) sc_lw_renamed_right.nd rfl (.inl rfl)) (fun _ _ _ _ _ => pts_nil) (fun _ _ _ _ _ => pe_ix ix_list (pv 6) (pv 10) fun _ _ => rfl)) pa_nil)) (nomark _)) (pss_one ps_never) pss_nil)
      (pss_cons (ps_set (i := 9) sc_lw_renamed_right.nd rfl (.inl rfl) (pe_call (ok_lot T) (hr.mono (by decide)) (by rfl) T.lw_lot.g T.lw_lot.F.kp T.lw_lot.b .nil pass0 (pa_cons (pv 0) (pa_cons (pv 3) (pa_cons pe_int pa_nil)))))
      (pss_one (ps_ret (pe_cmpR (op_eqOwn (ok_eq T) (hr.mono (by decide)) T.aE T.iE T.st T.bE)
        (pe_call (ok_renamed T) (hr.mono (by decide)) (by rfl) T.renamed.g T.renamed.F.kp T.renamed.b .nil pass0 (pa_cons (pe_call (ok_with_sale T) (hr.mono (by decide)) (by rfl) T.with_sale.g T.with_sale.F.kp T.with_sale.b .nil pass0 (pa_cons (pv 1) (pa_cons (pv 9) pa_nil))) (pa_cons (pv 6) pa_nil)))
        (pe_call (ok_with_sale T) (hr.mono (by decide)) (by rfl) T.with_sale.g T.with_sale.F.kp T.with_sale.b .nil pass0 (pa_cons (pv 7) (pa_cons (pe_lc (own := [("_law_shelf", 10)]) (g := gName 10) (te := tOp (rIxL K) (tVar 6) (tVar 10)) (by rfl) sc_lw_renamed_right.nd
            (pi_list (pv 9)) (blkOk_by (own := [("_law_shelf", 10)]) (N := NRR) (sc := defScope s_lw_renamed_right) (by decide +kernel))
            (fun _ _ _ _ _ => pg_name (i := 10) sc_lw_renamed_right.nd rfl (.inl rfl)) (fun _ _ _ _ _ => pts_nil) (fun _ _ _ _ _ => pe_ix ix_list (pv 6) (pv 10) fun _ _ => rfl)) pa_nil))) (nomark _))))))))), ?_⟩
    obtain ⟨st0, ⟨a, b, c, rfl, hw, hb, hc⟩, kD, kS, lD, lS⟩ := id G
    obtain ⟨ba, bvs, rfl, hba, hbp⟩ := hb
    obtain ⟨ca, cvs, rfl, hca, hcp⟩ := hc
    have le := st0.le
    have two := st0.two
    refine ⟨_, rfl, a, _, rfl, SqT.of (hid_same _ _ hw), rfl, _, _, rfl, _, _, rfl, _, _, rfl, rfl, ?_⟩
    refine ⟨_, rfl, _, rfl, p, n, rfl, le, pot, fun H1 ov o dr hov oo => ?_⟩
    obtain ⟨oa, rfl, hoa⟩ := hov
    have hoa1 := (of_nw hoa).2
    have nop : oa ≠ p := fun e => pot.some (e ▸ (of_nw hoa).1)
    have s1 : Same (hid p H) H1 := dr.rest.trans hid_same
    have st1 : St8 T.C H1 v n (told D) (told S) := st0.mono s1
    have hb1 := s1 _ _ hba
    have hc1 := s1 _ _ hca
    have hbp1 := paired_mono hbp s1
    have hcp1 := paired_mono hcp s1
    have tlD := told_len D
    have tlS := told_len S
    clear G hw hba hbp hca hcp st0
    have okD := st1.okD
    have okS := st1.okS
    -- late, back
    refine ⟨_, rfl, _, rfl, v, .ref oa, n, told D, told S, o, rfl, st1, .inl ⟨oa, rfl, hoa1⟩, oo, fun H2 lv k2 st2 => ?_⟩
    refine ⟨_, rfl, (n : Int), rfl, by omega, by omega, fun D1 hD1 => bk_comp (K := K) (n := n) hD1 le oo (k2 _ _ hoa1) (fun _ => rfl) (fun _ => rfl) (fun _ => rfl) fun H3 k3 hbk => ⟨_, _, rfl, ?_⟩⟩
    have s3 := k2.trans k3
    have st3 := st2.mono k3
    have hbk3 := hbk.mono nw_same
    obtain ⟨_, e1, hD3⟩ := hbk3
    cases e1
    have rlD : (ren o (told D)).length ≤ 4 := canon_le (by rw [List.length_map]; omega)
    have rlS : (ren o (told S)).length ≤ 4 := canon_le (by rw [List.length_map]; omega)
    -- the late store as the law sees it
    refine ⟨_, rfl, _, rfl, _, rfl, _, rfl, .ref ba, .ref oa, n, D, o, rfl, ⟨ba, bvs, rfl, .inl (s3 _ _ hb1), paired_mono hbp1 s3⟩, ⟨oa, rfl, s3 _ _ hoa1⟩, oo, le, kD, by omega, fun H4 r4 k4 hr4 => ?_⟩
    have s4 := s3.trans k4
    refine ⟨_, rfl, _, rfl, .ref ca, .ref oa, n, S, o, rfl, ⟨ca, cvs, rfl, .inl (s4 _ _ hc1), paired_mono hcp1 s4⟩, ⟨oa, rfl, s4 _ _ hoa1⟩, oo, le, kS, by omega, fun H5 r5 k5 hr5 => ?_⟩
    rw [told_moved kD le] at hr4
    rw [told_moved kS le] at hr5
    refine ⟨lv, r4, r5, n, ren o (told D), ren o (told S), ren o (told D), ren o (told S), rfl, st3.mono (k4.trans k5), ((hr4.mono nw_same).mono k5).s2, (hr5.mono nw_same).s2, lots_of_ok st3.okD le (by omega), lots_of_ok st3.okS le (by omega), told_of_ok st3.okD le, told_of_ok st3.okS le, fun H6 k6 => ⟨true, rfl, iteF ?_⟩⟩
    have k36 := k4.trans (k5.trans k6)
    have s6 := s3.trans k36
    clear hr4 hr5 k4 k5 k6 s4
    -- and back
    refine ⟨_, rfl, D1, _, rfl, .inl ⟨SqL.of (k36 _ _ hD3), fun t ht => ?_⟩⟩
    have k7 := same_new (o := .tup (vs1 (bk n o))) ht
    have s7 := s6.trans k7
    refine ⟨_, rfl, rfl, rfl, lv, .ref t, n, ren o (told D), ren o (told S), bk n o, rfl, st3.mono (k36.trans k7), .inr ⟨t, rfl, upd_same⟩, bk_ok oo, fun H8 r8 k8 st8 => ?_⟩
    have s8 := s7.trans k8
    have k38 := k36.trans (k7.trans k8)
    refine ⟨_, rfl, st8.eqs (st1.mono s8) ⟨_, rfl, iteF' (by rw [decide_eq_true ⟨rfl, ren_back oo le okD, ren_back oo le okS⟩]; rfl) ?_⟩⟩
    clear st8 k7 k8 s7 k36 s6
    -- what is named
    refine ⟨_, rfl, lv, n, _, _, rfl, (st3.mono k38).at_, fun H9 r9 k9 hr9 => ?_⟩
    refine ⟨_, rfl, v, n, _, _, rfl, ((st1.mono s8).mono k9).at_, fun H10 r10 k10 hr10 => ?_⟩
    obtain ⟨na, rfl, hna⟩ := hr10.mono nw_same
    have s10 := s8.trans (k9.trans k10)
    have fl : ∀ x ∈ norm (told D).flatten, x < n := fun x hx => flat_in8 le okD x ((mem_norm (fun y hy => by have := flat_in8 le okD y hy; omega)).mp hx)
    have nl : (norm (told D).flatten).length ≤ 8 := in8_le
    have mnd : (mv o (norm (told D).flatten)).Nodup := nodup_mapOn (nodup_lt (norm_up _)) fun x hx y hy => getD_inj oo.1.1 (by rw [oo.2]; exact fl x hx) (by rw [oo.2]; exact fl y hy)
    refine ⟨na, rfl, ⟨_, SqL.of hna⟩, fun D2 hD2 => mv_comp (K := K) (n := n) (runs_list (SqL.of hna)) hD2 (by omega) oo fl (s10 _ _ hoa1) (fun _ => rfl) (fun _ => rfl) (fun _ => rfl) fun H11 k11 hm => ?_⟩
    obtain ⟨_, e1, hm2⟩ := hm.mono nw_same
    cases e1
    have s11 := s10.trans k11
    refine ⟨D2, cI (mv o (norm (told D).flatten)), rfl, SqL.of (by rw [← ints_vs]; exact hm2), by unfold mv; rw [List.length_map, List.length_map]; omega, fun ns t pm hle ht => ?_⟩
    have k12 := same_new (o := .lst (ns.map V.int)) ht
    have s12 := s11.trans k12
    have k9' := k10.trans (k11.trans k12)
    have ht2 : (upd H11 t (.lst (ns.map V.int))) t = some (.lst (vs1 (norm (mv o (norm (told D).flatten))))) := by
      rw [upd_same, sort_row mnd (in8_mv oo le fl) pm hle]
    obtain ⟨H12, e12⟩ : ∃ H12, H12 = upd H11 t (.lst (ns.map V.int)) := ⟨_, rfl⟩
    rw [← e12] at k12 s12 k9' ht2 ⊢
    clear e12
    refine ⟨dL _, dL _, ((hr9.mono nw_same).mono k9').dp, L1.dp ⟨t, rfl, ht2⟩, shaped_row _, shaped_row _, _, rfl, iteF' (by rw [eqv_row, decide_eq_true (named_ren oo le okD)]; rfl) ?_⟩
    have k312 := k38.trans (k9.trans k9')
    clear hr9 hr10 hm hm2 hna ht2 k9' k12 k11 k10 k9 s11 s10
    -- a sale more
    have d12 := dr.keep s12
    have st12 : St8 T.C H12 v n (told D) (told S) := st1.mono s12
    have lt12 : St8 T.C H12 lv n (ren o (told D)) (ren o (told S)) := st3.mono k312
    refine ⟨_, rfl, _, rfl, p, n, 1, rfl, by omega, le, d12.pot, fun H13 kv k dr2 hk lo hlek => ?_⟩
    obtain ⟨ka, rfl, hka⟩ := hk
    have kk : KindOk n k := ⟨lo, fun e => by rw [e] at hlek; simp at hlek⟩
    have kl := len_in8 lo.1 (kk.in8 le)
    have s13 : Same (hid p H12) H13 := dr2.rest.trans hid_same
    have st13 := (st12.hid d12.pot).mono s13
    have lt13 := (lt12.hid d12.pot).mono s13
    have hoa13 := dr2.get (s12 _ _ hoa1) nop
    have hk13 := (of_nw hka).2
    refine ⟨_, rfl, _, rfl, v, .ref ka, n, told D, told S, k, rfl, st13, .inl ⟨ka, rfl, hk13⟩, kk, by omega, by omega, fun H14 r14 k14 st14 => ?_⟩
    refine ⟨_, rfl, r14, .ref oa, n, _, _, o, rfl, st14, .inl ⟨oa, rfl, k14 _ _ hoa13⟩, oo, fun H15 r15 k15 st15 => ?_⟩
    have s15 := k14.trans k15
    refine ⟨_, rfl, _, rfl, ka, rfl, ⟨_, SqL.of (s15 _ _ hk13)⟩, fun D3 hD3 => mv_comp (K := K) (n := n) (runs_list (SqL.of (s15 _ _ hk13))) hD3 (by omega) oo kk.1.2.1 (s15 _ _ hoa13) (fun _ => rfl) (fun _ => rfl) (fun _ => rfl) fun H16 k16 hm => ?_⟩
    refine ⟨lv, .ref D3, n, ren o (told D), ren o (told S), mv o k, rfl, lt13.mono (s15.trans k16), .inl (hm.mono nw_same), oo.kind kk, by omega, by omega, fun H17 r17 k17 st17 => ?_⟩
    refine (st15.mono (k16.trans k17)).eqs st17 (q_bl (Q := Q) (decide_eq_true ⟨rfl, rfl, ren_more (kk.in8 le)⟩) (q _ ((d12.trans dr2).keep (s15.trans (k16.trans k17)))))
end
end TA
namespace TA
open PySem PySem.Spec PyProof.Rows L2
/-! ### beside, plainly -/
theorem mem_up {n : Nat} {k : List Nat} {y : Nat} : y ∈ upL n k ↔ ∃ x ∈ k, x + n = y := List.mem_map
theorem mem_bes {n : Nat} {U U' : List (List Nat)} {x : List Nat} : x ∈ bes n U U' ↔ x ∈ U ∨ ∃ k ∈ U', upL n k = x := by
  unfold bes
  rw [mem_canon, List.mem_append, List.mem_map]
theorem up_in8 {n m : Nat} {k : List Nat} (hk : ∀ x ∈ k, x < m) (hn : n + m ≤ 8) : In8 (upL n k) := fun y hy => by
  obtain ⟨x, hx, rfl⟩ := mem_up.mp hy
  have := hk x hx
  omega
theorem norm_upL {n m : Nat} {k : List Nat} (hk : ∀ x ∈ k, x < m) (hn : n + m ≤ 8) : norm (upL n k) = upL n (norm k) := by
  have h8 : In8 k := fun x hx => by
    have := hk x hx
    omega
  refine ext_nat (norm_up _) (upL_pw (norm_up k)) fun y => ?_
  rw [mem_norm (up_in8 hk hn), mem_up, mem_up]
  exact ⟨fun ⟨x, hx, e⟩ => ⟨x, (mem_norm h8).mpr hx, e⟩, fun ⟨x, hx, e⟩ => ⟨x, (mem_norm h8).mp hx, e⟩⟩
theorem told_bes {n m : Nat} {D D' : List (List Nat)} (hn : n + m ≤ 8) (hD' : ∀ k ∈ D', KindOk m k) : told (D ++ D'.map (upL n)) = bes n (told D) (told D') := by
  refine ext_lots (told_up _) (canon_up _) fun x => ?_
  show x ∈ told (D ++ D'.map (upL n)) ↔ x ∈ bes n (told D) (told D')
  rw [told_app, mem_canon, List.mem_append, mem_bes, List.mem_map]
  refine or_congr Iff.rfl ⟨?_, ?_⟩
  · rintro ⟨z, hz, rfl⟩
    obtain ⟨k, hk, rfl⟩ := List.mem_map.mp hz
    exact ⟨norm k, mem_told.mpr ⟨k, hk, rfl⟩, (norm_upL (hD' k hk).1.2.1 hn).symm⟩
  · rintro ⟨z, hz, rfl⟩
    obtain ⟨k, hk, rfl⟩ := mem_told.mp hz
    exact ⟨upL n k, List.mem_map.mpr ⟨k, hk, rfl⟩, norm_upL (hD' k hk).1.2.1 hn⟩
theorem named_bes {n m : Nat} {U U' : List (List Nat)} (hn : n + m ≤ 8) (hU : KdsOk n U) (hU' : KdsOk m U') : norm (bes n U U').flatten = norm U.flatten ++ upL n (norm U'.flatten) := by
  have f1 := flat_in8 (show n ≤ 8 by omega) hU
  have f2 := flat_in8 (show m ≤ 8 by omega) hU'
  have a8 : In8 U.flatten := fun x hx => by have := f1 x hx; omega
  have b8 : In8 U'.flatten := fun x hx => by have := f2 x hx; omega
  refine ext_nat (norm_up _) (List.pairwise_append.mpr ⟨norm_up _, upL_pw (norm_up _), fun x hx y hy => ?_⟩) fun y => ?_
  · obtain ⟨z, _, rfl⟩ := mem_up.mp hy
    have := f1 x ((mem_norm a8).mp hx)
    omega
  · have c8 : In8 (bes n U U').flatten := fun x hx => by
      obtain ⟨k, hk, h⟩ := List.mem_flatten.mp hx
      rcases mem_bes.mp hk with h1 | ⟨k0, h0, rfl⟩
      · have := (hU.2 k h1).2.2 x h
        omega
      · exact up_in8 (hU'.2 k0 h0).2.2 hn x h
    rw [mem_norm c8, List.mem_append, mem_norm a8, mem_up, List.mem_flatten, List.mem_flatten]
    constructor
    · rintro ⟨k, hk, h⟩
      rcases mem_bes.mp hk with h1 | ⟨k0, h0, rfl⟩
      · exact .inl ⟨k, h1, h⟩
      · obtain ⟨x, hx, e⟩ := mem_up.mp h
        exact .inr ⟨x, (mem_norm b8).mpr (List.mem_flatten.mpr ⟨k0, h0, hx⟩), e⟩
    · rintro (⟨k, hk, h⟩ | ⟨x, hx, e⟩)
      · exact ⟨k, mem_bes.mpr (.inl hk), h⟩
      · obtain ⟨k, hk, h⟩ := List.mem_flatten.mp ((mem_norm b8).mp hx)
        exact ⟨upL n k, mem_bes.mpr (.inr ⟨k, hk, rfl⟩), mem_up.mpr ⟨x, h, e⟩⟩
/-- the one's shelves behind the other's -/
def tn (n m : Nat) : List Nat := upL m (List.range n) ++ List.range m
theorem tn_len (n m : Nat) : (tn n m).length = n + m := by
  unfold tn upL
  rw [List.length_append, List.length_map, List.length_range, List.length_range]
theorem tn_low {n m x : Nat} (h : x < n) : (tn n m).getD x 0 = x + m := by
  unfold tn upL
  rw [List.getD_eq_getElem?_getD, List.getElem?_append_left (by rw [List.length_map, List.length_range]; exact h), List.getElem?_map, List.getElem?_range h]
  rfl
theorem tn_high {n m x : Nat} (h : x < m) : (tn n m).getD (x + n) 0 = x := by
  unfold tn upL
  rw [List.getD_eq_getElem?_getD, List.getElem?_append_right (by rw [List.length_map, List.length_range]; omega), List.length_map, List.length_range, Nat.add_sub_cancel, List.getElem?_range h]
  rfl
theorem tn_ok {n m : Nat} (hn : n + m ≤ 8) : OrdOk (n + m) (tn n m) := by
  refine ⟨⟨List.nodup_append.mpr ⟨nodup_mapOn List.nodup_range fun x _ y _ e => Nat.add_right_cancel e, List.nodup_range, fun x hx y hy e => ?_⟩, fun x hx => ?_, by rw [tn_len]; omega⟩, tn_len n m⟩
  · obtain ⟨z, _, rfl⟩ := mem_up.mp hx
    have := List.mem_range.mp hy
    omega
  · rcases List.mem_append.mp hx with h | h
    · obtain ⟨z, hz, rfl⟩ := mem_up.mp h
      have := List.mem_range.mp hz
      omega
    · have := List.mem_range.mp h
      omega
theorem mv_low {n m : Nat} {k : List Nat} (h : ∀ x ∈ k, x < n) : mv (tn n m) k = upL m k := List.map_congr_left fun x hx => tn_low (h x hx)
theorem mv_high {n m : Nat} {k : List Nat} (h : ∀ x ∈ k, x < m) : mv (tn n m) (upL n k) = k := by
  unfold mv upL
  rw [List.map_map]
  exact map_same k fun x hx => tn_high (h x hx)
theorem turn_bes {n m : Nat} {U U' : List (List Nat)} (hn : n + m ≤ 8) (hU : KdsOk n U) (hU' : KdsOk m U') : ren (tn n m) (bes n U U') = bes m U' U := by
  have f1 : ∀ k ∈ U, norm (mv (tn n m) k) = upL m k := fun k hk => by
    rw [mv_low (hU.2 k hk).2.2]
    exact norm_of_up (up_in8 (hU.2 k hk).2.2 (by omega)) (upL_pw (hU.2 k hk).2.1)
  have f2 : ∀ k ∈ U', norm (mv (tn n m) (upL n k)) = k := fun k hk => by
    rw [mv_high (hU'.2 k hk).2.2]
    exact norm_of_up (hU'.in8 (by omega) k hk) (hU'.2 k hk).2.1
  refine ext_lots (ren_up _ _) (canon_up _) fun x => ?_
  show x ∈ ren (tn n m) (bes n U U') ↔ x ∈ bes m U' U
  rw [mem_ren, mem_bes]
  constructor
  · rintro ⟨z, hz, e⟩
    rcases mem_bes.mp hz with h | ⟨k, hk, rfl⟩
    · exact .inr ⟨z, h, (f1 z h).symm.trans e⟩
    · rw [f2 k hk] at e
      exact .inl (e ▸ hk)
  · rintro (h | ⟨k, hk, e⟩)
    · exact ⟨upL n x, mem_bes.mpr (.inr ⟨x, h, rfl⟩), f2 x h⟩
    · exact ⟨k, mem_bes.mpr (.inl hk), (f1 k hk).trans e⟩
/-! ### its comprehensions -/
abbrev rAddN : R2 := fun x y H Q => ∃ n m : Nat, x = .int (n : Int) ∧ y = .int (m : Int) ∧ Q (.int ((n + m : Nat) : Int)) H
theorem up_comp {H : Hp} {J : It} {D : Addr} {σ : L2.St} {i n : Nat} {k : List Nat} {ta : TE} {Qd : Hp → Prop} (hJ : Runs J (vs1 k) H) (hD : H D = none) (hl : k.length ≤ 100)
    (hw : ∀ x, wipe ((wipe σ [i]).set i (some x)) [i] = wipe σ [i]) (hs : ∀ x, ((wipe σ [i]).set i (some x))[i]? = some (some x)) (hj : ∀ x H' (Q : VK), Same H H' → Q (vN n) H' → ta ((wipe σ [i]).set i (some x)) H' Q)
    (q : ∀ H', Same H H' → L1 (Nw H H') (.ref D) (upL n k) → Qd H') :
    ∃ W : Nat → Nat → Hp → Prop, (∃ m, W 0 m (upd H D (.lst []))) ∧ ∀ t m H, W t m H →
      (J.stop t H ∧ Qd H) ∨ (J.go t H ∧ ∃ Nx : Hp → Prop, (∀ H', Nx H' → ∃ m', m' < m ∧ W (t + 1) m' H') ∧ ∀ x H', J.yld t H x H' → gName i x (wipe σ [i]) H' fun σ2 H2 => wipe σ2 [i] = wipe σ [i] ∧ tYes σ2 H2 fun b H3 =>
        if b = true then tOp rAddN (tVar i) ta σ2 H3 fun y H4 => ∃ acc, H4 D = some (.lst acc) ∧ acc.length < sizeLine ∧ Nx (upd H4 D (.lst (acc ++ [y]))) else Nx H3) := by
  refine comp_all k hJ (by simp) (by omega) hD (fun x _ v => v = vN (x + n)) (fun _ _ _ _ _ h => h) (fun t y e H3 Z3 hyj hdj k3 z3 => ?_) (fun H3 ys k3 hy3 hys3 => ?_) ⟨i, rfl⟩
  · have ey : y = vN e := by
      rw [List.getElem?_map, hdj] at hyj
      exact (Option.some.inj hyj).symm
    subst ey
    exact ⟨hw _, _, hs _, hj _ _ _ k3 ⟨e, n, rfl, rfl, z3 _ _ (Same.refl _) rfl⟩⟩
  · have ey : ys = vs1 (upL n k) := by
      refine (paired_fun hys3).trans ?_
      show _ = List.map vN (List.map _ _)
      rw [List.map_map]
      rfl
    subst ey
    exact q _ k3 ⟨D, rfl, nw_get hD hy3⟩
section
variable {P : Program} {w : World} {K : PySem.W.Frag} {mg : Str → Option Value} {base : Heap} (T : Tx K mg)
abbrev NBR : List Str := ["_law_one", "_law_world", "_law_other", "_law_far", "_law_shelves", "_law_deliveries", "_law_sales", "_law_both", "_law_raised", "_law_turned", "_law_kinds_here", "_law_kind", "_law_shelf"]
abbrev scBR : Scope := defScope s_lw_beside_right
def spBR (C : Addr) : Sp := fun vs H Q _ => ∃ (v u v' u' : V) (n m : Nat) (D S D' S' : List (List Nat)), vs = [v, u, v', u'] ∧ Given C H v u n D S ∧ Given C H v' u' m D' S' ∧ n + m ≤ 8 ∧ ∀ H', Same H H' → Q (.bl true) H'
theorem ok_beside_right : FnG P w K mg base 10 T.lw_beside_right.f T.lw_beside_right.fd ["_law_one", "_law_world", "_law_other", "_law_far"] (spBR T.C) := by
  refine okG T.lw_beside_right.F sc_lw_beside_right (fun vs H Q E h => ?_) (fun cdv A outer s H vs Q E hg hr h => ?_)
  · obtain ⟨v, u, v', u', n, m, D, S, D', S', rfl, _⟩ := h
    rfl
  · obtain ⟨v, u, v', u', n, m, D, S, D', S', rfl, G, G', hnm, q⟩ := h
    refine ⟨_, pss_cons (ps_asg (pv 1) (pg_tup (by rfl) (pgs_cons (pg_name (i := 4) sc_lw_beside_right.nd rfl (.inr rfl)) (pgs_cons (pg_name (i := 5) sc_lw_beside_right.nd rfl (.inl rfl)) (pgs_cons (pg_name (i := 6) sc_lw_beside_right.nd rfl (.inl rfl)) pgs_nil)))))
      (pss_cons (ps_set (i := 7) sc_lw_beside_right.nd rfl (.inl rfl) (pe_call (ok_beside T) (hr.mono (by decide)) (by rfl) T.beside.g T.beside.F.kp T.beside.b .nil pass0 (pa_cons (pv 0) (pa_cons (pv 2) pa_nil))))
      (pss_cons (ps_setLc (i := 8) (own := [("_law_kinds_here", 10)]) (g := gName 10) (by rfl) sc_lw_beside_right.nd rfl rfl (sw_true rfl rfl rfl rfl) (pi_tup (pe_slice sl_tupA (pv 3) (po_some pe_int) po_none))
          (blkOk_by (own := [("_law_kinds_here", 10)]) (N := NBR) (sc := scBR) (by decide +kernel)) (fun _ _ _ _ _ => pg_name (i := 10) sc_lw_beside_right.nd rfl (.inl rfl)) (fun _ _ _ _ _ => pts_nil)
          (fun _ _ _ _ _ => pe_lc (own := [("_law_kind", 11)]) (wi := iList K (tVar 10)) (g := gName 11) (by rfl) sc_lw_beside_right.nd (pi_list (pv 10))
            (blkOk_by (own := [("_law_kind", 11)]) (N := NBR) (sc := relS (lcSc (retE (nthS 2 s_lw_beside_right))) scBR) (by decide +kernel)) (fun _ _ _ _ _ => pg_name (i := 11) sc_lw_beside_right.nd rfl (.inl rfl)) (fun _ _ _ _ _ => pts_nil)
            (fun _ _ _ _ _ => pe_lc (own := [("_law_shelf", 12)]) (wi := iList K (tVar 11)) (g := gName 12) (by rfl) sc_lw_beside_right.nd (pi_list (pv 11))
              (blkOk_by (own := [("_law_shelf", 12)]) (N := NBR) (sc := relS (lcSc (lcElt (retE (nthS 2 s_lw_beside_right)))) (relS (lcSc (retE (nthS 2 s_lw_beside_right))) scBR)) (by decide +kernel)) (fun _ _ _ _ _ => pg_name (i := 12) sc_lw_beside_right.nd rfl (.inl rfl)) (fun _ _ _ _ _ => pts_nil)
              (fun _ _ _ _ _ => pe_op (r := rAddN) op_addN (pv 12) (pv 4)))))
      (pss_cons (ps_if (pt_not (pt_val (pe_callG (ok_is T) hg (hr.mono (by decide)) (by rfl) T.lw_is.g T.lw_is.F.kp T.lw_is.b (pa_cons (pv 7) (pa_cons (pe_op op_addN (pv 4) (pe_ix ix_tup (pv 3) pe_int fun _ _ => rfl))
          (pa_cons (pe_op op_cat (pv 5) (pe_ix ix_list (pv 8) pe_int fun _ _ => rfl)) (pa_cons (pe_op op_cat (pv 6) (pe_ix ix_list (pv 8) pe_int fun _ _ => rfl)) pa_nil))))))) (pss_one ps_never) pss_nil)
      (pss_cons (ps_if (pt_cmpR (op_neD hr.units) (pe_call (ok_named T) (hr.mono (by decide)) (by rfl) T.named.g T.named.F.kp T.named.b .nil pass0 (pa_cons (pv 7) pa_nil))
          (pe_op op_cat (pe_call (ok_named T) (hr.mono (by decide)) (by rfl) T.named.g T.named.F.kp T.named.b .nil pass0 (pa_cons (pv 0) pa_nil))
            (pe_lc (own := [("_law_shelf", 12)]) (g := gName 12) (by rfl) sc_lw_beside_right.nd (pi_list (pe_call (ok_named T) (hr.mono (by decide)) (by rfl) T.named.g T.named.F.kp T.named.b .nil pass0 (pa_cons (pv 2) pa_nil)))
              (blkOk_by (own := [("_law_shelf", 12)]) (N := NBR) (sc := scBR) (by decide +kernel)) (fun _ _ _ _ _ => pg_name (i := 12) sc_lw_beside_right.nd rfl (.inl rfl)) (fun _ _ _ _ _ => pts_nil)
              (fun _ _ _ _ _ => pe_op (r := rAddN) op_addN (pv 12) (pv 4)))) (nomark _)) (pss_one ps_never) pss_nil)
      (pss_cons (ps_set (i := 9) sc_lw_beside_right.nd rfl (.inl rfl) (pe_op op_cat (pe_lc (own := [("_law_shelf", 12)]) (g := gName 12) (te := tOp rAddN (tVar 12) (tOp (rIxT K) (tVar 3) (tC (.int 0)))) (by rfl) sc_lw_beside_right.nd (pi_range1 (by rfl) T.b_range (pa_cons (pv 4) pa_nil))
              (blkOk_by (own := [("_law_shelf", 12)]) (N := NBR) (sc := scBR) (by decide +kernel)) (fun _ _ _ _ _ => pg_name (i := 12) sc_lw_beside_right.nd rfl (.inl rfl)) (fun _ _ _ _ _ => pts_nil)
              (fun _ _ _ _ _ => pe_op (r := rAddN) op_addN (pv 12) (pe_ix ix_tup (pv 3) pe_int fun _ _ => rfl)))
            (pe_listRg (by rfl) (by rfl) T.b_list (prg_1 (by rfl) T.b_range (pe_ix ix_tup (pv 3) pe_int fun _ _ => rfl)))))
      (pss_one (ps_ret (pe_cmpR (op_eqOwn (ok_eq T) (hr.mono (by decide)) T.aE T.iE T.st T.bE)
        (pe_call (ok_renamed T) (hr.mono (by decide)) (by rfl) T.renamed.g T.renamed.F.kp T.renamed.b .nil pass0 (pa_cons (pe_callN0 (ok_beside T) (hr.mono (by decide)) (by rfl) T.beside.g T.beside.F.kp T.kb_beside pass0 (pk_cons (pv 2) (pk_cons (pv 0) pk_nil))) (pa_cons (pv 9) pa_nil)))
        (pe_call (ok_beside T) (hr.mono (by decide)) (by rfl) T.beside.g T.beside.F.kp T.beside.b .nil pass0 (pa_cons (pv 2) (pa_cons (pv 0) pa_nil))) (nomark _))))))))), ?_⟩
    obtain ⟨st, ⟨a, b, c, rfl, hw, hb, hc⟩, kD, kS, lD, lS⟩ := id G
    obtain ⟨ba, bvs, rfl, hba, hbp⟩ := hb
    obtain ⟨ca, cvs, rfl, hca, hcp⟩ := hc
    obtain ⟨su, ⟨a', b', c', rfl, hw', hb', hc'⟩, kD', kS', lD', lS'⟩ := id G'
    obtain ⟨ba', bvs', rfl, hba', hbp'⟩ := hb'
    obtain ⟨ca', cvs', rfl, hca', hcp'⟩ := hc'
    have two := st.two
    have two' := su.two
    have n8 : n ≤ 8 := by omega
    have m8 : m ≤ 8 := by omega
    have tlD := told_len D
    have tlS := told_len S
    have tlD' := told_len D'
    have tlS' := told_len S'
    have okD := st.okD
    have okS := st.okS
    have okD' := su.okD
    have okS' := su.okS
    clear G G'
    refine ⟨_, rfl, a, _, rfl, SqT.of hw, rfl, _, _, rfl, _, _, rfl, _, _, rfl, rfl, ?_⟩
    refine ⟨_, rfl, _, rfl, v, v', n, m, told D, told S, told D', told S', rfl, st, su, hnm, by omega, by omega, fun H1 bo k1 bt1 => ?_⟩
    -- raised
    refine ⟨_, rfl, ((1 : Nat) : Int), rfl, sl_drop' (K := K) (i := 1) (SqT.of (k1 _ _ hw')) (by show 1 ≤ 3; decide) fun H2 t k2 ht => ?_⟩
    have s2 := k1.trans k2
    have ht : SqT K H2 t [V.ref ba', V.ref ca'] := ht
    have el : ∀ (i : Nat) (x : V) (ks : List (List Nat)), [V.ref ba', V.ref ca'][i]? = some x → [D', S'][i]? = some ks → ∃ (e : Addr) (vs : List V), x = .ref e ∧ H2 e = some (.lst vs) ∧ Paired (L1 H2) vs ks ∧ ks.length ≤ 4 ∧ ∀ k ∈ ks, KindOk m k := by
      intro i x ks h1 h2
      match i, h1, h2 with
      | 0, h1, h2 =>
        cases Option.some.inj h1
        cases Option.some.inj h2
        exact ⟨ba', bvs', rfl, s2 _ _ hba', paired_mono hbp' s2, lD', kD'⟩
      | 1, h1, h2 =>
        cases Option.some.inj h1
        cases Option.some.inj h2
        exact ⟨ca', cvs', rfl, s2 _ _ hca', paired_mono hcp' s2, lS', kS'⟩
      | i + 2, h1, h2 => simp at h1
    refine ⟨t, rfl, ⟨_, ht⟩, fun D0 hD0 => comp_all [D', S'] (runs_tup ht) rfl (by show 2 ≤ 10000; decide) hD0 (fun ks N v => L2s N v (ks.map (upL n))) (fun _ _ _ _ k h => h.mono k) (fun i x ks H3 Z hx hd kk z => ?_) (fun H3 ys k3 hy hys => ?_) ⟨10, rfl⟩⟩
    · obtain ⟨e, vs, rfl, he, hp, hl, hk⟩ := el i x ks hx hd
      have he3 := kk _ _ he
      have hp3 := paired_mono hp kk
      have vl := vs_len hp
      refine ⟨rfl, _, rfl, e, rfl, ⟨_, SqL.of he3⟩, fun D1 hD1 => comp_all ks (runs_list (K := K) (SqL.of he3)) vl (by omega) hD1 (fun k N v => L1 N v (upL n k)) (fun _ _ _ _ k h => h.mono k) (fun j y k H4 Z4 hy hd4 k4 z4 => ?_) (fun H4 ys k4 hy4 hys4 => ?_) ⟨11, rfl⟩⟩
      · obtain ⟨k', hk', hL⟩ := paired_get hp3 j y hy
        have ed : k' = k := Option.some.inj (hk'.symm.trans hd4)
        subst ed
        obtain ⟨f, rfl, hf⟩ := hL.mono k4
        have := (hk k' (List.mem_of_getElem? hd4)).1.2.2
        exact ⟨rfl, _, rfl, f, rfl, ⟨_, SqL.of hf⟩, fun D2 hD2 => up_comp (n := n) (runs_list (K := K) (SqL.of hf)) hD2 (by omega) (fun _ => rfl) (fun _ => rfl) (fun x H' Q k q => ⟨_, rfl, q⟩) fun H5 k5 h5 => z4 _ _ k5 h5⟩
      · exact z _ _ k4 ⟨D1, ys, rfl, nw_get hD1 hy4, paired_map (Paired.mono (fun _ _ h => L1.mono h (nw_start hD1)) hys4)⟩
    have hr : ∃ y1 y2, ys = [y1, y2] ∧ L2s H3 y1 (D'.map (upL n)) ∧ L2s H3 y2 (S'.map (upL n)) := by
      cases hys with
      | cons r1 t1 =>
        cases t1 with
        | cons r2 t2 =>
          cases t2
          exact ⟨_, _, rfl, r1.mono nw_same, r2.mono nw_same⟩
    obtain ⟨y1, y2, rfl, ⟨ra, rvs, rfl, hra, hrp⟩, ⟨qa, qvs, rfl, hqa, hqp⟩⟩ := hr
    have s3 := s2.trans k3
    have bt3 := bt1.mono (k2.trans k3)
    have rl := vs_len hrp
    have ql := vs_len hqp
    have bl := vs_len hbp
    have cl := vs_len hcp
    rw [List.length_map] at rl ql
    clear hys el ht
    -- the two side by side, as the law sees them
    refine ⟨_, rfl, _, rfl, _, rfl, a', _, 0, vN m, rfl, rfl, SqT.of (s3 _ _ hw'), rfl, n, m, rfl, rfl, ?_⟩
    refine ⟨_, rfl, _, rfl, D0, _, 0, .ref ra, rfl, rfl, SqL.of hy, rfl, ba, ra, bvs, rvs, rfl, rfl, s3 _ _ hba, hra, Nat.le_trans (show bvs.length + rvs.length ≤ 100 by omega) (by decide), fun p1 hp1 => ?_⟩
    have k4 := same_new (o := .lst (bvs ++ rvs)) hp1
    have s4 := s3.trans k4
    refine ⟨_, rfl, _, rfl, D0, _, 1, .ref qa, rfl, rfl, SqL.of (k4 _ _ hy), rfl, ca, qa, cvs, qvs, rfl, rfl, s4 _ _ hca, k4 _ _ hqa, Nat.le_trans (show cvs.length + qvs.length ≤ 100 by omega) (by decide), fun p2 hp2 => ?_⟩
    have k5 := same_new (o := .lst (cvs ++ qvs)) hp2
    have s5 := s4.trans k5
    have k45 := k4.trans k5
    have lots : ∀ (X Y : List (List Nat)), (∀ k ∈ X, KindOk n k) → (∀ k ∈ Y, KindOk m k) → X.length ≤ 4 → Y.length ≤ 4 → Lots8 (X ++ Y.map (upL n)) := fun X Y hX hY lX lY => Lots8.of (n := n + m) (fun k hk => by
      rcases List.mem_append.mp hk with h | h
      · exact (hX k h).up (by omega)
      · obtain ⟨k0, h0, rfl⟩ := List.mem_map.mp h
        rw [Nat.add_comm]
        exact upL_kind (hY k0 h0)) hnm (by rw [List.length_append, List.length_map]; omega)
    refine ⟨bo, .ref p1, .ref p2, n + m, _, _, D ++ D'.map (upL n), S ++ S'.map (upL n), rfl, bt3.mono k45, ⟨p1, _, rfl, .inl (k5 _ _ upd_same), paired_app (paired_mono hbp s5) (paired_mono hrp k45)⟩, ⟨p2, _, rfl, .inl upd_same, paired_app (paired_mono hcp s5) (paired_mono hqp k45)⟩,
      lots D D' kD kD' lD lD', lots S S' kS kS' lS lS', told_bes hnm kD', told_bes hnm kS', fun H6 k6 => ⟨true, rfl, iteF ?_⟩⟩
    have s6 := s5.trans k6
    have bt6 := bt3.mono (k45.trans k6)
    clear hrp hqp hra hqa hy k45 k4 k5 s4 s5
    -- what is named
    refine ⟨_, rfl, bo, n + m, _, _, rfl, bt6.at_, fun H7 r7 k7 hr7 => ?_⟩
    have s7 := s6.trans k7
    refine ⟨_, rfl, v, n, _, _, rfl, (st.mono s7).at_, fun H8 r8 k8 hr8 => ?_⟩
    have s8 := s7.trans k8
    refine ⟨_, rfl, v', m, _, _, rfl, (su.mono s8).at_, fun H9 r9 k9 hr9 => ?_⟩
    have s9 := s8.trans k9
    obtain ⟨na, rfl, hna⟩ := hr8.mono nw_same
    obtain ⟨oa, rfl, hoa⟩ := hr9.mono nw_same
    have l1 : (norm (told D).flatten).length ≤ 8 := in8_le
    have l2 : (norm (told D').flatten).length ≤ 8 := in8_le
    refine ⟨oa, rfl, ⟨_, SqL.of hoa⟩, fun D3 hD3 => up_comp (n := n) (runs_list (K := K) (SqL.of hoa)) hD3 (by omega) (fun _ => rfl) (fun _ => rfl) (fun x H' Q k q => ⟨_, rfl, q⟩) fun H10 k10 hu => ?_⟩
    have s10 := s9.trans k10
    obtain ⟨_, e1, hu2⟩ := hu.mono nw_same
    cases e1
    refine ⟨na, D3, _, _, rfl, rfl, k10 _ _ (k9 _ _ hna), hu2, Nat.le_trans (m := 100) (by unfold upL; rw [List.length_map, List.length_map, List.length_map]; omega) (by decide), fun p3 hp3 => ?_⟩
    have k11 := same_new (o := .lst (vs1 (norm (told D).flatten) ++ vs1 (upL n (norm (told D').flatten)))) hp3
    have s11 := s10.trans k11
    have h3 : (upd H10 p3 (.lst (vs1 (norm (told D).flatten) ++ vs1 (upL n (norm (told D').flatten))))) p3 = some (.lst (vs1 (norm (told D).flatten ++ upL n (norm (told D').flatten)))) := by rw [upd_same, ← vs1_app]
    refine ⟨dL _, dL _, ((hr7.mono nw_same).mono (k8.trans (k9.trans (k10.trans k11)))).dp, L1.dp ⟨p3, rfl, h3⟩, shaped_row _, shaped_row _, _, rfl, iteF' (by rw [eqv_row, decide_eq_true (named_bes hnm okD okD')]; rfl) ?_⟩
    obtain ⟨H11, e11⟩ : ∃ H11, H11 = upd H10 p3 (.lst (vs1 (norm (told D).flatten) ++ vs1 (upL n (norm (told D').flatten)))) := ⟨_, rfl⟩
    rw [← e11] at s11 ⊢
    clear e11 h3 k11 hu2 hu hna hoa hr7 hr8 hr9 k10 k9 k8 k7 s10 s9 s8 s7
    -- turned
    refine ⟨_, rfl, (n : Int), rfl, by omega, by omega, fun D4 hD4 => up_comp (n := m) (k := List.range n) (runs_range n) hD4 (by simp; omega) (fun _ => rfl) (fun _ => rfl) (fun x H' Q k q => ⟨_, rfl, a', _, 0, vN m, rfl, rfl, SqT.of (k _ _ (s11 _ _ hw')), rfl, q⟩) fun H12 k12 hup => ?_⟩
    obtain ⟨_, e1, hup2⟩ := hup.mono nw_same
    cases e1
    have s12 := s11.trans k12
    refine ⟨_, rfl, a', _, 0, vN m, rfl, rfl, SqT.of (s12 _ _ hw'), rfl, (m : Int), rfl, ⟨by omega, by omega, by omega, by omega, by omega⟩, fun g hg' => ?_⟩
    rw [rg_vs]
    have k13 := same_new (o := .lst (vs1 (List.range m))) hg'
    refine ⟨D4, g, _, _, rfl, rfl, k13 _ _ hup2, upd_same, Nat.le_trans (m := 100) (by unfold upL; rw [List.length_map, List.length_map, List.length_map, List.length_range, List.length_range]; omega) (by decide), fun p4 hp4 => ?_⟩
    have k14 := same_new (o := .lst (vs1 (upL m (List.range n)) ++ vs1 (List.range m))) hp4
    have h4 : (upd (upd H12 g (.lst (vs1 (List.range m)))) p4 (.lst (vs1 (upL m (List.range n)) ++ vs1 (List.range m)))) p4 = some (.lst (vs1 (tn n m))) := by
      rw [upd_same]
      unfold tn
      rw [← vs1_app]
    obtain ⟨H14, e14⟩ : ∃ H14, H14 = upd (upd H12 g (.lst (vs1 (List.range m)))) p4 (.lst (vs1 (upL m (List.range n)) ++ vs1 (List.range m))) := ⟨_, rfl⟩
    rw [← e14] at k14 h4 ⊢
    clear e14
    have s14 := s12.trans (k13.trans k14)
    clear hup hup2 k12 k13 k14 s11 s12
    -- turned round
    refine ⟨_, rfl, _, rfl, rfl, rfl, v, v', n, m, told D, told S, told D', told S', rfl, st.mono s14, su.mono s14, hnm, by omega, by omega, fun H15 r15 k15 st15 => ?_⟩
    refine ⟨_, rfl, r15, .ref p4, n + m, _, _, tn n m, rfl, st15, .inl ⟨p4, rfl, k15 _ _ h4⟩, tn_ok hnm, fun H16 r16 k16 st16 => ?_⟩
    have s16 := s14.trans (k15.trans k16)
    refine ⟨_, rfl, _, rfl, v', v, m, n, told D', told S', told D, told S, rfl, su.mono s16, st.mono s16, by omega, by omega, by omega, fun H17 r17 k17 st17 => ?_⟩
    exact (st16.mono k17).eqs st17 (q_bl (Q := Q) (decide_eq_true ⟨Nat.add_comm n m, turn_bes hnm okD okD', turn_bes hnm okS okS'⟩) (q _ (s16.trans k17)))
end
end TA
namespace TA
open PySem PySem.Spec PyProof.Rows L2
/-! ### the law's parts -/
theorem paired_rev {F : V → List Nat → Prop} : ∀ {vs : List V} {ks : List (List Nat)}, Paired F vs ks → Paired F vs.reverse ks.reverse
  | _, _, .nil => .nil
  | _, _, .cons r t => by
    rw [List.reverse_cons, List.reverse_cons]
    exact paired_app (paired_rev t) (.cons r .nil)
theorem init_run {C x dx : Addr} {H : Hp} {v u : V} {n : Nat} {ds ss : List (List Nat)} {R : VK} (nx : H x = none) (ndx : H dx = none) (nex : dx ≠ x) (two : 2 ≤ n) (le : n ≤ 8) (hv : S2s H v ds) (hu : S2s H u ss) (kd : ∀ k ∈ ds, KindOk n k) (ks : ∀ k ∈ ss, KindOk n k)
    (ld : ds.length ≤ 8) (ls : ss.length ≤ 8) (q : ∀ H', Same H H' → St8 C H' (.ref x) n (told ds) (told ss) → R .non H') : spInit C [.ref x, vN n, v, u] (upd (upd H dx (.own x)) x (.ins C dx [])) R E0 := by
  have up2 : Same H (hid x (upd (upd H dx (.own x)) x (.ins C dx []))) := fun b o hb => by
    have n1 := ne_of_none hb nx
    exact hid_get (by rw [upd_ne n1, upd_ne (ne_of_none hb ndx)]; exact hb) n1
  refine ⟨x, dx, n, _, _, ds, ss, rfl, upd_same, two, le, hv.mono up2, hu.mono up2, kd, ks, ld, ls, fun H5 k5 st => q _ (up2.trans (k5.trans hid_same)) ⟨st, two, le, told_ok le kd, told_ok le ks, Nat.le_trans (told_len ds) ld, Nat.le_trans (told_len ss) ls⟩⟩
theorem lens_flat {n : Nat} {D : List (List Nat)} (hD : ∀ k ∈ D, KindOk n k) (hn : n ≤ 8) (hl : D.length ≤ 4) : D.flatten.length ≤ 32 := by
  have h : ∀ l : List (List Nat), (∀ k ∈ l, k.length ≤ 8) → l.flatten.length ≤ 8 * l.length := by
    intro l
    induction l with
    | nil => exact fun _ => Nat.le_refl _
    | cons a l ih =>
      intro ha
      rw [List.flatten_cons, List.length_append, List.length_cons]
      have h1 := ha a List.mem_cons_self
      have h2 := ih fun k hk => ha k (List.mem_cons_of_mem _ hk)
      omega
  have := h D fun k hk => len_in8 (hD k hk).1.1 ((hD k hk).in8 hn)
  omega
theorem flat_lt {n : Nat} {D : List (List Nat)} (hD : ∀ k ∈ D, KindOk n k) : ∀ x ∈ D.flatten, x < n := fun x hx => by
  obtain ⟨k, hk, h⟩ := List.mem_flatten.mp hx
  exact (hD k hk).1.2.1 x h
theorem named_told {n : Nat} {D : List (List Nat)} (hD : ∀ k ∈ D, KindOk n k) (hn : n ≤ 8) : norm (told D).flatten = norm D.flatten := by
  refine norm_ext fun y => ?_
  rw [List.mem_flatten, List.mem_flatten]
  constructor
  · rintro ⟨z, hz, hy⟩
    obtain ⟨k, hk, rfl⟩ := mem_told.mp hz
    exact ⟨k, hk, (mem_norm ((hD k hk).in8 hn)).mp hy⟩
  · rintro ⟨k, hk, hy⟩
    exact ⟨norm k, mem_told.mpr ⟨k, hk, rfl⟩, (mem_norm ((hD k hk).in8 hn)).mpr hy⟩
theorem map_flat (D : List (List Nat)) : (D.map vs1).flatten = vs1 D.flatten := by
  induction D with
  | nil => rfl
  | cons a D ih =>
    rw [List.map_cons, List.flatten_cons, List.flatten_cons, ih]
    exact vs1_app a D.flatten
theorem subs_rows {H : Hp} : ∀ {vs : List V} {D : List (List Nat)}, Paired (L1 H) vs D → Paired (fun v su => ∃ c, v = .ref c ∧ H c = some (.lst su)) vs (D.map vs1)
  | _, _, .nil => .nil
  | _, _, .cons r t => .cons r (subs_rows t)
theorem told_rev {n : Nat} {D : List (List Nat)} (h : KdsOk n (told D)) (hn : n ≤ 8) : told (told D).reverse = told D := by
  refine (canon_ext fun x => ?_).trans (told_of_ok h hn)
  rw [List.mem_map, List.mem_map]
  exact ⟨fun ⟨k, hk, e⟩ => ⟨k, List.mem_reverse.mp hk, e⟩, fun ⟨k, hk, e⟩ => ⟨k, List.mem_reverse.mpr hk, e⟩⟩
/-! the kinds turned -/
def turn0 (U : List (List Nat)) : List (List Nat) := if [0] ∈ U then U.filter (fun k => !decide (k = [0])) else U ++ [[0]]
theorem kind0 {n : Nat} (hn : 2 ≤ n) : KindOk n [0] := ⟨⟨List.pairwise_singleton _ _, fun x hx => by rw [List.mem_singleton.mp hx]; omega, by show 1 ≤ 50; decide⟩, List.cons_ne_nil _ _⟩
theorem norm0 : norm [0] = [0] := norm_of_up (fun x hx => by rw [List.mem_singleton.mp hx]; decide) (List.pairwise_singleton _ _)
theorem turn_kind {n : Nat} {U : List (List Nat)} (h : KdsOk n U) (two : 2 ≤ n) (hn : n ≤ 8) : ∀ k ∈ turn0 U, KindOk n k := fun k hk => by
  unfold turn0 at hk
  split at hk
  · exact h.kind hn k (List.mem_filter.mp hk).1
  · rcases List.mem_append.mp hk with q | q
    · exact h.kind hn k q
    · rw [List.mem_singleton.mp q]
      exact kind0 two
theorem turn_len (U : List (List Nat)) : (turn0 U).length ≤ U.length + 1 := by
  unfold turn0
  split
  · exact Nat.le_trans (List.length_filter_le _ _) (Nat.le_succ _)
  · rw [List.length_append]
    exact Nat.le_refl _
theorem turn_ne {n : Nat} {U : List (List Nat)} (h : KdsOk n U) (hn : n ≤ 8) : ¬ U = told (turn0 U) := fun e => by
  by_cases h0 : [0] ∈ U
  · have := h0
    rw [e, mem_told] at this
    obtain ⟨k, hk, hk2⟩ := this
    unfold turn0 at hk
    rw [if_pos h0] at hk
    obtain ⟨h1, h2⟩ := List.mem_filter.mp hk
    rw [norm_of_up (h.in8 hn k h1) (h.2 k h1).2.1] at hk2
    rw [hk2, decide_eq_true rfl] at h2
    cases h2
  · refine h0 ?_
    rw [e, mem_told]
    refine ⟨[0], ?_, norm0⟩
    unfold turn0
    rw [if_neg h0]
    exact List.mem_append_right _ (List.mem_singleton.mpr rfl)
abbrev tZero : TE := tLst (tCons (tC (.int 0)) tNil)
theorem turn_run {K : PySem.W.Frag} {σ : L2.St} {H : Hp} {a : Addr} {vs : List V} {U : List (List Nat)} {Q : VK} (h8 : σ[8]? = some (some (.ref a))) (ha : H a = some (.lst vs)) (hp : Paired (L1 H) vs U) (hl : U.length ≤ 50)
    (hw : ∀ x, wipe ((wipe σ [7]).set 7 (some x)) [7] = wipe σ [7]) (hs : ∀ x, ((wipe σ [7]).set 7 (some x))[7]? = some (some x)) (q : ∀ H' v, Same H H' → L2s H' v (turn0 U) → Q v H') :
    tIf (tTest (tOp (rInD K) tZero (tVar 8))) (tLc (iList K (tVar 8)) (gName 7) (tTest (tOp (rNeD K) (tVar 7) tZero)) (tVar 7) [7]) (tOp rCat (tVar 8) (tLst (tCons tZero tNil))) σ H Q := by
  have vl := vs_len hp
  refine ⟨by show 1 ≤ sizeLine; decide, fun z hz => ?_⟩
  have k1 := same_new (o := .lst [.int 0]) hz
  have hz1 : (upd H z (.lst [.int 0])) z = some (.lst (vs1 [0])) := upd_same
  refine ⟨_, h8, dL [0], U.map dL, L1.dp ⟨z, rfl, hz1⟩, .lst (SqL.of (k1 _ _ ha)) (dpAll_rows (paired_mono hp k1)), shaped_row _, shaped_rows _, _, rfl, ?_⟩
  rw [any_eqv]
  by_cases h0 : [0] ∈ U
  · refine iteT' (decide_eq_true h0) ?_
    refine ⟨_, h8, a, rfl, ⟨_, SqL.of (k1 _ _ ha)⟩, fun D hD => comp_by U (runs_list (K := K) (SqL.of (k1 _ _ ha))) vl (by omega) hD (fun k => !decide (k = [0])) (fun k _ v => L1 (upd H z (.lst [.int 0])) v k) (fun _ _ _ _ _ h => h) (fun i x k H' Z Zn hx hd kk z1 z2 => ?_) fun H' ys k hy hys => ?_⟩
    · obtain ⟨k', hk', hL⟩ := paired_get hp i x hx
      have ed : k' = k := Option.some.inj (hk'.symm.trans hd)
      subst ed
      refine ⟨hw _, _, hs _, by show 1 ≤ sizeLine; decide, fun y hy => ?_⟩
      have k5 := kk.trans (same_new (o := .lst [.int 0]) hy)
      have hy5 : (upd H' y (.lst [.int 0])) y = some (.lst (vs1 [0])) := upd_same
      refine ⟨dL k', dL [0], ((hL.mono k1).mono k5).dp, L1.dp ⟨y, rfl, hy5⟩, shaped_row _, shaped_row _, _, rfl, ?_⟩
      rw [eqv_row]
      cases e : (!decide (k' = [0])) with
      | true => exact iteT ⟨_, hs _, z1 _ _ e (same_new hy) (hL.mono k1)⟩
      | false => exact iteF (z2 _ e (same_new hy))
    · refine q H' _ (k1.trans k) ⟨D, ys, rfl, hy, ?_⟩
      unfold turn0
      rw [if_pos h0]
      exact paired_mono hys k
  · refine iteF' (decide_eq_false h0) ?_
    refine ⟨_, h8, by show 1 ≤ sizeLine; decide, fun y hy => ⟨by show 1 ≤ sizeLine; decide, fun y2 hy2 => ?_⟩⟩
    have k2 := k1.trans (same_new (o := .lst [.int 0]) hy)
    have k3 := k2.trans (same_new (o := .lst [.ref y]) hy2)
    have hyy : (upd (upd (upd H z (.lst [.int 0])) y (.lst [.int 0])) y2 (.lst [.ref y])) y = some (.lst (vs1 [0])) := same_new (o := .lst [.ref y]) hy2 _ _ upd_same
    refine ⟨a, y2, vs, [.ref y], rfl, rfl, k3 _ _ ha, upd_same, Nat.le_trans (show vs.length + 1 ≤ 100 by omega) (by decide), fun p hp' => ?_⟩
    have k4 := same_new (o := .lst (vs ++ [.ref y])) hp'
    refine q _ _ (k3.trans k4) ⟨p, _, rfl, upd_same, ?_⟩
    unfold turn0
    rw [if_neg h0]
    exact paired_app (paired_mono hp (k3.trans k4)) (.cons ⟨y, rfl, k4 _ _ hyy⟩ .nil)
end TA
namespace TA
open PySem PySem.Spec PyProof.Rows L2
theorem rows_at {N : Hp} : ∀ {vs : List V} {ks : List (List Nat)}, Paired (L1 N) vs ks → ∀ x ∈ vs, ∃ c k, x = .ref c ∧ k ∈ ks ∧ N c = some (.lst (vs1 k))
  | _, _, .cons ⟨c, e, h⟩ t, x, hx => by
    rcases List.mem_cons.mp hx with q | q
    · exact ⟨c, _, q.trans e, List.mem_cons_self, h⟩
    · obtain ⟨c', k, e', hk, h'⟩ := rows_at t x q
      exact ⟨c', k, e', List.mem_cons_of_mem _ hk, h'⟩
theorem same_free {H H' : Hp} {b : Addr} (k : Same H H') (h : H' b = none) : H b = none := k.free h
section
variable {P : Program} {w : World} {K : PySem.W.Frag} {mg : Str → Option Value} {base : Heap} (T : Tx K mg)
abbrev NLW : List Str := ["_law_script", "_law_pot_here", "_law_world", "_law_far", "_law_shown", "_law_one", "_law_other", "_law_kind", "_law_told_here", "_law_turned"]
def spLaw (K : PySem.W.Frag) : Sp := fun vs H Q _ => ∃ (a : Addr) (ns : List Int), vs = [.ref a] ∧ SqL K H a (ns.map V.int) ∧ ∀ H', Q (.bl true) H'
theorem ok_law : FnG P w K mg base 11 T.law.f T.law.fd ["_law_script"] (spLaw K) := by
  refine okG T.law.F sc_law (fun vs H Q E h => ?_) (fun cdv A outer s H vs Q E hg hr h => ?_)
  · obtain ⟨a, ns, rfl, _⟩ := h
    rfl
  · obtain ⟨a, ns, rfl, ha, q⟩ := h
    have hu65 : (A.deeper (envOfC ("law" : Str) (defScope s_law) s.heap.objs.size T.law.f cdv)).units + 65 < cLine := by have := hr.un; omega
    refine ⟨_, pss_cons (ps_set (i := 1) sc_law.nd rfl (.inl rfl) (pe_call (ok_pot T) (hr.mono (by decide)) (by rfl) T.lw_pot.g T.lw_pot.F.kp T.lw_pot.b .nil pass0 (pa_cons (pv 0) (pa_cons pe_int pa_nil))))
      (pss_cons (ps_if (pt_not (pt_val (pe_callG (ok_lots_right T) hg (hr.mono (by decide)) (by rfl) T.lw_lots_right.g T.lw_lots_right.F.kp T.lw_lots_right.b (pa_cons (pv 1) pa_nil)))) (pss_one ps_never) pss_nil)
      (pss_cons (ps_par (i := 2) (j := 3) (by rfl) sc_law.nd rfl rfl (by decide) rfl rfl (pa_cons (pe_call (ok_store T) (hr.mono (by decide)) (by rfl) T.lw_store.g T.lw_store.F.kp T.lw_store.b .nil pass0 (pa_cons (pv 1) (pa_cons pe_int (pa_cons pe_int pa_nil))))
          (pa_cons (pe_call (ok_store T) (hr.mono (by decide)) (by rfl) T.lw_store.g T.lw_store.F.kp T.lw_store.b .nil pass0 (pa_cons (pv 1) (pa_cons pe_int (pa_cons pe_int pa_nil)))) pa_nil)) (by rfl))
      (pss_cons (ps_set (i := 4) sc_law.nd rfl (.inl rfl) (pe_callB (cr_repr hg hr.units) (by rfl) T.b_repr (by decide +kernel) (pa_cons (pv 2) pa_nil)))
      (pss_cons (ps_par (i := 5) (j := 6) (by rfl) sc_law.nd rfl rfl (by decide) rfl rfl (pa_cons (pe_make T.MI (ok_init T) (hr.mono (by decide)) (by rfl) T.gC T.bI .nil pass0 (pa_cons (pe_ix ix_tup (pv 2) pe_int fun _ _ => rfl) (pa_cons (pe_ix ix_tup (pv 2) pe_int fun _ _ => rfl)
            (pa_cons (pe_callTy call_tuple_of (by rfl) T.b_tuple (by decide +kernel) (pa_cons (pe_ix ix_tup (pv 2) pe_int fun _ _ => rfl) pa_nil)) pa_nil))))
          (pa_cons (pe_makeK0 T.MI (ok_init T) (hr.mono (by decide)) (by rfl) T.gC T.kb_Store pass0 (pk_cons (pe_ix ix_tup (pv 3) pe_int fun _ _ => rfl) (pk_cons (pe_ix ix_tup (pv 3) pe_int fun _ _ => rfl) (pk_cons (pe_ix ix_tup (pv 3) pe_int fun _ _ => rfl) pk_nil)))) pa_nil)) (by rfl))
      (pss_cons (ps_if (PW.pt (pw_or (pt_not (pt_val (pe_callG (ok_is T) hg (hr.mono (by decide)) (by rfl) T.lw_is.g T.lw_is.F.kp T.lw_is.b (pa_cons (pv 5) (pa_cons (pe_ix ix_tup (pv 2) pe_int fun _ _ => rfl) (pa_cons (pe_ix ix_tup (pv 2) pe_int fun _ _ => rfl) (pa_cons (pe_ix ix_tup (pv 2) pe_int fun _ _ => rfl) pa_nil)))))))
          (pw_or (pt_cmpR (op_neD hr.units) (pe_call (ok_named T) (hr.mono (by decide)) (by rfl) T.named.g T.named.F.kp T.named.b .nil pass0 (pa_cons (pv 5) pa_nil))
              (pe_callB (cr_sortedSet (by rfl)) (by rfl) T.b_sorted (by decide +kernel) (pa_cons (pe_callTy (cr_setI (by rfl)) (by rfl) T.b_set (by decide +kernel) (pa_cons (pe_callB (cr_sumL (by rfl)) (by rfl) T.b_sum (by decide +kernel) (pa_cons (pe_ix ix_tup (pv 2) pe_int fun _ _ => rfl) (pa_cons (pe_lst pa_nil) pa_nil))) pa_nil)) pa_nil)) (nomark _))
            (pw_or1 (pt_cmpR op_ne (pe_callB (cr_repr hg hr.units) (by rfl) T.b_repr (by decide +kernel) (pa_cons (pv 2) pa_nil)) (pv 4) (nomark _)))))) (pss_one ps_never) pss_nil)
      (pss_cons (ps_expr (pe_bm PySem.F.plainAttrs_list PySem.F.slot_list_append PySem.F.type_list_append mt_append (pe_meth0 (pv 5) T.cl T.MD (ok_deliveries T) (hr.mono (by decide)) T.bD .nil pass0) (pa_cons (pe_lst (pa_cons pe_int pa_nil)) pa_nil)))
      (pss_cons (ps_for PassesOwn.never rfl (pi_list (pe_op op_cat (pe_meth0 (pv 5) T.cl T.MD (ok_deliveries T) (hr.mono (by decide)) T.bD .nil pass0) (pe_meth0 (pv 5) T.cl T.MS (ok_sales T) (hr.mono (by decide)) T.bS .nil pass0))) (pg_name (i := 7) sc_law.nd rfl (.inl rfl))
          (pss_one (ps_expr (pe_bm PySem.F.plainAttrs_list PySem.F.slot_list_append PySem.F.type_list_append mt_append (pv 7) (pa_cons pe_int pa_nil)))))
      (pss_cons (ps_if (PW.pt (pw_or (pt_not (pt_val (pe_callG (ok_is T) hg (hr.mono (by decide)) (by rfl) T.lw_is.g T.lw_is.F.kp T.lw_is.b (pa_cons (pv 5) (pa_cons (pe_ix ix_tup (pv 2) pe_int fun _ _ => rfl) (pa_cons (pe_ix ix_tup (pv 2) pe_int fun _ _ => rfl) (pa_cons (pe_ix ix_tup (pv 2) pe_int fun _ _ => rfl) pa_nil)))))))
          (pw_or1 (pt_not (pt_cmpR (op_eqOwn (ok_eq T) (hr.mono (by decide)) T.aE T.iE T.st T.bE) (pv 5) (pe_make T.MI (ok_init T) (hr.mono (by decide)) (by rfl) T.gC T.bI .nil pass0 (pa_cons (pe_ix ix_tup (pv 2) pe_int fun _ _ => rfl)
            (pa_cons (pe_revL (pe_call (ok_told T) (hr.mono (by decide)) (by rfl) T.lw_told.g T.lw_told.F.kp T.lw_told.b .nil pass0 (pa_cons (pe_ix ix_tup (pv 2) pe_int fun _ _ => rfl) pa_nil))) (pa_cons (pe_ix ix_tup (pv 2) pe_int fun _ _ => rfl) pa_nil)))) (nomark _)))))) (pss_one ps_never) pss_nil)
      (pss_cons (ps_set (i := 8) sc_law.nd rfl (.inl rfl) (pe_call (ok_told T) (hr.mono (by decide)) (by rfl) T.lw_told.g T.lw_told.F.kp T.lw_told.b .nil pass0 (pa_cons (pe_ix ix_tup (pv 2) pe_int fun _ _ => rfl) pa_nil)))
      (pss_cons (ps_set (i := 9) sc_law.nd rfl (.inl rfl) (pe_ifExp (pt_cmpR (op_inD hu65) (pe_lst (pa_cons pe_int pa_nil)) (pv 8) (by with_unfolding_all rfl))
          (pe_lc (own := [("_law_kind", 7)]) (g := gName 7) (by rfl) sc_law.nd (pi_list (pv 8)) (blkOk_by (own := [("_law_kind", 7)]) (N := NLW) (sc := defScope s_law) (by decide +kernel)) (fun _ _ _ _ _ => pg_name (i := 7) sc_law.nd rfl (.inl rfl))
            (fun _ _ _ _ _ => pts_one (pt_cmpR (r := rNeD K) (op_neD hr.units) (pv 7) (pe_lst (pa_cons pe_int pa_nil)) (nomark _))) (fun _ _ _ _ _ => pv 7))
          (pe_op op_cat (pv 8) (pe_lst (pa_cons (pe_lst (pa_cons pe_int pa_nil)) pa_nil)))))
      (pss_cons (ps_if (PW.pt (pw_or (pt_cmpR op_notBl (pe_cmpR (op_eqOwn (ok_eq T) (hr.mono (by decide)) T.aE T.iE T.st T.bE) (pv 5) (pe_make T.MI (ok_init T) (hr.mono (by decide)) (by rfl) T.gC T.bI .nil pass0 (pa_cons (pe_op op_addN (pe_ix ix_tup (pv 2) pe_int fun _ _ => rfl) pe_int)
              (pa_cons (pe_ix ix_tup (pv 2) pe_int fun _ _ => rfl) (pa_cons (pe_ix ix_tup (pv 2) pe_int fun _ _ => rfl) pa_nil)))) (nomark _)) pe_bl (nomark _))
          (pw_or (pt_cmpR op_notBl (pe_cmpR (op_eqOwn (ok_eq T) (hr.mono (by decide)) T.aE T.iE T.st T.bE) (pv 5) (pv 2) (nomark _)) pe_bl (nomark _))
          (pw_or1 (pt_cmpR (op_eqOwn (ok_eq T) (hr.mono (by decide)) T.aE T.iE T.st T.bE) (pv 5) (pe_make T.MI (ok_init T) (hr.mono (by decide)) (by rfl) T.gC T.bI .nil pass0 (pa_cons (pe_ix ix_tup (pv 2) pe_int fun _ _ => rfl) (pa_cons (pv 9) (pa_cons (pe_ix ix_tup (pv 2) pe_int fun _ _ => rfl) pa_nil)))) (nomark _)))))) (pss_one ps_never) pss_nil)
      (pss_cons (ps_if (PW.pt (pw_or (pt_not (pt_val (pe_callG (ok_made_right T) hg (hr.mono (by decide)) (by rfl) T.lw_made_right.g T.lw_made_right.F.kp T.lw_made_right.b (pa_cons (pv 1) (pa_cons (pv 5) (pa_cons (pv 2) pa_nil))))))
          (pw_or1 (pt_not (pt_val (pe_callG (ok_renamed_right T) hg (hr.mono (by decide)) (by rfl) T.lw_renamed_right.g T.lw_renamed_right.F.kp T.lw_renamed_right.b (pa_cons (pv 1) (pa_cons (pv 5) (pa_cons (pv 2) pa_nil))))))))) (pss_one ps_never) pss_nil)
      (pss_one (ps_ret (pe_and (pe_callG (ok_beside_right T) hg (hr.mono (by decide)) (by rfl) T.lw_beside_right.g T.lw_beside_right.F.kp T.lw_beside_right.b (pa_cons (pv 5) (pa_cons (pv 2) (pa_cons (pv 6) (pa_cons (pv 3) pa_nil)))))
        (pe_one (pe_callG (ok_beside_right T) hg (hr.mono (by decide)) (by rfl) T.lw_beside_right.g T.lw_beside_right.F.kp T.lw_beside_right.b (pa_cons (pv 6) (pa_cons (pv 3) (pa_cons (pv 5) (pa_cons (pv 2) pa_nil))))))))))))))))))))), ?_⟩
    refine ⟨_, rfl, a, ns, rfl, ha, fun H1 p k1 np pot1 => ?_⟩
    refine ⟨_, rfl, p, rfl, pot1, fun H2 d2 => ⟨true, rfl, iteF ?_⟩⟩
    refine ⟨_, rfl, p, 5, rfl, by decide, by decide, d2.pot, fun H3 u n D S d3 hw two le5 kD kS lD lS => ?_⟩
    refine ⟨_, rfl, p, 3, rfl, by decide, by decide, d3.pot, fun H4 u' m D' S' d4 hw' two' le3 kD' kS' lD' lS' => ⟨_, _, rfl, ?_⟩⟩
    have pot4 := d4.pot
    have le : n ≤ 8 := by omega
    have le' : m ≤ 8 := by omega
    have wd : WorldAt (hid p H4) u n D S := by
      obtain ⟨x, y, hp, _⟩ := d2.pot
      exact (hw.mono (nw_drew d2.pot.some d4)).mono (nw_hid hp)
    have wd' : WorldAt (hid p H4) u' m D' S' := by
      obtain ⟨x, y, hp, _⟩ := d3.pot
      exact hw'.mono (nw_hid hp)
    clear hw hw' d2 d3 d4 k1 np pot1
    obtain ⟨wa, b, c, rfl, hwa, hb, hc⟩ := id wd
    obtain ⟨ba, bvs, rfl, hba, hbp⟩ := hb
    obtain ⟨ca, cvs, rfl, hca, hcp⟩ := hc
    obtain ⟨wb, b', c', rfl, hwb, hb', hc'⟩ := id wd'
    obtain ⟨ba', bvs', rfl, hba', hbp'⟩ := hb'
    obtain ⟨ca', cvs', rfl, hca', hcp'⟩ := hc'
    have hwa := hid_same _ _ hwa
    have hba := hid_same _ _ hba
    have hca := hid_same _ _ hca
    have hwb := hid_same _ _ hwb
    have hba' := hid_same _ _ hba'
    have hca' := hid_same _ _ hca'
    have hbp := paired_mono hbp hid_same
    have hcp := paired_mono hcp hid_same
    have hbp' := paired_mono hbp' hid_same
    have hcp' := paired_mono hcp' hid_same
    have sD : ∀ {G : Hp}, Same H4 G → S2s G (.ref ba) D := fun k => ⟨ba, bvs, rfl, .inl (k _ _ hba), paired_mono hbp k⟩
    have sS : ∀ {G : Hp}, Same H4 G → S2s G (.ref ca) S := fun k => ⟨ca, cvs, rfl, .inl (k _ _ hca), paired_mono hcp k⟩
    have lkD : Lots8 D := Lots8.of kD le (by omega)
    have lkS : Lots8 S := Lots8.of kS le (by omega)
    have tlD := told_len D
    have tlS := told_len S
    -- shown
    have sm : ∀ X : List (List Nat), (∀ k ∈ X, KindOk n k) → X.length ≤ 4 → SmRs X := fun X hX hl => ⟨by omega, fun k hk => (hX k hk).1.smR le⟩
    have sh := shows_tup (n := n) (by omega) (sm D kD lD) (sm S kS (by omega))
    have wdp : ∀ {G : Hp}, Same H4 G → Dp K G (.ref wa) (.tuple (dW n D S)) := fun k => .tup (SqT.of (k _ _ hwa)) (.cons (.int n) (.cons (L2s.dp ⟨ba, bvs, rfl, k _ _ hba, paired_mono hbp k⟩) (.cons (L2s.dp ⟨ca, cvs, rfl, k _ _ hca, paired_mono hcp k⟩) .nil)))
    refine ⟨_, rfl, wa, .tuple (dW n D S), rfl, wdp (Same.refl _), sh.sh, sh.nd, sh.dp, sh.sz, ?_⟩
    -- the stores
    refine ⟨_, rfl, wa, _, 0, vN n, rfl, rfl, SqT.of hwa, rfl, _, rfl, wa, _, 1, .ref ba, rfl, rfl, SqT.of hwa, rfl, _, rfl, wa, _, 2, .ref ca, rfl, rfl, SqT.of hwa, rfl, ca, cvs, rfl, .inl ⟨SqL.of hca, fun t ht => ?_⟩⟩
    have k5 := same_new (o := .tup cvs) ht
    refine fun oa dx1 nx1 ndx1 nex1 => init_run nx1 ndx1 nex1 (n := n) (v := .ref ba) (u := .ref t) two le (sD k5) ⟨t, cvs, rfl, .inr upd_same, paired_mono hcp k5⟩ kD kS (by omega) (by omega) fun H6 k6 st6 => ⟨rfl, ?_⟩
    have s6 := k5.trans k6
    refine ⟨_, rfl, wb, _, 2, .ref ca', rfl, rfl, SqT.of (s6 _ _ hwb), rfl, _, rfl, wb, _, 1, .ref ba', rfl, rfl, SqT.of (s6 _ _ hwb), rfl, _, rfl, wb, _, 0, vN m, rfl, rfl, SqT.of (s6 _ _ hwb), rfl, rfl, rfl, ?_⟩
    refine fun x2 dx2 nx2 ndx2 nex2 => init_run nx2 ndx2 nex2 (n := m) (v := .ref ba') (u := .ref ca') two' le' ⟨ba', bvs', rfl, .inl (s6 _ _ hba'), paired_mono hbp' s6⟩ ⟨ca', cvs', rfl, .inl (s6 _ _ hca'), paired_mono hcp' s6⟩ kD' kS' (by omega) (by omega) fun H7 k7 st7 => ⟨rfl, _, _, rfl, ?_⟩
    have s7 := s6.trans k7
    have one7 := st6.mono k7
    clear st6 k5 k6 k7 s6
    have okD := one7.okD
    have okS := one7.okS
    obtain ⟨oa0, dx, tD, tS, dk, eo, hoa, _⟩ := id one7.at_
    cases eo
    have wx : ∀ {G : Hp}, Same H4 G → SqT K G wa [vN n, .ref ba, .ref ca] := fun k => SqT.of (k _ _ hwa)
    -- as the law sees it
    refine ⟨_, rfl, _, rfl, wa, _, 0, vN n, rfl, rfl, wx s7, rfl, _, rfl, wa, _, 1, .ref ba, rfl, rfl, wx s7, rfl, _, rfl, wa, _, 2, .ref ca, rfl, rfl, wx s7, rfl, .ref oa, .ref ba, .ref ca, n, told D, told S, D, S, rfl, one7, sD s7, sS s7, lkD, lkS, rfl, rfl, fun H8 k8 => ⟨true, rfl, iteF ?_⟩⟩
    have s8 := s7.trans k8
    -- what is named
    refine ⟨_, rfl, .ref oa, n, _, _, rfl, (one7.mono k8).at_, fun H9 r9 k9 hr9 => ?_⟩
    have s9 := s8.trans k9
    refine ⟨_, rfl, wa, _, 1, .ref ba, rfl, rfl, wx s9, rfl, by show 0 ≤ sizeLine; decide, fun e he => ?_⟩
    have k10 := same_new (o := .lst []) he
    have s10 := s9.trans k10
    have fl32 := lens_flat kD le lD
    refine ⟨ba, e, bvs, [], D.map vs1, rfl, s10 _ _ hba, upd_same, subs_rows (paired_mono hbp s10), by rw [map_flat, List.length_map]; show 0 + _ ≤ _; omega, fun H11 f k11 hf => ?_⟩
    have hf : H11 f = some (.lst (vs1 D.flatten)) := by rw [hf, map_flat]; rfl
    refine ⟨f, cI D.flatten, rfl, .inl (SqL.of (by rw [← ints_vs]; exact hf)), by rw [List.length_map]; omega, fun g cc hg' hcc => ?_⟩
    rw [List.length_map] at hcc
    have k12 := same_new (o := SetO w g (fun j => decide (j ∈ cI D.flatten)) cc) hg'
    refine ⟨g, _, cc, rfl, upd_same, by omega, fun ns' e2 up hm hn he2 => ?_⟩
    obtain ⟨bs, rfl, ub, hbm⟩ := ints_back up hm
    have ebs : bs = norm (told D).flatten := by
      rw [named_told kD le]
      exact ext_nat ub (norm_up _) fun x => by
        rw [hbm x, mem_norm fun y hy => by have := flat_lt kD y hy; omega]
    have k13 := same_new (o := .lst ((cI bs).map V.int)) he2
    have hbs : (upd (upd H11 g (SetO w g (fun j => decide (j ∈ cI D.flatten)) cc)) e2 (.lst ((cI bs).map V.int))) e2 = some (.lst (vs1 bs)) := by rw [upd_same, ints_vs]
    show rNeD _ _ _ (upd (upd H11 g (SetO w g (fun j => decide (j ∈ cI D.flatten)) cc)) e2 (.lst ((cI bs).map V.int))) _
    obtain ⟨H13, e13⟩ : ∃ H13, H13 = upd (upd H11 g (SetO w g (fun j => decide (j ∈ cI D.flatten)) cc)) e2 (.lst ((cI bs).map V.int)) := ⟨_, rfl⟩
    have kk : Same H9 H13 := by rw [e13]; exact k10.trans (k11.trans (k12.trans k13))
    rw [← e13] at hbs ⊢
    clear e13
    have s13 := s9.trans kk
    refine ⟨dL _, dL bs, ((hr9.mono nw_same).mono kk).dp, L1.dp ⟨e2, rfl, hbs⟩, shaped_row _, shaped_row _, _, rfl, iteF' (by rw [eqv_row, ebs, decide_eq_true rfl]; rfl) ?_⟩
    -- the world as it was
    refine ⟨_, rfl, wa, .tuple (dW n D S), rfl, wdp s13, sh.sh, sh.nd, sh.dp, sh.sz, _, rfl, rfl, _, rfl, iteF' (by rw [decide_eq_true rfl]; rfl) ?_⟩
    have one13 := one7.mono (k8.trans (k9.trans kk))
    have other13 := st7.mono (k8.trans (k9.trans kk))
    have hoa13 := (k8.trans (k9.trans kk)) _ _ hoa
    clear hr9 kk k8 k9 k10 k11 k12 k13 s7 s8 s9 s10 hbs hf one7 st7 hoa hbm ub ebs up hm
    -- what it gives out is a copy
    refine ⟨_, rfl, oa, dx, _, rfl, hoa13, flds_no _ _ _ _ (by decide +kernel) (by decide +kernel) (by decide +kernel) (by decide +kernel), .ref oa, n, told D, told S, rfl, one13.at_, le, okD, by show (told D).length ≤ 100; omega, fun H14 r14 k14 hr14 => ?_⟩
    obtain ⟨da, dvs, rfl, hda, hdp⟩ := hr14
    refine ⟨.inl ⟨rfl, _, SqL.of (of_nw hda).2⟩, by show 1 ≤ sizeLine; decide, fun e3 he3 => ?_⟩
    have dl : dvs.length = (told D).length := vs_len hdp
    have k15 := same_new (o := .lst [.int 0]) he3
    refine ⟨da, dvs, .ref e3, rfl, rfl, k15 _ _ (of_nw hda).2, Nat.lt_of_le_of_lt (show dvs.length ≤ 100 by omega) (by decide), ?_⟩
    have k16 : Same H13 (upd (upd H14 e3 (.lst [.int 0])) da (.lst (dvs ++ [.ref e3]))) := same_mut (k14.trans k15) (of_nw hda).1
    obtain ⟨H16, e16⟩ : ∃ H16, H16 = upd (upd H14 e3 (.lst [.int 0])) da (.lst (dvs ++ [.ref e3])) := ⟨_, rfl⟩
    rw [← e16] at k16 ⊢
    clear e16 k15 hda hdp dl k14 he3
    have s16 := s13.trans k16
    have one16 := one13.mono k16
    have hoa16 := k16 _ _ hoa13
    -- every copy is changed
    refine ⟨_, rfl, oa, dx, _, rfl, hoa16, flds_no _ _ _ _ (by decide +kernel) (by decide +kernel) (by decide +kernel) (by decide +kernel), .ref oa, n, told D, told S, rfl, one16.at_, le, okD, by show (told D).length ≤ 100; omega, fun H17 r17 k17 hr17 => ?_⟩
    refine ⟨_, rfl, oa, dx, _, rfl, k17 _ _ hoa16, flds_no _ _ _ _ (by decide +kernel) (by decide +kernel) (by decide +kernel) (by decide +kernel), .ref oa, n, told D, told S, rfl, (one16.mono k17).at_, le, okS, by show (told S).length ≤ 100; omega, fun H18 r18 k18 hr18 => ?_⟩
    obtain ⟨xa, xvs, rfl, hxa, hxp⟩ := hr17.mono (nw_mono k18)
    obtain ⟨za, zvs, rfl, hza, hzp⟩ := hr18.mono (nw_back k17)
    have xl : xvs.length = (told D).length := vs_len hxp
    have zl : zvs.length = (told S).length := vs_len hzp
    refine ⟨xa, za, xvs, zvs, rfl, rfl, (of_nw hxa).2, (of_nw hza).2, Nat.le_trans (show xvs.length + zvs.length ≤ 100 by omega) (by decide), fun l hl => ?_⟩
    have l16 : H16 l = none := (k17.trans k18).free hl
    have rows : ∀ x ∈ xvs ++ zvs, ∃ c xs, x = .ref c ∧ H18 c = some (.lst xs) ∧ xs.length ≤ 100 ∧ H16 c = none := by
      intro x hx
      have one : ∀ (vs : List V) (U : List (List Nat)), Paired (L1 (Nw H16 H18)) vs U → KdsOk n U → x ∈ vs → ∃ c xs, x = .ref c ∧ H18 c = some (.lst xs) ∧ xs.length ≤ 100 ∧ H16 c = none := fun vs U hp ok h => by
        obtain ⟨c, k, e, hk, hc⟩ := rows_at hp x h
        obtain ⟨h1, h2⟩ := of_nw hc
        refine ⟨c, vs1 k, e, h2, ?_, h1⟩
        rw [List.length_map]
        have := len_in8 (nodup_lt (ok.2 k hk).2.1) (ok.in8 le k hk)
        omega
      exact (List.mem_append.mp hx).elim (one xvs _ hxp okD) (one zvs _ hzp okS)
    have kl : Same H16 (upd H16 l (.lst (xvs ++ zvs))) := same_new l16
    refine ⟨l, rfl, ⟨_, SqL.of upd_same⟩, for_by (H0 := upd H16 l (.lst (xvs ++ zvs))) (runs_list (K := K) (SqL.of upd_same))
      (fun i σ H' => (∃ y, σ = [some (.ref a), some (.ref p), some (.ref wa), some (.ref wb), some (.str (PyData.shown (.tuple (dW n D S)))), some (.ref oa), some (.ref x2), y, none, none]) ∧ Same (upd H16 l (.lst (xvs ++ zvs))) H' ∧ ∀ x ∈ xvs ++ zvs, ∃ c xs, x = .ref c ∧ H' c = some (.lst xs) ∧ xs.length ≤ 100 + i ∧ (upd H16 l (.lst (xvs ++ zvs))) c = none)
      (fun i σ H' h => h.2.1) ⟨⟨_, rfl⟩, ?_, ?_⟩ ?_ ?_⟩
    · intro bb oo hbb
      by_cases eb : bb = l
      · subst eb
        rw [upd_same] at hbb ⊢
        exact hbb
      · rw [upd_ne eb] at hbb ⊢
        exact (k17.trans k18) _ _ hbb
    · intro x hx
      obtain ⟨c, xs, e, h1, h2, h3⟩ := rows x hx
      have nc : c ≠ l := ne_of_none h1 hl
      exact ⟨c, xs, e, by rw [upd_ne nc]; exact h1, h2, by rw [upd_ne nc]; exact h3⟩
    · rintro i x σ H' hi ⟨⟨y, rfl⟩, ks', hr'⟩
      obtain ⟨c, xs, rfl, h1, h2, h3⟩ := hr' x (List.mem_of_getElem? hi)
      have il : i < 20 := by
        have := (List.getElem?_eq_some_iff.mp hi).1
        rw [List.length_append] at this
        omega
      refine ⟨_, rfl, .inl ⟨rfl, _, SqL.of h1⟩, c, xs, .int 9, rfl, rfl, h1, Nat.lt_of_le_of_lt (show xs.length ≤ 200 by omega) (by decide), ⟨_, rfl⟩, same_mut ks' h3, fun x' hx' => ?_⟩
      obtain ⟨c', xs', e', h1', h2', h3'⟩ := hr' x' hx'
      by_cases ec : c' = c
      · exact ⟨c', xs ++ [.int 9], e', by rw [ec, upd_same], by rw [List.length_append]; show xs.length + 1 ≤ _; omega, h3'⟩
      · exact ⟨c', xs', e', by rw [upd_ne ec]; exact h1', by omega, h3'⟩
    rintro σ H19 ⟨⟨y, rfl⟩, kz, _⟩
    have k19 := kl.trans kz
    have s19 := s16.trans k19
    have one19 := one16.mono k19
    have other19 := (other13.mono k16).mono k19
    have hoa19 := k19 _ _ hoa16
    clear rows hxa hxp hza hzp hr17 hr18 kl kz l16 hl k17 k18 hoa16 one16 one13 other13 s13 s16 k16
    -- nothing has changed
    refine ⟨_, rfl, _, rfl, wa, _, 0, vN n, rfl, rfl, wx s19, rfl, _, rfl, wa, _, 1, .ref ba, rfl, rfl, wx s19, rfl, _, rfl, wa, _, 2, .ref ca, rfl, rfl, wx s19, rfl, .ref oa, .ref ba, .ref ca, n, told D, told S, D, S, rfl, one19, sD s19, sS s19, lkD, lkS, rfl, rfl, fun H20 k20 => ⟨true, rfl, iteF ?_⟩⟩
    have s20 := s19.trans k20
    refine ⟨_, rfl, _, rfl, wa, _, 0, vN n, rfl, rfl, wx s20, rfl, _, rfl, wa, _, 1, .ref ba, rfl, rfl, wx s20, rfl, .ref ba, D, rfl, sD s20, lkD, fun H21 r21 k21 hr21 => ?_⟩
    obtain ⟨ta, tvs, rfl, hta, htp⟩ := hr21.mono nw_same
    refine ⟨ta, tvs, rfl, SqL.of hta, fun t2 ht2 => ?_⟩
    have k22 := same_new (o := .lst tvs.reverse) ht2
    have s22 := s20.trans (k21.trans k22)
    refine ⟨_, rfl, wa, _, 2, .ref ca, rfl, rfl, wx s22, rfl, fun xx dxx nxx ndxx nexx => init_run nxx ndxx nexx (n := n) (v := .ref t2) (u := .ref ca) two le ⟨t2, tvs.reverse, rfl, .inl upd_same, paired_rev (paired_mono htp k22)⟩ (sS s22) (fun k hk => okD.kind le k (List.mem_reverse.mp hk)) kS (by rw [List.length_reverse]; omega) (by omega) fun H23 k23 st23 => ⟨rfl, ?_⟩⟩
    have s23 := s22.trans k23
    have q23 := k20.trans (k21.trans (k22.trans k23))
    refine (one19.mono q23).eqs st23 ⟨_, rfl, iteF' (by rw [decide_eq_true ⟨rfl, (told_rev okD le).symm, rfl⟩]; rfl) ?_⟩
    clear st23 hta htp hr21 k20 k21 k22 k23 s20 s22
    -- told, turned
    refine ⟨_, rfl, wa, _, 1, .ref ba, rfl, rfl, wx s23, rfl, .ref ba, D, rfl, sD s23, lkD, fun H24 r24 k24 hr24 => ?_⟩
    obtain ⟨va, vvs, rfl, hva, hvp⟩ := hr24.mono nw_same
    refine turn_run (K := K) rfl hva hvp (by omega) (fun _ => rfl) (fun _ => rfl) fun H25 tv k25 ht25 => ?_
    have s25 := s23.trans (k24.trans k25)
    have q25 := q23.trans (k24.trans k25)
    -- others are others
    refine ⟨_, rfl, _, rfl, wa, _, 0, vN n, rfl, rfl, wx s25, rfl, n, 1, rfl, rfl, _, rfl, wa, _, 1, .ref ba, rfl, rfl, wx s25, rfl, _, rfl, wa, _, 2, .ref ca, rfl, rfl, wx s25, rfl, fun xx dxx nxx ndxx nexx => init_run nxx ndxx nexx (n := n + 1) (v := .ref ba) (u := .ref ca) (by omega) (by omega) (sD s25) (sS s25) (fun k hk => (kD k hk).up (by omega)) (fun k hk => (kS k hk).up (by omega)) (by omega) (by omega) fun H26 k26 st26 => ⟨rfl, ?_⟩⟩
    refine (one19.mono (q25.trans k26)).eqs st26 ⟨_, false, rfl, rfl, _, rfl, iteF' (by rw [show decide (n = n + 1 ∧ told D = told D ∧ told S = told S) = false from decide_eq_false fun h => by have := h.1; omega]; rfl) ?_⟩
    have s26 := s25.trans k26
    refine ⟨_, rfl, _, rfl, oa, dx, _, wa, rfl, rfl, (q25.trans k26) _ _ hoa19, .inr ⟨_, s26 _ _ hwa⟩, .ref oa, .ref wa, n, told D, told S, rfl, (one19.mono (q25.trans k26)).at_, le, okD, okS, .inr ⟨wa, _, rfl, s26 _ _ hwa, ⟨_, rfl⟩, false, false, rfl, rfl, _, rfl, iteF' rfl ?_⟩⟩
    have tvl := turn_len (told D)
    refine ⟨_, rfl, _, rfl, wa, _, 0, vN n, rfl, rfl, wx s26, rfl, _, rfl, _, rfl, wa, _, 2, .ref ca, rfl, rfl, wx s26, rfl, fun xx dxx nxx ndxx nexx => init_run nxx ndxx nexx (n := n) (v := tv) (u := .ref ca) two le (ht25.mono k26).s2 (sS s26) (turn_kind okD two le) kS (by omega) (by omega) fun H27 k27 st27 => ⟨rfl, ?_⟩⟩
    have q27 := q25.trans (k26.trans k27)
    refine (one19.mono q27).eqs st27 ⟨_, rfl, iteF' (decide_eq_false fun h => turn_ne okD le h.2.1) ?_⟩
    have s27 := s26.trans k27
    have pot27 := pot4.mono s27
    have G27 : Given T.C (hid p H27) (.ref oa) (.ref wa) n D S := ⟨(one19.mono q27).hid pot27, wd.mono (hid_mono s27), kD, kS, lD, by omega⟩
    have F27 : Given T.C (hid p H27) (.ref x2) (.ref wb) m D' S' := ⟨(other19.mono q27).hid pot27, wd'.mono (hid_mono s27), kD', kS', lD', by omega⟩
    -- the parts
    refine ⟨_, rfl, _, rfl, _, rfl, p, .ref oa, .ref wa, n, D, S, rfl, pot27, G27, by omega, fun H28 d28 => ⟨true, rfl, iteF ?_⟩⟩
    refine ⟨_, rfl, _, rfl, _, rfl, p, .ref oa, .ref wa, n, D, S, rfl, d28.pot, G27.mono d28.rest, by omega, fun H29 d29 => ⟨true, rfl, iteF ?_⟩⟩
    have sr : Same (hid p H27) H29 := d28.rest.trans (d29.rest.trans hid_same)
    refine ⟨_, rfl, _, rfl, _, rfl, _, rfl, .ref oa, .ref wa, .ref x2, .ref wb, n, m, D, S, D', S', rfl, G27.mono sr, F27.mono sr, by omega, fun H30 k30 => ⟨true, rfl, iteT ?_⟩⟩
    exact ⟨_, rfl, _, rfl, _, rfl, _, rfl, .ref x2, .ref wb, .ref oa, .ref wa, m, n, D', S', D, S, rfl, (F27.mono sr).mono k30, (G27.mono sr).mono k30, by omega, fun H31 k31 => q H31⟩
end
end TA
namespace TA
open PySem PySem.Spec PyProof.Rows L2
/-! ### the end, where the law is promised for a call with nothing being shown -/
section
variable {P : Program} {w : World} {K : PySem.W.Frag} {mg mb : Str → Option Value} {k : Nat} {fa a : Addr} {fd : FuncData} {x : Str} {sp : Sp} {t : Shared} {vs : List Value} {ns : List Int}
/-- the script's own object -/
abbrev lay (vs : List Value) : Obj := { cls := .type "list", data := .seq vs.toArray }
/-- with the heap H, of which the script at most is known -/
theorem end_at {H : Hp} (KX : K.In t.heap) (ms : t.heap.Ns mainGlobals mg) (bs : t.heap.Ns builtinsNs mb) (bb : ∀ y : Str, y ≠ "__name__" → mb y = bootBuiltins y) (lim : t.heap.NoLimit) (gn : t.gens = #[]) (ob : t.heap.get? a = some (lay vs)) (hr : Room k callerA)
    (F : ∀ b : Heap, K.In b → b.Ns mainGlobals mg → FnG P w K mg b k fa fd [x] sp) (bd : ∀ (s : Shared) (u : Value), BindsTo s fd ⟨[u], []⟩ [(x, u)])
    (one : ∀ b u, H b = some u → b = a ∧ u = .frz (lay vs) (.lst (ns.map V.int))) (off : ∀ u, H a = some u → K.lookup a = none) (hok : HOk P w H t.heap) (h : sp [.ref a] H (fun v _ => v = .bl true) E0) :
    codeAny (model P w) callerA (.call (.ref fa) ⟨[.ref a], []⟩) (fun r s' => r = .ok (.ret (.bool true)) ∧ OldK t.heap s'.heap ∧ s'.os = t.os ∧ AllBare s'.gens) t := by
  have dicts : ∀ (b : Addr) (o : Obj) (es : Array DictEntry) (ep : Nat), t.heap.get? b = some o → o.data = .dict es ep → H b = none := fun b o es ep e d => by
    cases q : H b with
    | none => rfl
    | some u =>
      have eb := (one b u q).1
      rw [eb, ob] at e
      have eo := Option.some.inj e
      rw [← eo] at d
      exact Data.noConfusion d
  have names : ∀ (b : Addr) (m : Str → Option Value), t.heap.Ns b m → (hidT t.heap H).Ns b m := fun b m ⟨o, es, ep, e, d, r⟩ => ⟨o, es, ep, hidT_get e (dicts b o es ep e d), d, r⟩
  have inB : K.In (hidT t.heap H) := fun b o e => hidT_get (KX b o e) (by
    cases q : H b with
    | none => rfl
    | some u =>
      have eb := (one b u q).1
      rw [eb] at q e
      rw [off u q] at e
      cases e)
  have limB : (hidT t.heap H).NoLimit := by
    obtain ⟨mc, l1, l2⟩ := lim
    exact ⟨mc, names _ _ l1, l2⟩
  have start : Env0 P w K mg (hidT t.heap H) callerA [] t H := ⟨rfl, ⟨inB, names _ _ ms, ⟨mb, names _ _ bs, bb⟩, limB⟩, fun _ _ e => of_hidT e, Nat.le_of_eq (hidT_size _ _), trivial, fun b hb => absurd hb (List.not_mem_nil), hok, .of_eq gn⟩
  have ran := (F _ inB (names _ _ ms)).run callerA [] t H ⟨[.ref a], []⟩ [.ref a] [.ref a] _ E0 rfl hr start (bd t (.ref a)) (.cons rfl .nil) h
  refine codeAny_mono ran fun r s' c => ?_
  match r, c with
  | .error e, c => exact False.elim c
  | .ok .next, c => exact False.elim c
  | .ok .brk, c => exact False.elim c
  | .ok .cont, c => exact False.elim c
  | .ok (.ret u), ⟨v, H', os, bare, un, hok', rv, q⟩ =>
    have ev : v = .bl true := q
    rw [ev] at rv
    have eu : u = Value.bool true := rv
    refine ⟨by rw [eu], OldK.of_keep fun b o e => ?_, os, bare⟩
    cases z : H b with
    | none => exact un.keep b o e z (fun n => absurd n (List.not_mem_nil)) (List.not_mem_nil)
    | some u' =>
      obtain ⟨eb, eu'⟩ := one b u' z
      rw [eu'] at z
      have o1 := (hok b _ z).1
      rw [e] at o1
      rw [Option.some.inj o1]
      exact (hok' b _ (un.frzs b _ _ z)).1
theorem end_call (KX : K.In t.heap) (ms : t.heap.Ns mainGlobals mg) (bs : t.heap.Ns builtinsNs mb) (bb : ∀ y : Str, y ≠ "__name__" → mb y = bootBuiltins y) (lim : t.heap.NoLimit) (gn : t.gens = #[]) (ob : t.heap.get? a = some (lay vs)) (hi : IntsAre vs ns) (hl : ns.length ≤ sizeLine) (hr : Room k callerA)
    (F : ∀ b : Heap, K.In b → b.Ns mainGlobals mg → FnG P w K mg b k fa fd [x] sp) (bd : ∀ (s : Shared) (u : Value), BindsTo s fd ⟨[u], []⟩ [(x, u)]) (h : ∀ H : Hp, SqL K H a (ns.map V.int) → sp [.ref a] H (fun v _ => v = .bl true) E0) :
    codeAny (model P w) callerA (.call (.ref fa) ⟨[.ref a], []⟩) (fun r s' => r = .ok (.ret (.bool true)) ∧ OldK t.heap s'.heap ∧ s'.os = t.os ∧ AllBare s'.gens) t := by
  have rv := vals_ints hi
  have same := hi.length
  by_cases hk : ∃ o, K.lookup a = some o
  · obtain ⟨o, hk⟩ := hk
    have eo := KX a o hk
    rw [ob] at eo
    have eo := Option.some.inj eo
    refine end_at (H := fun _ => none) (ns := ns) KX ms bs bb lim gn ob hr F bd (fun b u e => ?_) (fun u e => ?_) (fun b u e => ?_) (h _ (.inr ⟨lay vs, vs.toArray, _, by rw [eo]; exact hk, rfl, rfl, rfl, by rw [List.size_toArray, same]; exact hl, rv⟩))
    · cases e
    · cases e
    · cases e
  · have no : K.lookup a = none := by
      cases e : K.lookup a with
      | none => rfl
      | some o => exact absurd ⟨o, e⟩ hk
    let H : Hp := fun b => if b = a then some (.frz (lay vs) (.lst (ns.map V.int))) else none
    have only : ∀ b u, H b = some u → b = a ∧ u = .frz (lay vs) (.lst (ns.map V.int)) := fun b u e => by
      by_cases eb : b = a
      · have e2 : H b = some (.frz (lay vs) (.lst (ns.map V.int))) := if_pos eb
        rw [e2] at e
        exact ⟨eb, (Option.some.inj e).symm⟩
      · have e2 : H b = none := if_neg eb
        rw [e2] at e
        cases e
    refine end_at (H := H) KX ms bs bb lim gn ob hr F bd only (fun _ _ => no) (fun b u e => ?_) (h H (.inl (.inr ⟨lay vs, if_pos rfl⟩)))
    obtain ⟨eb, eu⟩ := only b u e
    subst eb eu
    exact ⟨ob, by rw [List.length_map]; exact hl, vs, _, rv, ob⟩
end
/-- what the head leaves, from the law's promise -/
theorem walkG {l : PySem.W.OpenLaw} {n k : Nat} {q : Program} {loose : List Str} {XP : (Str → Option Value) → Heap → Prop} {YP : World → Heap → Prop} {d : DefRec} {K : Params → PySem.W.Frag} {sp : World → Sp} {x : Str} (hn : l.most = some n) (hs : n ≤ sizeLine) (hd : d.params.defaults = []) (hr : Room k callerA)
    (hY : ∀ (w : World) (h : Heap), YP w h → (K w.params).In h)
    (F : ∀ (w : World) (mg : Str → Option Value) (fa : Addr) (h : Heap), (K w.params).In h → h.Ns mainGlobals mg → mg d.name = some (.ref fa) →
      ∃ fd : FuncData, (∀ (s : Shared) (u : Value), BindsTo s fd ⟨[u], []⟩ [(x, u)]) ∧ ∀ b : Heap, (K w.params).In b → b.Ns mainGlobals mg → FnG l.prog w (K w.params) mg b k fa fd [x] (sp w))
    (hp : ∀ (w : World) (H : Hp) (a : Addr) (ns : List Int), SqL (K w.params) H a (ns.map V.int) → sp w [.ref a] H (fun v _ => v = .bl true) E0) :
    PySem.W.WalkO q loose XP YP l.row.toRowW d [] (fun f vs => PySem.call f vs) := by
  refine Att.attach_call hn hd fun w s₀ t mg mb fa o pm cd doc a vs ns G Y _ _ _ hm ob hi hl gn => ?_
  have KX := hY w _ Y
  obtain ⟨fd, bd, hF⟩ := F w mg fa _ KX G.T.g hm
  exact end_call KX G.T.g G.T.b G.T.builtins G.T.nolimit gn ob hi (Nat.le_trans hl hs) hr hF bd fun H => hp w H a ns
end TA
namespace TA
open PySem PySem.Spec PyProof.Rows L2
abbrev Bnd (x qual : Str) (st : Stmt) (ps : List Str) : Prop := ∀ (kV doc pm : Value) (an : Option Addr) (cdv ct : Value) (us : List Value), us.length = ps.length → bindArgs (PySem.W.fnOf x qual (defArgs st) (defBody st) (defScope st) .none kV doc pm an cdv ct) ⟨us, []⟩ = pure (ps.zip us)
section
variable {K : PySem.W.Frag} {h : Heap} {mg : Str → Option Value} {x qual : Str} {st : Stmt} {ps : List Str} {f C : Addr} {oc kV doc pm cdv ct : Value} {od an : Option Addr} {osl : Array (Option Value)}
def df_of (X : K.In h) (G : h.Ns mainGlobals mg) (hb : Bnd x x st ps) (a : PySem.W.nsIn K mainGlobals x = some (some (.ref f))) (l : K.lookup f = some ⟨oc, od, .func (PySem.W.fnOf x x (defArgs st) (defBody st) (defScope st) .none kV doc pm an cdv ct), osl⟩)
    (c : PySem.W.codeIn K cdv x = true) (k : PySem.W.keepIn K (.ref f) = true) : Df K mg x st ps := ⟨f, _, fun_mk l c k, PySem.W.mg_of X G a, (fun_mk l c k).binds hb⟩
/-- a def of the class -/
structure Mf (K : PySem.W.Frag) (C : Addr) (x qual : Str) (st : Stmt) (ps : List Str) where
  f : Addr
  fd : FuncData
  F : Fun K x qual st f fd
  a : PySem.W.findIn K (.ref C) x = some (some (.ref f))
  i : PySem.W.isFn K (.ref f) = true
  b : Binds K fd ps []
def mf_of (hb : Bnd x qual st ps) (a : PySem.W.findIn K (.ref C) x = some (some (.ref f))) (i : PySem.W.isFn K (.ref f) = true) (l : K.lookup f = some ⟨oc, od, .func (PySem.W.fnOf x qual (defArgs st) (defBody st) (defScope st) .none kV doc pm an cdv ct), osl⟩)
    (c : PySem.W.codeIn K cdv qual = true) (k : PySem.W.keepIn K (.ref f) = true) : Mf K C x qual st ps := ⟨f, _, fun_mk l c k, a, i, (fun_mk l c k).binds hb⟩
/-- the def that the property asks -/
structure Pf (K : PySem.W.Frag) (C : Addr) where
  p : Addr
  f : Addr
  fd : FuncData
  F : Fun K "shelves" "Store.shelves" s_Stshelves f fd
  b : Binds K fd ["self"] []
  P : PropOf K C "shelves" p f
def pf_of {p : Addr} {r : List Value} (hb : Bnd "shelves" "Store.shelves" s_Stshelves ["self"]) (a : PySem.W.findIn K (.ref C) "shelves" = some (some (.ref p))) (g1 : PySem.W.specialIn K (.ref p) "__get__" = some (some (.builtin "property.__get__"))) (g2 : PySem.W.takesIn K (.ref p) = some true)
    (g3 : PySem.W.recIn K p "property" = some r) (g4 : r.head? = some (.ref f)) (l : K.lookup f = some ⟨oc, od, .func (PySem.W.fnOf "shelves" "Store.shelves" (defArgs s_Stshelves) (defBody s_Stshelves) (defScope s_Stshelves) .none kV doc pm an cdv ct), osl⟩)
    (c : PySem.W.codeIn K cdv "Store.shelves" = true) (k : PySem.W.keepIn K (.ref f) = true) : Pf K C := ⟨p, f, _, fun_mk l c k, (fun_mk l c k).binds hb, a, g1, g2, by
  cases r with
  | nil => cases g4
  | cons v r =>
    have e := Option.some.inj g4
    rw [e] at g3
    exact ⟨r, g3⟩⟩
end
theorem bn_is_integer : Bnd "is_integer" "is_integer" s_is_integer ["value"] := fun _ _ _ _ _ _ us hl => match us, hl with | [_], _ => rfl
theorem bn_is_count : Bnd "is_count" "is_count" s_is_count ["value"] := fun _ _ _ _ _ _ us hl => match us, hl with | [_], _ => rfl
theorem bn_is_list : Bnd "is_list" "is_list" s_is_list ["value"] := fun _ _ _ _ _ _ us hl => match us, hl with | [_], _ => rfl
theorem bn_want_at_most : Bnd "want_at_most" "want_at_most" s_want_at_most ["what", "limit", "number"] := fun _ _ _ _ _ _ us hl => match us, hl with | [_, _, _], _ => rfl
theorem bn_are_shelves : Bnd "are_shelves" "are_shelves" s_are_shelves ["value"] := fun _ _ _ _ _ _ us hl => match us, hl with | [_], _ => rfl
theorem bn_want_shelves : Bnd "want_shelves" "want_shelves" s_want_shelves ["value"] := fun _ _ _ _ _ _ us hl => match us, hl with | [_], _ => rfl
theorem bn_is_lot_of : Bnd "is_lot_of" "is_lot_of" s_is_lot_of ["shelves", "value"] := fun _ _ _ _ _ _ us hl => match us, hl with | [_, _], _ => rfl
theorem bn_want_lot : Bnd "want_lot" "want_lot" s_want_lot ["shelves", "value"] := fun _ _ _ _ _ _ us hl => match us, hl with | [_, _], _ => rfl
theorem bn_bits_of : Bnd "bits_of" "bits_of" s_bits_of ["lot"] := fun _ _ _ _ _ _ us hl => match us, hl with | [_], _ => rfl
theorem bn_spots_of : Bnd "spots_of" "spots_of" s_spots_of ["bits"] := fun _ _ _ _ _ _ us hl => match us, hl with | [_], _ => rfl
theorem bn_told_lot : Bnd "told_lot" "told_lot" s_told_lot ["bits"] := fun _ _ _ _ _ _ us hl => match us, hl with | [_], _ => rfl
theorem bn_two_lots : Bnd "two_lots" "two_lots" s_two_lots ["shelves", "lot", "other"] := fun _ _ _ _ _ _ us hl => match us, hl with | [_, _, _], _ => rfl
theorem bn_joined : Bnd "joined" "joined" s_joined ["shelves", "lot", "other"] := fun _ _ _ _ _ _ us hl => match us, hl with | [_, _, _], _ => rfl
theorem bn_without : Bnd "without" "without" s_without ["shelves", "lot", "other"] := fun _ _ _ _ _ _ us hl => match us, hl with | [_, _, _], _ => rfl
theorem bn_common : Bnd "common" "common" s_common ["shelves", "lot", "other"] := fun _ _ _ _ _ _ us hl => match us, hl with | [_, _, _], _ => rfl
theorem bn_is_within : Bnd "is_within" "is_within" s_is_within ["shelves", "lot", "other"] := fun _ _ _ _ _ _ us hl => match us, hl with | [_, _, _], _ => rfl
theorem bn_is_kind : Bnd "is_kind" "is_kind" s_is_kind ["shelves", "value"] := fun _ _ _ _ _ _ us hl => match us, hl with | [_, _], _ => rfl
theorem bn_are_kinds : Bnd "are_kinds" "are_kinds" s_are_kinds ["shelves", "value"] := fun _ _ _ _ _ _ us hl => match us, hl with | [_, _], _ => rfl
theorem bn_plain_kinds : Bnd "plain_kinds" "plain_kinds" s_plain_kinds ["kinds"] := fun _ _ _ _ _ _ us hl => match us, hl with | [_], _ => rfl
theorem bn_made : Bnd "made" "made" s_made ["shelves", "deliveries", "sales"] := fun _ _ _ _ _ _ us hl => match us, hl with | [_, _, _], _ => rfl
theorem bn_want_store : Bnd "want_store" "want_store" s_want_store ["value"] := fun _ _ _ _ _ _ us hl => match us, hl with | [_], _ => rfl
theorem bn_want_kind : Bnd "want_kind" "want_kind" s_want_kind ["store", "value"] := fun _ _ _ _ _ _ us hl => match us, hl with | [_, _], _ => rfl
theorem bn_want_delivery : Bnd "want_delivery" "want_delivery" s_want_delivery ["store", "value"] := fun _ _ _ _ _ _ us hl => match us, hl with | [_, _], _ => rfl
theorem bn_want_sale : Bnd "want_sale" "want_sale" s_want_sale ["store", "value"] := fun _ _ _ _ _ _ us hl => match us, hl with | [_, _], _ => rfl
theorem bn_want_order : Bnd "want_order" "want_order" s_want_order ["store", "value"] := fun _ _ _ _ _ _ us hl => match us, hl with | [_, _], _ => rfl
theorem bn_with_delivery : Bnd "with_delivery" "with_delivery" s_with_delivery ["store", "kind"] := fun _ _ _ _ _ _ us hl => match us, hl with | [_, _], _ => rfl
theorem bn_with_sale : Bnd "with_sale" "with_sale" s_with_sale ["store", "kind"] := fun _ _ _ _ _ _ us hl => match us, hl with | [_, _], _ => rfl
theorem bn_without_delivery : Bnd "without_delivery" "without_delivery" s_without_delivery ["store", "position"] := fun _ _ _ _ _ _ us hl => match us, hl with | [_, _], _ => rfl
theorem bn_without_sale : Bnd "without_sale" "without_sale" s_without_sale ["store", "position"] := fun _ _ _ _ _ _ us hl => match us, hl with | [_, _], _ => rfl
theorem bn_moved : Bnd "moved" "moved" s_moved ["kinds", "order"] := fun _ _ _ _ _ _ us hl => match us, hl with | [_, _], _ => rfl
theorem bn_renamed : Bnd "renamed" "renamed" s_renamed ["store", "order"] := fun _ _ _ _ _ _ us hl => match us, hl with | [_, _], _ => rfl
theorem bn_beside : Bnd "beside" "beside" s_beside ["store", "other"] := fun _ _ _ _ _ _ us hl => match us, hl with | [_, _], _ => rfl
theorem bn_named : Bnd "named" "named" s_named ["store"] := fun _ _ _ _ _ _ us hl => match us, hl with | [_], _ => rfl
theorem bn_lw_pot : Bnd "_law_pot" "_law_pot" s_lw_pot ["_law_script", "_law_k"] := fun _ _ _ _ _ _ us hl => match us, hl with | [_, _], _ => rfl
theorem bn_lw_draw : Bnd "_law_draw" "_law_draw" s_lw_draw ["_law_pot_here", "_law_many"] := fun _ _ _ _ _ _ us hl => match us, hl with | [_, _], _ => rfl
theorem bn_lw_lot : Bnd "_law_lot" "_law_lot" s_lw_lot ["_law_pot_here", "_law_shelves", "_law_least"] := fun _ _ _ _ _ _ us hl => match us, hl with | [_, _, _], _ => rfl
theorem bn_lw_kinds : Bnd "_law_kinds" "_law_kinds" s_lw_kinds ["_law_pot_here", "_law_shelves", "_law_most"] := fun _ _ _ _ _ _ us hl => match us, hl with | [_, _, _], _ => rfl
theorem bn_lw_told : Bnd "_law_told" "_law_told" s_lw_told ["_law_kinds_here"] := fun _ _ _ _ _ _ us hl => match us, hl with | [_], _ => rfl
theorem bn_lw_lots_right : Bnd "_law_lots_right" "_law_lots_right" s_lw_lots_right ["_law_pot_here"] := fun _ _ _ _ _ _ us hl => match us, hl with | [_], _ => rfl
theorem bn_lw_moved : Bnd "_law_moved" "_law_moved" s_lw_moved ["_law_kinds_here", "_law_order_here"] := fun _ _ _ _ _ _ us hl => match us, hl with | [_, _], _ => rfl
theorem bn_lw_is : Bnd "_law_is" "_law_is" s_lw_is ["_law_store_here", "_law_shelves", "_law_deliveries", "_law_sales"] := fun _ _ _ _ _ _ us hl => match us, hl with | [_, _, _, _], _ => rfl
theorem bn_lw_store : Bnd "_law_store" "_law_store" s_lw_store ["_law_pot_here", "_law_most", "_law_kinds_here"] := fun _ _ _ _ _ _ us hl => match us, hl with | [_, _, _], _ => rfl
theorem bn_lw_made_right : Bnd "_law_made_right" "_law_made_right" s_lw_made_right ["_law_pot_here", "_law_one", "_law_world"] := fun _ _ _ _ _ _ us hl => match us, hl with | [_, _, _], _ => rfl
theorem bn_lw_order : Bnd "_law_order" "_law_order" s_lw_order ["_law_pot_here", "_law_shelves"] := fun _ _ _ _ _ _ us hl => match us, hl with | [_, _], _ => rfl
theorem bn_lw_renamed_right : Bnd "_law_renamed_right" "_law_renamed_right" s_lw_renamed_right ["_law_pot_here", "_law_one", "_law_world"] := fun _ _ _ _ _ _ us hl => match us, hl with | [_, _, _], _ => rfl
theorem bn_lw_beside_right : Bnd "_law_beside_right" "_law_beside_right" s_lw_beside_right ["_law_one", "_law_world", "_law_other", "_law_far"] := fun _ _ _ _ _ _ us hl => match us, hl with | [_, _, _, _], _ => rfl
theorem bn_law : Bnd "law" "law" s_law ["_law_script"] := fun _ _ _ _ _ _ us hl => match us, hl with | [_], _ => rfl
theorem bn_cI : Bnd "__init__" "Store.__init__" s_Stinit ["self", "shelves", "deliveries", "sales"] := fun _ _ _ _ _ _ us hl => match us, hl with | [_, _, _, _], _ => rfl
theorem bn_cD : Bnd "deliveries" "Store.deliveries" s_Stdeliveries ["self"] := fun _ _ _ _ _ _ us hl => match us, hl with | [_], _ => rfl
theorem bn_cS : Bnd "sales" "Store.sales" s_Stsales ["self"] := fun _ _ _ _ _ _ us hl => match us, hl with | [_], _ => rfl
theorem bn_cE : Bnd "__eq__" "Store.__eq__" s_Steq ["self", "other"] := fun _ _ _ _ _ _ us hl => match us, hl with | [_, _], _ => rfl
theorem bn_cP : Bnd "shelves" "Store.shelves" s_Stshelves ["self"] := fun _ _ _ _ _ _ us hl => match us, hl with | [_], _ => rfl
theorem all_mk {l : PySem.W.OpenLaw} {w : World} {K : PySem.W.Frag} {h : Heap} {mg : Str → Option Value} {fa C : Addr} {t1 t2 t3 : Tok} (X : K.In h) (G : h.Ns mainGlobals mg) (hfa : mg "law" = some (.ref fa))
    (d_is_integer : Df K mg "is_integer" s_is_integer ["value"])
    (d_is_count : Df K mg "is_count" s_is_count ["value"])
    (d_is_list : Df K mg "is_list" s_is_list ["value"])
    (d_want_at_most : Df K mg "want_at_most" s_want_at_most ["what", "limit", "number"])
    (d_are_shelves : Df K mg "are_shelves" s_are_shelves ["value"])
    (d_want_shelves : Df K mg "want_shelves" s_want_shelves ["value"])
    (d_is_lot_of : Df K mg "is_lot_of" s_is_lot_of ["shelves", "value"])
    (d_want_lot : Df K mg "want_lot" s_want_lot ["shelves", "value"])
    (d_bits_of : Df K mg "bits_of" s_bits_of ["lot"])
    (d_spots_of : Df K mg "spots_of" s_spots_of ["bits"])
    (d_told_lot : Df K mg "told_lot" s_told_lot ["bits"])
    (d_two_lots : Df K mg "two_lots" s_two_lots ["shelves", "lot", "other"])
    (d_joined : Df K mg "joined" s_joined ["shelves", "lot", "other"])
    (d_without : Df K mg "without" s_without ["shelves", "lot", "other"])
    (d_common : Df K mg "common" s_common ["shelves", "lot", "other"])
    (d_is_within : Df K mg "is_within" s_is_within ["shelves", "lot", "other"])
    (d_is_kind : Df K mg "is_kind" s_is_kind ["shelves", "value"])
    (d_are_kinds : Df K mg "are_kinds" s_are_kinds ["shelves", "value"])
    (d_plain_kinds : Df K mg "plain_kinds" s_plain_kinds ["kinds"])
    (d_made : Df K mg "made" s_made ["shelves", "deliveries", "sales"])
    (d_want_store : Df K mg "want_store" s_want_store ["value"])
    (d_want_kind : Df K mg "want_kind" s_want_kind ["store", "value"])
    (d_want_delivery : Df K mg "want_delivery" s_want_delivery ["store", "value"])
    (d_want_sale : Df K mg "want_sale" s_want_sale ["store", "value"])
    (d_want_order : Df K mg "want_order" s_want_order ["store", "value"])
    (d_with_delivery : Df K mg "with_delivery" s_with_delivery ["store", "kind"])
    (d_with_sale : Df K mg "with_sale" s_with_sale ["store", "kind"])
    (d_without_delivery : Df K mg "without_delivery" s_without_delivery ["store", "position"])
    (d_without_sale : Df K mg "without_sale" s_without_sale ["store", "position"])
    (d_moved : Df K mg "moved" s_moved ["kinds", "order"])
    (d_renamed : Df K mg "renamed" s_renamed ["store", "order"])
    (d_beside : Df K mg "beside" s_beside ["store", "other"])
    (d_named : Df K mg "named" s_named ["store"])
    (d_lw_pot : Df K mg "_law_pot" s_lw_pot ["_law_script", "_law_k"])
    (d_lw_draw : Df K mg "_law_draw" s_lw_draw ["_law_pot_here", "_law_many"])
    (d_lw_lot : Df K mg "_law_lot" s_lw_lot ["_law_pot_here", "_law_shelves", "_law_least"])
    (d_lw_kinds : Df K mg "_law_kinds" s_lw_kinds ["_law_pot_here", "_law_shelves", "_law_most"])
    (d_lw_told : Df K mg "_law_told" s_lw_told ["_law_kinds_here"])
    (d_lw_lots_right : Df K mg "_law_lots_right" s_lw_lots_right ["_law_pot_here"])
    (d_lw_moved : Df K mg "_law_moved" s_lw_moved ["_law_kinds_here", "_law_order_here"])
    (d_lw_is : Df K mg "_law_is" s_lw_is ["_law_store_here", "_law_shelves", "_law_deliveries", "_law_sales"])
    (d_lw_store : Df K mg "_law_store" s_lw_store ["_law_pot_here", "_law_most", "_law_kinds_here"])
    (d_lw_made_right : Df K mg "_law_made_right" s_lw_made_right ["_law_pot_here", "_law_one", "_law_world"])
    (d_lw_order : Df K mg "_law_order" s_lw_order ["_law_pot_here", "_law_shelves"])
    (d_lw_renamed_right : Df K mg "_law_renamed_right" s_lw_renamed_right ["_law_pot_here", "_law_one", "_law_world"])
    (d_lw_beside_right : Df K mg "_law_beside_right" s_lw_beside_right ["_law_one", "_law_world", "_law_other", "_law_far"])
    (d_law : Df K mg "law" s_law ["_law_script"])
    (z_isinstance : PySem.W.nsIn K mainGlobals "isinstance" = some none)
    (z_int : PySem.W.nsIn K mainGlobals "int" = some none)
    (z_bool : PySem.W.nsIn K mainGlobals "bool" = some none)
    (z_list : PySem.W.nsIn K mainGlobals "list" = some none)
    (z_tuple : PySem.W.nsIn K mainGlobals "tuple" = some none)
    (z_len : PySem.W.nsIn K mainGlobals "len" = some none)
    (z_sorted : PySem.W.nsIn K mainGlobals "sorted" = some none)
    (z_set : PySem.W.nsIn K mainGlobals "set" = some none)
    (z_all : PySem.W.nsIn K mainGlobals "all" = some none)
    (z_range : PySem.W.nsIn K mainGlobals "range" = some none)
    (z_max : PySem.W.nsIn K mainGlobals "max" = some none)
    (z_abs : PySem.W.nsIn K mainGlobals "abs" = some none)
    (z_divmod : PySem.W.nsIn K mainGlobals "divmod" = some none)
    (z_sum : PySem.W.nsIn K mainGlobals "sum" = some none)
    (z_repr : PySem.W.nsIn K mainGlobals "repr" = some none)
    (v1 : PySem.W.nsIn K mainGlobals "MOST_SHELVES" = some (some (.int 8 t1))) (v2 : PySem.W.nsIn K mainGlobals "LEAST_SHELVES" = some (some (.int 2 t2))) (v3 : PySem.W.nsIn K mainGlobals "MOST_KINDS" = some (some (.int 8 t3)))
    (aC : PySem.W.nsIn K mainGlobals "Store" = some (some (.ref C)))
    (mI : Mf K C "__init__" "Store.__init__" s_Stinit ["self", "shelves", "deliveries", "sales"])
    (mD : Mf K C "deliveries" "Store.deliveries" s_Stdeliveries ["self"])
    (mS : Mf K C "sales" "Store.sales" s_Stsales ["self"])
    (mE : Mf K C "__eq__" "Store.__eq__" s_Steq ["self", "other"])
    (mP : Pf K C)
    (pg : PySem.W.plainGet K C Str.empty = true)
    (hd : PySem.W.hasDictIn K C = true)
    (po : PySem.W.plainOver K C = true)
    (sa : PySem.W.findIn K (.ref C) "__setattr__" = some (some (.builtin "object.__setattr__")))
    (mk : PySem.W.makesIn K C = true)
    (kc : PySem.W.keepIn K (.ref C) = true)
    (n1 : PySem.W.findIn K (.ref C) "own_shelves" = some none)
    (n2 : PySem.W.findIn K (.ref C) "own_deliveries" = some none)
    (n3 : PySem.W.findIn K (.ref C) "own_sales" = some none)
    (n4 : PySem.W.findIn K (.ref C) "own_kept" = some none)
    (hc1 : PySem.W.findIn K (.ref C) "__class__" = some (some (.builtin "object.__class__")))
    (hc2 : PySem.W.specialIn K (.builtin "object.__class__") "__get__" = some (some (.builtin "getset_descriptor.__get__")))
    (hc3 : PySem.W.takesIn K (.builtin "object.__class__") = some true)
    (hc4 : PySem.W.mroIn K C (.type "object") = some true)
    (st : PySem.W.subIn K (.type "tuple") (.ref C) = some false)
    (it : PySem.W.kitOne K (.type "tuple") (.ref C) = some false)
    (io : PySem.W.kitOne K (.ref C) (.ref C) = some true) :
    ∃ fd : FuncData, (∀ (s : Shared) (u : Value), BindsTo s fd ⟨[u], []⟩ [("_law_script", u)]) ∧ ∀ b : Heap, K.In b → b.Ns mainGlobals mg → FnG l.prog w K mg b 11 fa fd ["_law_script"] (spLaw K) := by
  let T : Tx K mg := {
    is_integer := d_is_integer
    is_count := d_is_count
    is_list := d_is_list
    want_at_most := d_want_at_most
    are_shelves := d_are_shelves
    want_shelves := d_want_shelves
    is_lot_of := d_is_lot_of
    want_lot := d_want_lot
    bits_of := d_bits_of
    spots_of := d_spots_of
    told_lot := d_told_lot
    two_lots := d_two_lots
    joined := d_joined
    without := d_without
    common := d_common
    is_within := d_is_within
    is_kind := d_is_kind
    are_kinds := d_are_kinds
    plain_kinds := d_plain_kinds
    made := d_made
    want_store := d_want_store
    want_kind := d_want_kind
    want_delivery := d_want_delivery
    want_sale := d_want_sale
    want_order := d_want_order
    with_delivery := d_with_delivery
    with_sale := d_with_sale
    without_delivery := d_without_delivery
    without_sale := d_without_sale
    moved := d_moved
    renamed := d_renamed
    beside := d_beside
    named := d_named
    lw_pot := d_lw_pot
    lw_draw := d_lw_draw
    lw_lot := d_lw_lot
    lw_kinds := d_lw_kinds
    lw_told := d_lw_told
    lw_lots_right := d_lw_lots_right
    lw_moved := d_lw_moved
    lw_is := d_lw_is
    lw_store := d_lw_store
    lw_made_right := d_lw_made_right
    lw_order := d_lw_order
    lw_renamed_right := d_lw_renamed_right
    lw_beside_right := d_lw_beside_right
    law := d_law
    b_isinstance := PySem.W.mg_none_of X G z_isinstance
    b_int := PySem.W.mg_none_of X G z_int
    b_bool := PySem.W.mg_none_of X G z_bool
    b_list := PySem.W.mg_none_of X G z_list
    b_tuple := PySem.W.mg_none_of X G z_tuple
    b_len := PySem.W.mg_none_of X G z_len
    b_sorted := PySem.W.mg_none_of X G z_sorted
    b_set := PySem.W.mg_none_of X G z_set
    b_all := PySem.W.mg_none_of X G z_all
    b_range := PySem.W.mg_none_of X G z_range
    b_max := PySem.W.mg_none_of X G z_max
    b_abs := PySem.W.mg_none_of X G z_abs
    b_divmod := PySem.W.mg_none_of X G z_divmod
    b_sum := PySem.W.mg_none_of X G z_sum
    b_repr := PySem.W.mg_none_of X G z_repr
    mostS := ⟨t1, PySem.W.mg_of X G v1⟩
    leastS := ⟨t2, PySem.W.mg_of X G v2⟩
    mostK := ⟨t3, PySem.W.mg_of X G v3⟩
    C := C
    gC := PySem.W.mg_of X G aC
    cl := ⟨pg, hd, po, sa⟩
    n1 := n1
    n2 := n2
    n3 := n3
    n4 := n4
    fI := mI.f
    fdI := mI.fd
    FI := mI.F
    bI := mI.b
    MI := ⟨mk, mI.a, mI.i, kc⟩
    fD := mD.f
    fdD := mD.fd
    FD := mD.F
    bD := mD.b
    MD := ⟨mD.a, mD.i, mD.F.kp⟩
    fS := mS.f
    fdS := mS.fd
    FS := mS.F
    bS := mS.b
    MS := ⟨mS.a, mS.i, mS.F.kp⟩
    fE := mE.f
    fdE := mE.fd
    FE := mE.F
    bE := mE.b
    aE := mE.a
    iE := mE.i
    pP := mP.p
    fP := mP.f
    fdP := mP.fd
    FP := mP.F
    bP := mP.b
    PP := mP.P
    hc1 := hc1
    hc2 := hc2
    hc3 := hc3
    hc4 := hc4
    st := st
    it := it
    io := io }
  have e : fa = d_law.f := by
    have e := hfa.symm.trans d_law.g
    exact (Value.ref.inj (Option.some.inj e))
  rw [e]
  refine ⟨d_law.fd, fun s v => ?_, fun b _ _ => ok_law T⟩
  obtain ⟨oc, od, kV, doc, pm, an, cdv, ct, osl, e, _, _⟩ := d_law.F.ex
  rw [e]
  exact .of_eq rfl
end TA
set_option maxHeartbeats 0
open PySem PySem.W PyProof.Rows
open_top hd for PySem.Challenge.rw_twoabove_k11_whole_stores_made_of_stores

open PySem PySem.W PyProof.Rows
theorem PySem.Challenge.cw_twoabove_k11_whole_stores_made_of_stores_holds : PySem.Challenge.rw_twoabove_k11_whole_stores_made_of_stores.Holds :=
  hd (by
    k_fill
    refine TA.walkG (l := PySem.Challenge.rw_twoabove_k11_whole_stores_made_of_stores) (n := 63) (k := 11) (x := "_law_script") (sp := fun w => TA.spLaw _) rfl (by decide) rfl ⟨rfl, by decide, by decide⟩ (fun w h Y => PySem.W.kIn_of Y) ?F (fun _ _ a ns hS => ⟨a, ns, rfl, hS, fun _ => rfl⟩)
    case F =>
      intro w mg fa h KX G hmg
      refine' TA.all_mk (l := PySem.Challenge.rw_twoabove_k11_whole_stores_made_of_stores) (w := w) KX G hmg ?d_is_integer ?d_is_count ?d_is_list ?d_want_at_most ?d_are_shelves ?d_want_shelves ?d_is_lot_of ?d_want_lot ?d_bits_of ?d_spots_of ?d_told_lot ?d_two_lots ?d_joined ?d_without ?d_common ?d_is_within ?d_is_kind ?d_are_kinds ?d_plain_kinds ?d_made ?d_want_store ?d_want_kind ?d_want_delivery ?d_want_sale ?d_want_order ?d_with_delivery ?d_with_sale ?d_without_delivery ?d_without_sale ?d_moved ?d_renamed ?d_beside ?d_named ?d_lw_pot ?d_lw_draw ?d_lw_lot ?d_lw_kinds ?d_lw_told ?d_lw_lots_right ?d_lw_moved ?d_lw_is ?d_lw_store ?d_lw_made_right ?d_lw_order ?d_lw_renamed_right ?d_lw_beside_right ?d_law ?z_isinstance ?z_int ?z_bool ?z_list ?z_tuple ?z_len ?z_sorted ?z_set ?z_all ?z_range ?z_max ?z_abs ?z_divmod ?z_sum ?z_repr ?v1 ?v2 ?v3 ?aC ?mI ?mD ?mS ?mE ?mP ?pg ?hd ?po ?sa ?mk ?kc ?n1 ?n2 ?n3 ?n4 ?hc1 ?hc2 ?hc3 ?hc4 ?st ?it ?io
      (case aC => k_is)
      (case d_is_integer => refine' TA.df_of KX G TA.bn_is_integer ?a ?l ?c ?k; (case a => k_is); (case l => k_is); (case c => k_is); (case k => k_is))
      (case d_is_count => refine' TA.df_of KX G TA.bn_is_count ?a ?l ?c ?k; (case a => k_is); (case l => k_is); (case c => k_is); (case k => k_is))
      (case d_is_list => refine' TA.df_of KX G TA.bn_is_list ?a ?l ?c ?k; (case a => k_is); (case l => k_is); (case c => k_is); (case k => k_is))
      (case d_want_at_most => refine' TA.df_of KX G TA.bn_want_at_most ?a ?l ?c ?k; (case a => k_is); (case l => k_is); (case c => k_is); (case k => k_is))
      (case d_are_shelves => refine' TA.df_of KX G TA.bn_are_shelves ?a ?l ?c ?k; (case a => k_is); (case l => k_is); (case c => k_is); (case k => k_is))
      (case d_want_shelves => refine' TA.df_of KX G TA.bn_want_shelves ?a ?l ?c ?k; (case a => k_is); (case l => k_is); (case c => k_is); (case k => k_is))
      (case d_is_lot_of => refine' TA.df_of KX G TA.bn_is_lot_of ?a ?l ?c ?k; (case a => k_is); (case l => k_is); (case c => k_is); (case k => k_is))
      (case d_want_lot => refine' TA.df_of KX G TA.bn_want_lot ?a ?l ?c ?k; (case a => k_is); (case l => k_is); (case c => k_is); (case k => k_is))
      (case d_bits_of => refine' TA.df_of KX G TA.bn_bits_of ?a ?l ?c ?k; (case a => k_is); (case l => k_is); (case c => k_is); (case k => k_is))
      (case d_spots_of => refine' TA.df_of KX G TA.bn_spots_of ?a ?l ?c ?k; (case a => k_is); (case l => k_is); (case c => k_is); (case k => k_is))
      (case d_told_lot => refine' TA.df_of KX G TA.bn_told_lot ?a ?l ?c ?k; (case a => k_is); (case l => k_is); (case c => k_is); (case k => k_is))
      (case d_two_lots => refine' TA.df_of KX G TA.bn_two_lots ?a ?l ?c ?k; (case a => k_is); (case l => k_is); (case c => k_is); (case k => k_is))
      (case d_joined => refine' TA.df_of KX G TA.bn_joined ?a ?l ?c ?k; (case a => k_is); (case l => k_is); (case c => k_is); (case k => k_is))
      (case d_without => refine' TA.df_of KX G TA.bn_without ?a ?l ?c ?k; (case a => k_is); (case l => k_is); (case c => k_is); (case k => k_is))
      (case d_common => refine' TA.df_of KX G TA.bn_common ?a ?l ?c ?k; (case a => k_is); (case l => k_is); (case c => k_is); (case k => k_is))
      (case d_is_within => refine' TA.df_of KX G TA.bn_is_within ?a ?l ?c ?k; (case a => k_is); (case l => k_is); (case c => k_is); (case k => k_is))
      (case d_is_kind => refine' TA.df_of KX G TA.bn_is_kind ?a ?l ?c ?k; (case a => k_is); (case l => k_is); (case c => k_is); (case k => k_is))
      (case d_are_kinds => refine' TA.df_of KX G TA.bn_are_kinds ?a ?l ?c ?k; (case a => k_is); (case l => k_is); (case c => k_is); (case k => k_is))
      (case d_plain_kinds => refine' TA.df_of KX G TA.bn_plain_kinds ?a ?l ?c ?k; (case a => k_is); (case l => k_is); (case c => k_is); (case k => k_is))
      (case d_made => refine' TA.df_of KX G TA.bn_made ?a ?l ?c ?k; (case a => k_is); (case l => k_is); (case c => k_is); (case k => k_is))
      (case d_want_store => refine' TA.df_of KX G TA.bn_want_store ?a ?l ?c ?k; (case a => k_is); (case l => k_is); (case c => k_is); (case k => k_is))
      (case d_want_kind => refine' TA.df_of KX G TA.bn_want_kind ?a ?l ?c ?k; (case a => k_is); (case l => k_is); (case c => k_is); (case k => k_is))
      (case d_want_delivery => refine' TA.df_of KX G TA.bn_want_delivery ?a ?l ?c ?k; (case a => k_is); (case l => k_is); (case c => k_is); (case k => k_is))
      (case d_want_sale => refine' TA.df_of KX G TA.bn_want_sale ?a ?l ?c ?k; (case a => k_is); (case l => k_is); (case c => k_is); (case k => k_is))
      (case d_want_order => refine' TA.df_of KX G TA.bn_want_order ?a ?l ?c ?k; (case a => k_is); (case l => k_is); (case c => k_is); (case k => k_is))
      (case d_with_delivery => refine' TA.df_of KX G TA.bn_with_delivery ?a ?l ?c ?k; (case a => k_is); (case l => k_is); (case c => k_is); (case k => k_is))
      (case d_with_sale => refine' TA.df_of KX G TA.bn_with_sale ?a ?l ?c ?k; (case a => k_is); (case l => k_is); (case c => k_is); (case k => k_is))
      (case d_without_delivery => refine' TA.df_of KX G TA.bn_without_delivery ?a ?l ?c ?k; (case a => k_is); (case l => k_is); (case c => k_is); (case k => k_is))
      (case d_without_sale => refine' TA.df_of KX G TA.bn_without_sale ?a ?l ?c ?k; (case a => k_is); (case l => k_is); (case c => k_is); (case k => k_is))
      (case d_moved => refine' TA.df_of KX G TA.bn_moved ?a ?l ?c ?k; (case a => k_is); (case l => k_is); (case c => k_is); (case k => k_is))
      (case d_renamed => refine' TA.df_of KX G TA.bn_renamed ?a ?l ?c ?k; (case a => k_is); (case l => k_is); (case c => k_is); (case k => k_is))
      (case d_beside => refine' TA.df_of KX G TA.bn_beside ?a ?l ?c ?k; (case a => k_is); (case l => k_is); (case c => k_is); (case k => k_is))
      (case d_named => refine' TA.df_of KX G TA.bn_named ?a ?l ?c ?k; (case a => k_is); (case l => k_is); (case c => k_is); (case k => k_is))
      (case d_lw_pot => refine' TA.df_of KX G TA.bn_lw_pot ?a ?l ?c ?k; (case a => k_is); (case l => k_is); (case c => k_is); (case k => k_is))
      (case d_lw_draw => refine' TA.df_of KX G TA.bn_lw_draw ?a ?l ?c ?k; (case a => k_is); (case l => k_is); (case c => k_is); (case k => k_is))
      (case d_lw_lot => refine' TA.df_of KX G TA.bn_lw_lot ?a ?l ?c ?k; (case a => k_is); (case l => k_is); (case c => k_is); (case k => k_is))
      (case d_lw_kinds => refine' TA.df_of KX G TA.bn_lw_kinds ?a ?l ?c ?k; (case a => k_is); (case l => k_is); (case c => k_is); (case k => k_is))
      (case d_lw_told => refine' TA.df_of KX G TA.bn_lw_told ?a ?l ?c ?k; (case a => k_is); (case l => k_is); (case c => k_is); (case k => k_is))
      (case d_lw_lots_right => refine' TA.df_of KX G TA.bn_lw_lots_right ?a ?l ?c ?k; (case a => k_is); (case l => k_is); (case c => k_is); (case k => k_is))
      (case d_lw_moved => refine' TA.df_of KX G TA.bn_lw_moved ?a ?l ?c ?k; (case a => k_is); (case l => k_is); (case c => k_is); (case k => k_is))
      (case d_lw_is => refine' TA.df_of KX G TA.bn_lw_is ?a ?l ?c ?k; (case a => k_is); (case l => k_is); (case c => k_is); (case k => k_is))
      (case d_lw_store => refine' TA.df_of KX G TA.bn_lw_store ?a ?l ?c ?k; (case a => k_is); (case l => k_is); (case c => k_is); (case k => k_is))
      (case d_lw_made_right => refine' TA.df_of KX G TA.bn_lw_made_right ?a ?l ?c ?k; (case a => k_is); (case l => k_is); (case c => k_is); (case k => k_is))
      (case d_lw_order => refine' TA.df_of KX G TA.bn_lw_order ?a ?l ?c ?k; (case a => k_is); (case l => k_is); (case c => k_is); (case k => k_is))
      (case d_lw_renamed_right => refine' TA.df_of KX G TA.bn_lw_renamed_right ?a ?l ?c ?k; (case a => k_is); (case l => k_is); (case c => k_is); (case k => k_is))
      (case d_lw_beside_right => refine' TA.df_of KX G TA.bn_lw_beside_right ?a ?l ?c ?k; (case a => k_is); (case l => k_is); (case c => k_is); (case k => k_is))
      (case d_law => refine' TA.df_of KX G TA.bn_law ?a ?l ?c ?k; (case a => k_is); (case l => k_is); (case c => k_is); (case k => k_is))
      (case z_isinstance => k_is)
      (case z_int => k_is)
      (case z_bool => k_is)
      (case z_list => k_is)
      (case z_tuple => k_is)
      (case z_len => k_is)
      (case z_sorted => k_is)
      (case z_set => k_is)
      (case z_all => k_is)
      (case z_range => k_is)
      (case z_max => k_is)
      (case z_abs => k_is)
      (case z_divmod => k_is)
      (case z_sum => k_is)
      (case z_repr => k_is)
      (case v1 => k_is)
      (case v2 => k_is)
      (case v3 => k_is)
      (case mI => refine' TA.mf_of TA.bn_cI ?a ?i ?l ?c ?k; (case a => k_is); (case i => k_is); (case l => k_is); (case c => k_is); (case k => k_is))
      (case mD => refine' TA.mf_of TA.bn_cD ?a ?i ?l ?c ?k; (case a => k_is); (case i => k_is); (case l => k_is); (case c => k_is); (case k => k_is))
      (case mS => refine' TA.mf_of TA.bn_cS ?a ?i ?l ?c ?k; (case a => k_is); (case i => k_is); (case l => k_is); (case c => k_is); (case k => k_is))
      (case mE => refine' TA.mf_of TA.bn_cE ?a ?i ?l ?c ?k; (case a => k_is); (case i => k_is); (case l => k_is); (case c => k_is); (case k => k_is))
      (case mP => refine' TA.pf_of TA.bn_cP ?a ?g1 ?g2 ?g3 ?g4 ?l ?c ?k; (case a => k_is); (case g1 => k_is); (case g2 => k_is); (case g3 => k_is); (case g4 => rfl); (case l => k_is); (case c => k_is); (case k => k_is))
      (case pg => k_is)
      (case hd => k_is)
      (case po => k_is)
      (case sa => k_is)
      (case mk => k_is)
      (case kc => k_is)
      (case n1 => k_is)
      (case n2 => k_is)
      (case n3 => k_is)
      (case n4 => k_is)
      (case hc1 => k_is)
      (case hc2 => k_is)
      (case hc3 => k_is)
      (case hc4 => k_is)
      (case st => k_is)
      (case it => kit_is)
      (case io => kit_is)
    )
