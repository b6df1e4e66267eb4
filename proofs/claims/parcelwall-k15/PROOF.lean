import PyProof.Rows.All
import Wide.All
import OpenK.AllK
import Wide.FinOn
import KE.KStateDown
import HandS.ForMost
import HandS.ForExc
import HandS.Defaults
import HandS.TryMany
import HandS.SortRule
import HandS.SortInts
import HandS.SetFor
import HandS.More
import HandS.IsInst
import HandS.ExcIs
import HandS.Zip
import HandS.Evl
import HandS.Head0
import HandS.Head1
import HandS.Head2
import HandS.HeadEnd
import HandS.HeadHook1
import HandS.HeadHook2
import HandS.HeadHook3
import HandS.HeadHook4
import HandS.Conv
import HandS.Walk
import HandS.Codes
import HandS.SuiteRaise
import KE.KMinKey
import HandS.HotCalls
import PySem.Challenge.RW_parcelwall_k15_refusals_apart
set_option Elab.async false
set_option linter.all false
set_option maxRecDepth 100000
set_option maxHeartbeats 4000000
open PySem PySem.Spec PyProof.Rows L2
namespace Pw
/-! ### readings by short names -/
abbrev rAddI : R2 := rI0 fun i j => .int (i + j)
abbrev rSubI : R2 := rI0 fun i j => .int (i - j)
abbrev rMulI : R2 := rI CMul fun i j => .int (i * j)
abbrev rModP : R2 := rI (fun _ j => 0 < j) fun i j => .int (i % j)
abbrev rModN : R2 := rI (fun _ j => j ≠ 0) fun i j => .int (i.fmod j)
abbrev rDivP : R2 := rI CDiv fun i j => .int (i / j)
abbrev rPow : R2 := rI CPow fun i j => .int (i ^ j.toNat)
abbrev rNeg : V → Hp → VK → Prop := rU fun i => .int (-i)
abbrev rLt : R2 := rI0 fun i j => .bl (decide (i < j))
abbrev rLe : R2 := rI0 fun i j => .bl (decide (i ≤ j))
abbrev rGt : R2 := rI0 fun i j => .bl (decide (j < i))
abbrev rGe : R2 := rI0 fun i j => .bl (decide (j ≤ i))
abbrev rAddS : R2 := fun x y H Q => ∃ i j, x = .str i ∧ y = .str j ∧ i.length + j.length ≤ sizeLine ∧ Q (.str (i ++ j)) H
abbrev rIsNone : R2 := fun x y H Q => y = .non ∧ Q (.bl (decide (x = .non))) H
abbrev rNotNone : R2 := fun x y H Q => y = .non ∧ Q (.bl (!decide (x = .non))) H
abbrev rInSign : R2 := fun x y H Q => ∃ (c : Nat) (z : Str), x = .str ⟨#[c]⟩ ∧ y = .str z ∧ Q (.bl (decide (c ∈ z.cps.toList))) H
abbrev rNotInSign : R2 := fun x y H Q => ∃ (c : Nat) (z : Str), x = .str ⟨#[c]⟩ ∧ y = .str z ∧ Q (.bl (!decide (c ∈ z.cps.toList))) H
abbrev rLenSeq (K : PySem.W.Frag) : List V → Hp → VK → Prop := fun xs H Q => ∃ p ys, xs = [.ref p] ∧ (SqL K H p ys ∨ SqT K H p ys) ∧ Q (.int ys.length) H
abbrev rListOf (K : PySem.W.Frag) : List V → Hp → VK → Prop := fun xs H Q => ∃ p ys, xs = [.ref p] ∧ (SqL K H p ys ∨ SqT K H p ys) ∧ ∀ l, H l = none → Q (.ref l) (upd H l (.lst ys))
abbrev rLenStr : List V → Hp → VK → Prop := fun xs H Q => ∃ z, xs = [.str z] ∧ z.length ≤ sizeLine ∧ Q (.int z.length) H
abbrev rMax2 : List V → Hp → VK → Prop := fun xs H Q => ∃ i j, xs = [.int i, .int j] ∧ Q (.int (if j > i then j else i)) H
abbrev rMin2 : List V → Hp → VK → Prop := fun xs H Q => ∃ i j, xs = [.int i, .int j] ∧ Q (.int (if j < i then j else i)) H
abbrev rInsert : V → List V → Hp → VK → Prop := fun x vs H Q => ∃ (l : Addr) (xs : List V) (i : Int) (y : V), x = .ref l ∧ vs = [.int i, y] ∧ H l = some (.lst xs) ∧ xs.length < sizeLine ∧ 0 ≤ i ∧ i < 2 ^ 63 ∧ Q .non (upd H l (.lst (xs.take i.toNat ++ [y] ++ xs.drop i.toNat)))
abbrev rStrInt : List V → Hp → VK → Prop := fun xs H Q => ∃ i, xs = [.int i] ∧ i.natAbs.log2 < 1920 ∧ Q (.str (toString i)) H
abbrev rIntStr : List V → Hp → VK → Prop := fun xs H Q => ∃ a n, xs = [.str a] ∧ PySem.intText? a = some n ∧ a.length ≤ 640 ∧ Q (.int n) H
abbrev rJoin (K : PySem.W.Frag) : V → List V → Hp → VK → Prop := fun x xs H Q => ∃ a p, ∃ ys : List Str, x = .str a ∧ xs = [.ref p] ∧ (SqL K H p (ys.map V.str) ∨ SqT K H p (ys.map V.str)) ∧ (ys.map (·.length)).sum + ys.length * a.length ≤ 16777216 ∧ Q (.str (Txt.join a ys)) H
abbrev tRaise (E : XK) (C : Addr) : TS := fun _ _ H => E (.ref C) none H
/-! ### rules: a method's call, an instance made, within a try -/
/-- o.m(e, ..) within a try: what it raises is wished for at the slots as they stand -/
def tMethS (C : Addr) (m : Str) (sp : Sp) (E : L2.St → XK) (ta : TE) (t : TA) : TE := fun σ H Q => ta σ H fun x H1 => ∃ a dx fs, x = .ref a ∧ H1 a = some (.ins C dx fs) ∧ fs.lookup m = none ∧ t σ H1 fun vs H2 => sp (x :: vs) H2 Q (E σ)
theorem pe_methS {X : Cx} {CX : CXT} {k : Nat} {f C : Addr} {fd : FuncData} {ps : List Str} {sp : Sp} {E : L2.St → XK} {m : Str} {pos apos : Pos} {e o : Expr} {es : List Expr} {ta : TE} {t : TA} {pl : Sem Bool} (he : PE X o ta) (c : Cls X.K C) (hm : Meth X.K C m f)
    (F : FnOk X.prog X.w X.K X.mg X.base CX k f fd ps sp) (hr : Room k X.A) (hb : Binds X.K fd ps []) (hx : ∀ σ, PassesAt CX X σ (E σ)) (ha : PA X (e :: es) t)
    (hst : starEach (e :: es) X.env = (false, eval e X.env) :: starEach es X.env := by rfl) (hpl : (backTo pos (starEach es X.env)).any (·.1) = false := by rfl)
    (ht : eval (.Call (.Attribute o m apos) (e :: es) [] pos) X.env = (do
      let ov ← eval o X.env
      standAt apos.atName
      let (f, first) ← holding [ov] (getMethod ov m pl)
      callWith pos f first (backTo pos (starEach (e :: es) X.env)) (backToKw pos (keywordEach [] X.env))) := by rfl) :
    PE X (.Call (.Attribute o m apos) (e :: es) [] pos) (tMethS C m sp E ta t) := by
  refine ⟨fun pins s σ H Q I h => ?_⟩
  refine PySem.W.methodCall_KW (pl := pl) (thn (he.run pins s σ H _ I h) fun u s1 ⟨x, H1, I1, rx, a, dx, fs, ex, ea, l, q⟩ => ?_) ht
  subst ex
  obtain rfl : u = Value.ref a := rx
  refine getmeth_ok I1 ea c hm l ?_
  refine PySem.W.callWith_K (first := [.ref a]) (h₀ := X.base) I.ok.mod.kin hm.kp (thn (ha.run pos pins s1 σ H1 _ I1 q) fun us s2 ⟨vs, H2, I2, r, q2⟩ => ⟨I2.kIn, ?_⟩) hst hpl
  exact run_fnS (us := .ref a :: us) (vs := .ref a :: vs) F hr hb (hx σ) I2 (.cons rfl r) q2
/-! ### small words -/
theorem ifD {c A B : Prop} [Decidable c] (h1 : c → A) (h2 : ¬ c → B) : if decide c = true then A else B := by
  by_cases h : c
  · rw [decide_eq_true h, if_pos rfl]; exact h1 h
  · rw [decide_eq_false h, if_neg Bool.false_ne_true]; exact h2 h
theorem ifN {c A B : Prop} [Decidable c] (h1 : ¬ c → A) (h2 : c → B) : if (!decide c) = true then A else B := by
  by_cases h : c
  · rw [decide_eq_true h]; exact iteF (h2 h)
  · rw [decide_eq_false h]; exact iteT (h1 h)
theorem ifB {b : Bool} {A B : Prop} (h1 : b = true → A) (h2 : b = false → B) : if b = true then A else B := by
  cases b with
  | true => exact iteT (h1 rfl)
  | false => exact iteF (h2 rfl)
theorem ifNB {b : Bool} {A B : Prop} (h1 : b = false → A) (h2 : b = true → B) : if (!b) = true then A else B := by
  cases b with
  | true => exact iteF (h2 rfl)
  | false => exact iteT (h1 rfl)
theorem ifIs {b : Bool} {A B : Prop} (h : b = true) (a : A) : if b = true then A else B := by rw [h]; exact iteT a
theorem ifNo {b : Bool} {A B : Prop} (h : b = false) (a : B) : if b = true then A else B := by rw [h]; exact iteF a
/-! ### heaps -/
theorem updOld {H : Hp} {a p : Addr} {o u : HO} (h : H a = some o) (hp : H p = none) : upd H p u a = some o := by rw [upd_ne (ne_of_none h hp)]; exact h
theorem updNe {H : Hp} {a p : Addr} {o u : HO} (h : H a = some o) (hp : a ≠ p) : upd H p u a = some o := by rw [upd_ne hp]; exact h
theorem updFree {H : Hp} {p q : Addr} {o : HO} (h : upd H p o q = none) : H q = none := by
  by_cases e : q = p
  · subst e; rw [upd_same] at h; cases h
  · rw [upd_ne e] at h; exact h
theorem updFreeNe {H : Hp} {p q : Addr} {o : HO} (h : upd H p o q = none) : q ≠ p := fun e => by
  subst e; rw [upd_same] at h; cases h
theorem sameNew {H0 H : Hp} {p : Addr} {o : HO} (s : Same H0 H) (hp : H p = none) : Same H0 (upd H p o) := fun b u e => updOld (s b u e) hp
theorem sameMut {H0 H : Hp} {p : Addr} {o : HO} (s : Same H0 H) (hp : H0 p = none) : Same H0 (upd H p o) := fun b u e => by
  rw [upd_ne (ne_of_none e hp)]; exact s b u e
theorem sameGet {H H' : Hp} {a : Addr} {o : HO} (s : Same H H') (h : H a = some o) : H' a = some o := s a o h
/-! ### places in a list -/
theorem atI_of {xs : List V} {z : Int} {j : Nat} {v : V} (e : z = (j : Int)) (h : xs[j]? = some v) : atI xs z = some v := at_of e h
theorem mapGet {α : Type} {f : α → V} {xs : List α} {i : Nat} {v : V} (h : (xs.map f)[i]? = some v) : ∃ x, xs[i]? = some x ∧ v = f x := by
  rw [List.getElem?_map] at h
  cases e : xs[i]? with
  | none => rw [e] at h; cases h
  | some x => rw [e] at h; exact ⟨x, rfl, (Option.some.inj h).symm⟩
theorem getMap {α : Type} {f : α → V} {xs : List α} {i : Nat} {x : α} (h : xs[i]? = some x) : (xs.map f)[i]? = some (f x) := by
  rw [List.getElem?_map, h]; rfl
theorem atMap {α : Type} {f : α → V} {xs : List α} (d : α) {z : Int} (h0 : 0 ≤ z) (h1 : z < xs.length) : atI (xs.map f) z = some (f (xs.getD z.toNat d)) := by
  obtain ⟨x, hx⟩ : ∃ x, xs[z.toNat]? = some x := ⟨xs[z.toNat]'(by omega), List.getElem?_eq_getElem (by omega)⟩
  have e : xs.getD z.toNat d = x := by rw [List.getD_eq_getElem?_getD, hx]; rfl
  rw [e]
  exact at_of (j := z.toNat) (by omega) (getMap hx)
theorem atInt {xs : List Int} {z : Int} (h0 : 0 ≤ z) (h1 : z < xs.length) : atI (xs.map V.int) z = some (V.int (xs.getD z.toNat 0)) := atMap 0 h0 h1
theorem takeMore {α : Type} : ∀ {l : List α} {i : Nat} {x : α}, l[i]? = some x → l.take (i + 1) = l.take i ++ [x]
  | [], i, x, h => by simp at h
  | a :: l, 0, x, h => by
    have e : a = x := Option.some.inj h
    subst e; rfl
  | a :: l, i + 1, x, h => by
    have ih := takeMore (l := l) (i := i) (x := x) h
    show a :: l.take (i + 1) = a :: l.take i ++ [x]
    rw [ih]; rfl
theorem szLe {n : Nat} (h : n ≤ 100000) : n ≤ sizeLine := Nat.le_trans h (by decide)
theorem szLt {n : Nat} (h : n < 100000) : n < sizeLine := Nat.lt_of_lt_of_le h (by decide)
theorem getLt {α : Type} {xs : List α} {i : Nat} {x : α} (h : xs[i]? = some x) : i < xs.length := (List.getElem?_eq_some_iff.mp h).1
theorem getOf {α : Type} {xs : List α} {i : Nat} (h : i < xs.length) : ∃ x, xs[i]? = some x := ⟨xs[i], List.getElem?_eq_getElem h⟩
/-! ### a def of the text that holds its promise -/
def OkF (P : Program) (w : World) (K : PySem.W.Frag) (mg : Str → Option Value) (base : Heap) (CX : CXT) (k : Nat) (f : Addr) (ps : List Str) (sp : Sp) : Prop :=
  ∃ fd : FuncData, FnOk P w K mg base CX k f fd ps sp ∧ Binds K fd ps [] ∧ PySem.W.keepIn K (.ref f) = true
end Pw
namespace Pw
/-! ### the wall's class -/
structure TW (K : PySem.W.Frag) : Prop where
  cl : Cls K (He.ga K "Wall")
  nb : NoAttr K (He.ga K "Wall") "boxes"
  ni : NoAttr K (He.ga K "Wall") "inside"
  np : NoAttr K (He.ga K "Wall") "parcels"
  nt : NoAttr K (He.ga K "Wall") "today"
end Pw
namespace Pw
/-! ### loops behind a word that does not open by itself -/
@[irreducible] def ForG (J : It) (g : TG) (tb : TS) (D : Ends) (σ : L2.St) (H1 : Hp) : Prop := ∃ W : Nat → Nat → L2.St → Hp → Prop, (∃ m, W 0 m σ H1) ∧ ∀ i m σ H, W i m σ H →
  (J.stop i H ∧ D.nx σ H) ∨ (J.go i H ∧ ∃ N : L2.St → Hp → Prop, (∀ σ' H', N σ' H' → ∃ m', m' < m ∧ W (i + 1) m' σ' H') ∧ ∀ x H', J.yld i H x H' → g x σ H' fun σ2 H2 => tb { D with nx := N, ct := N, bk := D.nx } σ2 H2)
def tForP (wi : TI) (g : TG) (tb : TS) : TS := fun D σ H => wi σ H fun J H1 => ForG J g tb D σ H1
theorem tForP_eq (wi : TI) (g : TG) (tb : TS) : tForP wi g tb = tFor wi g tb := by
  funext D σ H
  unfold tForP tFor ForG
  rfl
theorem ps_forP {X : Cx} {tg iter : Expr} {body : List Stmt} {wi : TI} {g : TG} {tb : TS} {pos : Pos} (hp : PassesOwn (model X.prog X.w) X.A X.env X.xe) (hc : X.calm = true) (hi : PI X tg iter wi) (hg : PG X tg g) (hb : PSs X body tb)
    (hs : ∀ x, foldedSetIterable iter X.env x = pure x := by intro _; rfl) : PS X (.For tg iter body [] pos) (tForP wi g tb) := by
  rw [tForP_eq]
  exact ps_for hp hc hi hg hb hs
@[irreducible] def WhileG (tc : TT) (tb : TS) (D : Ends) (σ : L2.St) (H : Hp) : Prop := tWhile tc tb D σ H
def tWhileP (tc : TT) (tb : TS) : TS := fun D σ H => WhileG tc tb D σ H
theorem tWhileP_eq (tc : TT) (tb : TS) : tWhileP tc tb = tWhile tc tb := by
  funext D σ H
  unfold tWhileP WhileG
  rfl
theorem ps_whileP {X : Cx} {pos : Pos} {c : Expr} {body : List Stmt} {tc : TT} {tb : TS} (hp : PassesOwn (model X.prog X.w) X.A X.env X.xe) (hc : PT X c tc) (hb : PSs X body tb) : PS X (.While c body [] pos) (tWhileP tc tb) := by
  rw [tWhileP_eq]
  exact ps_while hp hc hb
section
variable {K : PySem.W.Frag} {g : TG} {tb : TS} {D : Ends} {σ : L2.St} {H : Hp}
theorem forList {a : Addr} {xs : List V} (Pv : Nat → L2.St → Hp → Prop) (h0 : Pv 0 σ H) (hl : ∀ i σ H, i ≤ xs.length → Pv i σ H → SqL K H a xs)
    (hs : ∀ i x σ H, xs[i]? = some x → Pv i σ H → g x σ H fun σ2 H2 => tb { D with nx := Pv (i + 1), ct := Pv (i + 1), bk := D.nx } σ2 H2) (hd : ∀ σ H, Pv xs.length σ H → D.nx σ H) : ForG (Itl K a) g tb D σ H := by
  unfold ForG
  exact for_list Pv h0 hl hs hd
theorem forTup {a : Addr} {xs : List V} (Pv : Nat → L2.St → Hp → Prop) (h0 : Pv 0 σ H) (hl : ∀ i σ H, i ≤ xs.length → Pv i σ H → SqT K H a xs)
    (hs : ∀ i x σ H, xs[i]? = some x → Pv i σ H → g x σ H fun σ2 H2 => tb { D with nx := Pv (i + 1), ct := Pv (i + 1), bk := D.nx } σ2 H2) (hd : ∀ σ H, Pv xs.length σ H → D.nx σ H) : ForG (Itt K a) g tb D σ H := by
  unfold ForG
  exact for_tup Pv h0 hl hs hd
theorem forRange {lo : Int} {n : Nat} (Pv : Nat → L2.St → Hp → Prop) (h0 : Pv 0 σ H)
    (hs : ∀ i σ H, i < n → Pv i σ H → g (.int (lo + i)) σ H fun σ2 H2 => tb { D with nx := Pv (i + 1), ct := Pv (i + 1), bk := D.nx } σ2 H2) (hd : ∀ σ H, Pv n σ H → D.nx σ H) : ForG (Itr lo n) g tb D σ H := by
  unfold ForG
  exact for_range Pv h0 hs hd
end
/-! ### comprehensions whose elements are known values -/
section
variable {K : PySem.W.Frag} {tt : TT} {te : TE} {vs : List Nat} {j : Nat} {σ : L2.St} {H1 : Hp} {D : Addr} {Qd : Hp → Prop}
theorem filterTake {α β : Type} {ns : List α} {p : α → Bool} {f : α → β} {i : Nat} {n : α} (h : ns[i]? = some n) : ((ns.take (i + 1)).filter p).map f = ((ns.take i).filter p).map f ++ (if p n = true then [f n] else []) := by
  rw [takeMore h, List.filter_append, List.map_append]
  congr 1
  by_cases c : p n = true
  · rw [if_pos c]; simp [c]
  · rw [if_neg c]; simp [c]
/-- [f(n) for n in ns if p(n)] -/
theorem lcMap {α : Type} {inj : α → V} {a : Addr} {ns : List α} (p : α → Bool) (f : α → V) (hD : H1 D = none) (hx : SqL K H1 a (ns.map inj)) (hlen : ns.length ≤ 50000) (hw : ∀ x, wipe ((wipe σ vs).set j (some x)) vs = wipe σ vs)
    (ht : ∀ (i : Nat) (n : α) H', ns[i]? = some n → Same H1 H' → ∀ T : Bool → Hp → Prop, (∀ H'', Same H' H'' → T (p n) H'') → tt ((wipe σ vs).set j (some (inj n))) H' T)
    (he : ∀ (i : Nat) (n : α) H', ns[i]? = some n → p n = true → Same H1 H' → ∀ Qv : VK, (∀ H'', Same H' H'' → Qv (f n) H'') → te ((wipe σ vs).set j (some (inj n))) H' Qv)
    (hd : ∀ H', Same H1 H' → H' D = some (.lst ((ns.filter p).map f)) → Qd H') :
    ∃ W : Nat → Nat → Hp → Prop, (∃ m, W 0 m (upd H1 D (.lst []))) ∧ ∀ i m H, W i m H →
      ((Itl K a).stop i H ∧ Qd H) ∨ ((Itl K a).go i H ∧ ∃ Nx : Hp → Prop, (∀ H', Nx H' → ∃ m', m' < m ∧ W (i + 1) m' H') ∧ ∀ x H', (Itl K a).yld i H x H' → gName j x (wipe σ vs) H' fun σ2 H2 => wipe σ2 vs = wipe σ vs ∧ tt σ2 H2 fun b H3 =>
        if b = true then te σ2 H3 fun y H4 => ∃ acc, H4 D = some (.lst acc) ∧ acc.length < sizeLine ∧ Nx (upd H4 D (.lst (acc ++ [y]))) else Nx H3) := by
  refine lc_list (K := K) (a := a) (xs := ns.map inj) (fun i H' => Same H1 H' ∧ H' D = some (.lst (((ns.take i).filter p).map f))) ⟨sameNew (Same.refl _) hD, upd_same⟩ (fun i H' _ q => q.1.seq hx) ?_ ?_
  · rintro i x H' hi ⟨s, hD'⟩
    obtain ⟨n, hn, rfl⟩ := mapGet hi
    refine ⟨hw _, ?_⟩
    refine ht i n H' hn s _ fun H3 s3 => ?_
    have e := filterTake (p := p) (f := f) hn
    refine ifB (fun c => ?_) (fun c => ?_)
    · refine he i n H3 hn c (s.trans s3) _ fun H4 s4 => ?_
      rw [if_pos c] at e
      refine ⟨_, s4 _ _ (s3 _ _ hD'), ?_, sameMut (s.trans (s3.trans s4)) hD, ?_⟩
      · have q1 : (((ns.take i).filter p).map f).length ≤ ns.length := by
          rw [List.length_map]
          exact Nat.le_trans (List.length_filter_le _ _) (by rw [List.length_take]; omega)
        exact szLt (by omega)
      · rw [e]; exact upd_same
    · rw [if_neg (by rw [c]; exact Bool.false_ne_true), List.append_nil] at e
      refine ⟨s.trans s3, ?_⟩
      rw [e]; exact s3 _ _ hD'
  · rintro H' ⟨s, hD'⟩
    rw [List.length_map, List.take_length] at hD'
    exact hd H' s hD'
/-- [f(i) for i in range(n) if p(i)] -/
theorem lcRng {lo : Int} {n : Nat} (p : Nat → Bool) (f : Nat → V) (hD : H1 D = none) (hlen : n ≤ 50000) (hw : ∀ x, wipe ((wipe σ vs).set j (some x)) vs = wipe σ vs)
    (ht : ∀ (i : Nat) H', i < n → Same H1 H' → ∀ T : Bool → Hp → Prop, (∀ H'', Same H' H'' → T (p i) H'') → tt ((wipe σ vs).set j (some (.int (lo + i)))) H' T)
    (he : ∀ (i : Nat) H', i < n → p i = true → Same H1 H' → ∀ Qv : VK, (∀ H'', Same H' H'' → Qv (f i) H'') → te ((wipe σ vs).set j (some (.int (lo + i)))) H' Qv)
    (hd : ∀ H', Same H1 H' → H' D = some (.lst (((List.range n).filter p).map f)) → Qd H') :
    ∃ W : Nat → Nat → Hp → Prop, (∃ m, W 0 m (upd H1 D (.lst []))) ∧ ∀ i m H, W i m H →
      ((Itr lo n).stop i H ∧ Qd H) ∨ ((Itr lo n).go i H ∧ ∃ Nx : Hp → Prop, (∀ H', Nx H' → ∃ m', m' < m ∧ W (i + 1) m' H') ∧ ∀ x H', (Itr lo n).yld i H x H' → gName j x (wipe σ vs) H' fun σ2 H2 => wipe σ2 vs = wipe σ vs ∧ tt σ2 H2 fun b H3 =>
        if b = true then te σ2 H3 fun y H4 => ∃ acc, H4 D = some (.lst acc) ∧ acc.length < sizeLine ∧ Nx (upd H4 D (.lst (acc ++ [y]))) else Nx H3) := by
  refine lc_range (lo := lo) (n := n) (fun i H' => Same H1 H' ∧ H' D = some (.lst (((List.range i).filter p).map f))) ⟨sameNew (Same.refl _) hD, upd_same⟩ ?_ ?_
  · rintro i H' hi ⟨s, hD'⟩
    refine ⟨hw _, ?_⟩
    refine ht i H' hi s _ fun H3 s3 => ?_
    have e : ((List.range (i + 1)).filter p).map f = ((List.range i).filter p).map f ++ (if p i = true then [f i] else []) := by
      rw [List.range_succ, List.filter_append, List.map_append]
      congr 1
      by_cases c : p i = true
      · rw [if_pos c]; simp [c]
      · rw [if_neg c]; simp [c]
    refine ifB (fun c => ?_) (fun c => ?_)
    · refine he i H3 hi c (s.trans s3) _ fun H4 s4 => ?_
      rw [if_pos c] at e
      refine ⟨_, s4 _ _ (s3 _ _ hD'), ?_, sameMut (s.trans (s3.trans s4)) hD, ?_⟩
      · have q1 : (((List.range i).filter p).map f).length ≤ i := by
          rw [List.length_map]
          exact Nat.le_trans (List.length_filter_le _ _) (by rw [List.length_range]; omega)
        exact szLt (by omega)
      · rw [e]; exact upd_same
    · rw [if_neg (by rw [c]; exact Bool.false_ne_true), List.append_nil] at e
      refine ⟨s.trans s3, ?_⟩
      rw [e]; exact s3 _ _ hD'
  · rintro H' ⟨s, hD'⟩
    exact hd H' s hD'
end
theorem filterAll {α : Type} (l : List α) : l.filter (fun _ => true) = l := by simp
/-- a new list is handed back -/
def RetNew (H : Hp) (Q : VK) (xs : List V) : Prop := ∀ H' p, Same H H' → H p = none → H' p = some (.lst xs) → Q (.ref p) H'
theorem RetNew.go {H H1 H' : Hp} {Q : VK} {xs : List V} {p : Addr} (k : RetNew H Q xs) (s : Same H H1) (s1 : Same H1 H') (hp : H1 p = none) (h : H' p = some (.lst xs)) : Q (.ref p) H' := k H' p (s.trans s1) (s.free hp) h
/-! ### the wall in the heap -/
def wf (l1 l2 l3 : Addr) (d : Int) : List (Str × V) := [("boxes", .ref l1), ("inside", .ref l2), ("parcels", .ref l3), ("today", .int d)]
theorem lk_here {k : Str} {v : V} {r : List (Str × V)} : List.lookup k ((k, v) :: r) = some v := by
  have e : (k == k) = true := beq_self_eq_true k
  simp only [List.lookup, e]
theorem lk_past {k g : Str} {v : V} {r : List (Str × V)} (h : (k == g) = false) : List.lookup k ((g, v) :: r) = List.lookup k r := by
  simp only [List.lookup, h]
theorem put_here {f : Str} {v x : V} {r : List (Str × V)} : putF f v ((f, x) :: r) = (f, v) :: r := if_pos rfl
theorem put_past {f g : Str} {v x : V} {r : List (Str × V)} (h : ¬ g = f) : putF f v ((g, x) :: r) = (g, x) :: putF f v r := if_neg h
section
variable {l1 l2 l3 : Addr} {d y : Int}
theorem wf_boxes : (wf l1 l2 l3 d).lookup ("boxes" : Str) = some (.ref l1) := lk_here
theorem wf_inside : (wf l1 l2 l3 d).lookup ("inside" : Str) = some (.ref l2) := (lk_past (by decide +kernel)).trans lk_here
theorem wf_parcels : (wf l1 l2 l3 d).lookup ("parcels" : Str) = some (.ref l3) := (lk_past (by decide +kernel)).trans ((lk_past (by decide +kernel)).trans lk_here)
theorem wf_today : (wf l1 l2 l3 d).lookup ("today" : Str) = some (.int d) := (lk_past (by decide +kernel)).trans ((lk_past (by decide +kernel)).trans ((lk_past (by decide +kernel)).trans lk_here))
theorem wf_none {m : Str} (h1 : (m == ("boxes" : Str)) = false) (h2 : (m == ("inside" : Str)) = false) (h3 : (m == ("parcels" : Str)) = false) (h4 : (m == ("today" : Str)) = false) : (wf l1 l2 l3 d).lookup m = none :=
  (lk_past h1).trans ((lk_past h2).trans ((lk_past h3).trans ((lk_past h4).trans rfl)))
theorem wf_sizes : (wf l1 l2 l3 d).lookup ("sizes" : Str) = none := wf_none (by decide +kernel) (by decide +kernel) (by decide +kernel) (by decide +kernel)
theorem wf_held : (wf l1 l2 l3 d).lookup ("held" : Str) = none := wf_none (by decide +kernel) (by decide +kernel) (by decide +kernel) (by decide +kernel)
theorem wf_day : (wf l1 l2 l3 d).lookup ("day" : Str) = none := wf_none (by decide +kernel) (by decide +kernel) (by decide +kernel) (by decide +kernel)
theorem wf_free : (wf l1 l2 l3 d).lookup ("free" : Str) = none := wf_none (by decide +kernel) (by decide +kernel) (by decide +kernel) (by decide +kernel)
theorem wf_see : (wf l1 l2 l3 d).lookup ("see" : Str) = none := wf_none (by decide +kernel) (by decide +kernel) (by decide +kernel) (by decide +kernel)
theorem wf_size_of : (wf l1 l2 l3 d).lookup ("size_of" : Str) = none := wf_none (by decide +kernel) (by decide +kernel) (by decide +kernel) (by decide +kernel)
theorem wf_left : (wf l1 l2 l3 d).lookup ("left" : Str) = none := wf_none (by decide +kernel) (by decide +kernel) (by decide +kernel) (by decide +kernel)
theorem wf_come : (wf l1 l2 l3 d).lookup ("come" : Str) = none := wf_none (by decide +kernel) (by decide +kernel) (by decide +kernel) (by decide +kernel)
theorem wf_fetch : (wf l1 l2 l3 d).lookup ("fetch" : Str) = none := wf_none (by decide +kernel) (by decide +kernel) (by decide +kernel) (by decide +kernel)
theorem wf_night : (wf l1 l2 l3 d).lookup ("night" : Str) = none := wf_none (by decide +kernel) (by decide +kernel) (by decide +kernel) (by decide +kernel)
theorem wf_move : (wf l1 l2 l3 d).lookup ("move" : Str) = none := wf_none (by decide +kernel) (by decide +kernel) (by decide +kernel) (by decide +kernel)
theorem wf_put : putF "today" (.int y) (wf l1 l2 l3 d) = wf l1 l2 l3 y := (put_past (by decide +kernel)).trans (congrArg _ ((put_past (by decide +kernel)).trans (congrArg _ ((put_past (by decide +kernel)).trans (congrArg _ put_here)))))
theorem wf_new : putF "today" (.int d) (putF "parcels" (.ref l3) (putF "inside" (.ref l2) (putF "boxes" (.ref l1) []))) = wf l1 l2 l3 d := by
  have e1 : putF "boxes" (.ref l1) [] = [(("boxes" : Str), V.ref l1)] := rfl
  have e2 : putF "inside" (.ref l2) [(("boxes" : Str), V.ref l1)] = [(("boxes" : Str), V.ref l1), ("inside", .ref l2)] := (put_past (by decide +kernel)).trans rfl
  have e3 : putF "parcels" (.ref l3) [(("boxes" : Str), V.ref l1), ("inside", .ref l2)] = [(("boxes" : Str), V.ref l1), ("inside", .ref l2), ("parcels", .ref l3)] := (put_past (by decide +kernel)).trans (congrArg _ ((put_past (by decide +kernel)).trans rfl))
  have e4 : putF "today" (.int d) [(("boxes" : Str), V.ref l1), ("inside", .ref l2), ("parcels", .ref l3)] = [(("boxes" : Str), V.ref l1), ("inside", .ref l2), ("parcels", .ref l3), ("today", .int d)] := (put_past (by decide +kernel)).trans (congrArg _ ((put_past (by decide +kernel)).trans (congrArg _ ((put_past (by decide +kernel)).trans rfl))))
  rw [e1, e2, e3, e4]; rfl
end
def optV : Option Nat → V
  | none => .non
  | some n => .int n
structure WS where
  w : Addr
  dx : Addr
  l1 : Addr
  l2 : Addr
  l3 : Addr
  sizes : List Int
  inside : List (Option Nat)
  parcels : List (Int × Int)
  today : Int
/-- a wall stands at s.w -/
structure WallAt (K : PySem.W.Frag) (H : Hp) (s : WS) : Prop where
  ob : H s.w = some (.ins (He.ga K "Wall") s.dx (wf s.l1 s.l2 s.l3 s.today))
  bx : H s.l1 = some (.lst (s.sizes.map V.int))
  is : H s.l2 = some (.lst (s.inside.map optV))
  ps : ∃ ts : List Addr, H s.l3 = some (.lst (ts.map V.ref)) ∧ ts.length = s.parcels.length ∧ ∀ (j : Nat) (t : Addr), ts[j]? = some t → H t = some (.tup [.int (s.parcels.getD j (0, 0)).1, .int (s.parcels.getD j (0, 0)).2])
  n12 : s.l1 ≠ s.l2
  n13 : s.l1 ≠ s.l3
  n23 : s.l2 ≠ s.l3
  len : s.inside.length = s.sizes.length
  l8 : s.sizes.length ≤ 8
  pl : s.parcels.length ≤ 1000
  nb : ∀ (j n : Nat), s.inside[j]? = some (some n) → n < s.parcels.length
theorem WallAt.mono {K : PySem.W.Frag} {H H' : Hp} {s : WS} (h : WallAt K H s) (e : Same H H') : WallAt K H' s :=
  ⟨e _ _ h.ob, e _ _ h.bx, e _ _ h.is, let ⟨ts, h1, h2, h3⟩ := h.ps; ⟨ts, e _ _ h1, h2, fun j t q => e _ _ (h3 j t q)⟩, h.n12, h.n13, h.n23, h.len, h.l8, h.pl, h.nb⟩
/-- all but the wall's own changing parts stands as it was -/
def Frm (s : WS) (H H' : Hp) : Prop := ∀ b o, H b = some o → b ≠ s.w → b ≠ s.l2 → b ≠ s.l3 → H' b = some o
/-- lists of sizes that make a wall; parcels' sizes -/
def OkW (ns : List Int) : Prop := 1 ≤ ns.length ∧ ns.length ≤ 8 ∧ ∀ x ∈ ns, 1 ≤ x ∧ x ≤ 9
def OkP (ns : List Int) : Prop := ∀ x ∈ ns, 1 ≤ x ∧ x ≤ 9
end Pw
namespace Pw
theorem putL {f : Str} {v : V} : ∀ {fs : List (Str × V)} {n : Nat}, fs.length ≤ n → (putF f v fs).length ≤ n + 1
  | [], n, h => by show 1 ≤ n + 1; omega
  | (g, x) :: r, n, h => by
    show (if g = f then (g, v) :: r else (g, x) :: putF f v r).length ≤ n + 1
    have h : r.length + 1 ≤ n := h
    by_cases c : g = f
    · rw [if_pos c]; show r.length + 1 ≤ n + 1; omega
    · rw [if_neg c]
      have ih := putL (f := f) (v := v) (fs := r) (n := n - 1) (by omega)
      show (putF f v r).length + 1 ≤ n + 1
      omega
theorem putL0 {f : Str} {v : V} : (putF f v []).length < 1000 := Nat.lt_of_le_of_lt (putL (Nat.le_refl 0)) (by decide)
theorem putL1 {f g : Str} {v u : V} : (putF f v (putF g u [])).length < 1000 := Nat.lt_of_le_of_lt (putL (putL (Nat.le_refl 0))) (by decide)
theorem putL2 {f g k : Str} {v u w : V} : (putF f v (putF g u (putF k w []))).length < 1000 := Nat.lt_of_le_of_lt (putL (putL (putL (Nat.le_refl 0)))) (by decide)
theorem wfL {l1 l2 l3 : Addr} {d : Int} : (wf l1 l2 l3 d).length < 1000 := by show 4 < 1000; decide
end Pw
namespace Pw
section
variable {K : PySem.W.Frag}
theorem kit_ii : PySem.W.kitOne K (.type "int") (.type "int") = some true := kit_ty (by decide +kernel)
theorem kit_ib : PySem.W.kitOne K (.type "int") (.type "bool") = some false := kit_ty (by decide +kernel)
theorem kit_il : PySem.W.kitOne K (.type "int") (.type "list") = some false := kit_ty (by decide +kernel)
theorem kit_is : PySem.W.kitOne K (.type "int") (.type "str") = some false := kit_ty (by decide +kernel)
theorem kit_ll : PySem.W.kitOne K (.type "list") (.type "list") = some true := kit_ty (by decide +kernel)
theorem kit_ls : PySem.W.kitOne K (.type "list") (.type "str") = some false := kit_ty (by decide +kernel)
theorem kit_ss : PySem.W.kitOne K (.type "str") (.type "str") = some true := kit_ty (by decide +kernel)
theorem kit_sl : PySem.W.kitOne K (.type "str") (.type "list") = some false := kit_ty (by decide +kernel)
theorem kit_tt : PySem.W.kitOne K (.type "tuple") (.type "tuple") = some true := kit_ty (by decide +kernel)
theorem kit_ns : PySem.W.kitOne K (.type "NoneType") (.type "str") = some false := kit_ty (by decide +kernel)
theorem kit_nl : PySem.W.kitOne K (.type "NoneType") (.type "list") = some false := kit_ty (by decide +kernel)
end
end Pw
namespace Pw
theorem leI {a b : Int} (h : a ≤ b) : a ≤ b := h
theorem ltI {a b : Int} (h : a < b) : a < b := h
theorem leN {a b : Nat} (h : a ≤ b) : a ≤ b := h
theorem ltN {a b : Nat} (h : a < b) : a < b := h
end Pw
namespace Pw
/-- a word at which the walk stops -/
structure Stop (P : Prop) : Prop where
  out : P
theorem insInt {xs : List Int} {n : Nat} {v : Int} : (xs.map V.int).take n ++ [V.int v] ++ (xs.map V.int).drop n = (xs.take n ++ [v] ++ xs.drop n).map V.int := by
  simp
theorem setInt {xs : List Int} {n : Nat} {v : Int} : (xs.map V.int).set n (V.int v) = (xs.set n v).map V.int := by
  rw [List.map_set]
theorem appInt {xs : List Int} {v : Int} : xs.map V.int ++ [V.int v] = (xs ++ [v]).map V.int := by
  simp
theorem getDlt {xs : List Int} {i : Nat} (hi : i < xs.length) : xs.getD i 0 = xs[i] := by rw [List.getD_eq_getElem?_getD, List.getElem?_eq_getElem hi]; rfl
theorem okGet {xs : List Int} (h : OkP xs) {i : Nat} (hi : i < xs.length) : 1 ≤ xs.getD i 0 ∧ xs.getD i 0 ≤ 9 := by
  rw [getDlt hi]
  exact h _ (List.getElem_mem hi)
theorem okSnoc {xs : List Int} {v : Int} (h : OkP xs) (h1 : 1 ≤ v ∧ v ≤ 9) : OkP (xs ++ [v]) := fun x hx => by
  rcases List.mem_append.mp hx with q | q
  · exact h x q
  · rw [List.mem_singleton.mp q]; exact h1
theorem okIns {xs : List Int} {v : Int} {n : Nat} (h : OkP xs) (h1 : 1 ≤ v ∧ v ≤ 9) : OkP (xs.take n ++ [v] ++ xs.drop n) := fun x hx => by
  rcases List.mem_append.mp hx with q | q
  · rcases List.mem_append.mp q with q | q
    · exact h x (List.mem_of_mem_take q)
    · rw [List.mem_singleton.mp q]; exact h1
  · exact h x (List.mem_of_mem_drop q)
theorem okSet {xs : List Int} {v : Int} {n : Nat} (h : OkP xs) (h1 : 1 ≤ v ∧ v ≤ 9) : OkP (xs.set n v) := fun x hx => by
  rcases List.mem_or_eq_of_mem_set hx with q | q
  · exact h x q
  · rw [q]; exact h1
theorem ixN_of {n : Nat} {i : Int} (h0 : 0 ≤ i) (h1 : i < n) : ixN n i = some i.toNat := by
  unfold ixN; rw [if_pos h0, if_pos h1]
end Pw
namespace Pw
/-! ### a statement, then the rest, with a word between them -/
@[irreducible] def CutG (t u : TS) (D : Ends) (σ : L2.St) (H : Hp) : Prop := Evl.tCut t u D σ H
def tCutP (t u : TS) : TS := fun D σ H => CutG t u D σ H
theorem tCutP_eq (t u : TS) : tCutP t u = Evl.tCut t u := by
  funext D σ H
  unfold tCutP CutG
  rfl
theorem pss_cutP {X : Cx} {st : Stmt} {rest : List Stmt} {t u : TS} (h1 : PS X st t) (h2 : PSs X rest u) : PSs X (st :: rest) (tCutP t u) := by
  rw [tCutP_eq]
  exact Evl.pss_cut h1 h2
theorem cut {t u : TS} {D : Ends} {σ : L2.St} {H : Hp} (Mid : L2.St → Hp → Prop) (h1 : t { D with nx := Mid } σ H) (h2 : ∀ σ' H', Mid σ' H' → u D σ' H') : CutG t u D σ H := by
  unfold CutG
  exact ⟨Mid, h1, h2⟩
end Pw
namespace Pw
theorem wallI {K : PySem.W.Frag} {H : Hp} {s : WS} (h : WallAt K H s) : WallAt K H s := h
end Pw
namespace Pw
theorem ifDT {c A B : Prop} [Decidable c] (h : c) (a : A) : if decide c = true then A else B := ifIs (decide_eq_true h) a
theorem ifDF {c A B : Prop} [Decidable c] (h : ¬ c) (b : B) : if decide c = true then A else B := ifNo (decide_eq_false h) b
theorem ifNT {c A B : Prop} [Decidable c] (h : ¬ c) (a : A) : if (!decide c) = true then A else B := ifIs (by rw [decide_eq_false h]; rfl) a
theorem ifNF {c A B : Prop} [Decidable c] (h : c) (b : B) : if (!decide c) = true then A else B := ifNo (by rw [decide_eq_true h]; rfl) b
end Pw
namespace Pw
theorem intEq {a b : Int} (h : a = b) : V.int a = V.int b := congrArg V.int h
theorem intNe {a b : Int} (h : a ≠ b) : ¬ V.int a = V.int b := fun e => h (V.int.inj e)
end Pw
namespace Pw
/-! ### rules at which the walk stops -/
@[irreducible] def rEqDI (K : PySem.W.Frag) : R2 := rEqD K
@[irreducible] def rNeDI (K : PySem.W.Frag) : R2 := rNeD K
@[irreducible] def rSortPO (K : PySem.W.Frag) : List V → Hp → VK → Prop := rSortedPO K
theorem op_eqDI {X : Cx} (hu : X.A.units + 64 < cLine) : OpR X (compareOp .Eq) (rEqDI X.K) := by unfold rEqDI; exact op_eqD hu
theorem op_neDI {X : Cx} (hu : X.A.units + 64 < cLine) : OpR X (compareOp .NotEq) (rNeDI X.K) := by unfold rNeDI; exact op_neD hu
theorem cr_sortPO {X : Cx} : CallR X (.builtin "sorted") (rSortPO X.K) := by unfold rSortPO; exact cr_sortedPO
end Pw
namespace Pw
/-! ### errors caught: what the classes say -/
def excCB (K : PySem.W.Frag) (D : Addr) : Bool :=
  He.eqO (PySem.W.findIn K (.ref D) "__getattribute__") (some (some (.builtin "BaseException.__getattribute__"))) && (He.eqO (PySem.W.findIn K (.ref D) "__getattr__") (some none) && (decide (PySem.W.subIn K (.ref D) (.type "BaseException") = some true) &&
  (PySem.W.hasDictIn K D && (He.eqO (PySem.W.findIn K (.ref D) "__class__") (some (some (.builtin "object.__class__"))) && (He.eqO (PySem.W.specialIn K (.builtin "object.__class__") "__get__") (some (some (.builtin "getset_descriptor.__get__"))) &&
  (decide (PySem.W.takesIn K (.builtin "object.__class__") = some true) && decide (PySem.W.mroIn K D (.type "object") = some true)))))))
theorem excC_of {K : PySem.W.Frag} {D : Addr} (h : excCB K D = true) : ExcC K D := by
  obtain ⟨h1, h⟩ := He.ba h
  obtain ⟨h2, h⟩ := He.ba h
  obtain ⟨h3, h⟩ := He.ba h
  obtain ⟨h4, h⟩ := He.ba h
  obtain ⟨h5, h⟩ := He.ba h
  obtain ⟨h6, h⟩ := He.ba h
  obtain ⟨h7, h8⟩ := He.ba h
  exact ⟨He.eqO_ok h1, He.eqO_ok h2, of_decide_eq_true h3, h4, He.eqO_ok h5, He.eqO_ok h6, of_decide_eq_true h7, of_decide_eq_true h8⟩
/-- whether an error of the class x is one of the class y -/
def isSub (x y : Str) : Bool := x == y || y == ("WallError" : Str)
def xsB (K : PySem.W.Frag) (l : List Str) : Bool := l.all fun x => excCB K (He.ga K x) && (decide (PySem.W.kitOne K (.ref (He.ga K x)) (.type "ValueError") = some true) &&
  l.all fun y => decide (PySem.W.kitOne K (.ref (He.ga K x)) (.ref (He.ga K y)) = some (isSub x y)) && decide (PySem.W.exmOne K (.ref (He.ga K x)) (.ref (He.ga K y)) = some (isSub x y)))
structure XS (K : PySem.W.Frag) (l : List Str) : Prop where
  b : xsB K l = true
namespace XS
variable {K : PySem.W.Frag} {l m : List Str}
theorem one (h : XS K l) {x : Str} (hx : x ∈ l) : ExcC K (He.ga K x) ∧ PySem.W.kitOne K (.ref (He.ga K x)) (.type "ValueError") = some true := by
  have q := List.all_eq_true.mp h.b x hx
  obtain ⟨h1, h2⟩ := He.ba q
  obtain ⟨h2, _⟩ := He.ba h2
  exact ⟨excC_of h1, of_decide_eq_true h2⟩
theorem two (h : XS K l) {x y : Str} (hx : x ∈ l) (hy : y ∈ l) : PySem.W.kitOne K (.ref (He.ga K x)) (.ref (He.ga K y)) = some (isSub x y) ∧ PySem.W.exmOne K (.ref (He.ga K x)) (.ref (He.ga K y)) = some (isSub x y) := by
  have q := List.all_eq_true.mp h.b x hx
  obtain ⟨_, q⟩ := He.ba q
  obtain ⟨_, q⟩ := He.ba q
  have q := List.all_eq_true.mp q y hy
  obtain ⟨h1, h2⟩ := He.ba q
  exact ⟨of_decide_eq_true h1, of_decide_eq_true h2⟩
theorem c (h : XS K l) {x : Str} (hx : x ∈ l) : ExcC K (He.ga K x) := (h.one hx).1
theorem v (h : XS K l) {x : Str} (hx : x ∈ l) : PySem.W.kitOne K (.ref (He.ga K x)) (.type "ValueError") = some true := (h.one hx).2
theorem kit (h : XS K l) {x y : Str} {b : Bool} (hx : x ∈ l) (hy : y ∈ l) (e : isSub x y = b) : PySem.W.kitOne K (.ref (He.ga K x)) (.ref (He.ga K y)) = some b := by rw [← e]; exact (h.two hx hy).1
theorem exm (h : XS K l) {x y : Str} {b : Bool} (hx : x ∈ l) (hy : y ∈ l) (e : isSub x y = b) : PySem.W.exmOne K (.ref (He.ga K x)) (.ref (He.ga K y)) = some b := by rw [← e]; exact (h.two hx hy).2
end XS
/-- isinstance(e, c), e the error that the suite holds, of the class cls -/
def rIsX (K : PySem.W.Frag) (cls : Value) (d : Option Addr) (a : Addr) : List V → Hp → VK → Prop := fun xs H Q => ∃ (D : Addr) (c : V) (cv : Value) (b : Bool), cls = .ref D ∧ d = none ∧ ExcC K D ∧ xs = [.ref a, c] ∧ (∀ u, RelV c u → u = cv) ∧ PySem.W.kitOne K (.ref D) cv = some b ∧ Q (.bl b) H
theorem call_isX {X : Cx} {a : Addr} {cls : Value} {d : Option Addr} {oe : Obj} {pn : List (Addr × Obj)} (hz : Zc cls d oe) (hf : ∃ vs, oe.data = .fields vs) : CallR (X.suite a ((a, oe) :: pn)) (.builtin "isinstance") (rIsX X.K cls d a) := by
  intro pins s σ H xs us Q I r h
  obtain ⟨D, c, cv, b, rfl, rfl, C, h⟩ := h
  exact call_isE C hz hf pins s σ H xs us Q I r ⟨c, cv, b, h⟩
def tTryAs (K : PySem.W.Frag) (c : Value) (i : Nat) (tb : WX → TS) (ts : Addr → Value → Option Addr → TS) (Wout : WX) : TS := fun D σ H => tb (wAs K c i ts Wout D) D σ H
def tTryOnly (K : PySem.W.Frag) (c : Value) (tb : WX → TS) (ts : Addr → Value → Option Addr → TS) (Wout : WX) : TS := fun D σ H => tb (wOnly K c ts Wout D) D σ H
def tTryMany (K : PySem.W.Frag) (l : List (Value × (Addr → Value → Option Addr → TS))) (tb : WX → TS) (Wout : WX) : TS := fun D σ H => tb (wMany K Wout D l) D σ H
abbrev wNone : WX := fun _ _ _ _ => False
abbrev wE (E : XK) : WX := fun cls d _ H => E cls d H
/-- C(e, ..) within a try -/
def tMakeS (C : Addr) (sp : Sp) (E : L2.St → XK) (t : TA) : TE := fun σ H Q => t σ H fun vs H1 => ∀ x dx, H1 x = none → H1 dx = none → dx ≠ x → sp (.ref x :: vs) (upd (upd H1 dx (.own x)) x (.ins C dx [])) (fun v H2 => v = .non ∧ Q (.ref x) H2) (E σ)
end Pw
namespace Pw
section
variable {X : Cx} {CX : CXT} {lv : Nat} {fI C : Addr} {gd : FuncData} {prs : List Str} {pr : Sp} {E : XK}
theorem makeAt {pins : List (Addr × Obj)} {σ : L2.St} {H : Hp} {st : Shared} {Q : VK} {us : List Value} {vs : List V} (M : Mk X.K C fI)
    (F : FnOk X.prog X.w X.K X.mg X.base CX lv fI gd prs pr) (room : Room (lv + 1) X.A) (bb : Binds X.K gd prs [])
    (pass : PassesAt CX X σ E) (I : Inv X pins σ H st) (rv : Vals vs us)
    (want : ∀ x dx, H x = none → H dx = none → dx ≠ x → pr (.ref x :: vs) (upd (upd H dx (.own x)) x (.ins C dx [])) (fun v H2 => v = .non ∧ Q (.ref x) H2) E) :
    wpAny (model X.prog X.w) X.A (call (.ref C) us) (EP X pins σ Q) X.xe st := by
  have want1 := want (st.heap.objs.size + 1) st.heap.objs.size (I.hok.fresh (Nat.le_succ _)) (I.hok.fresh (Nat.le_refl _))
    (Nat.ne_of_lt (Nat.lt_succ_self _))
  have J := Inv.made (C := C) I
  have rv1 : Vals (V.ref (st.heap.objs.size + 1) :: vs) (Value.ref (st.heap.objs.size + 1) :: us) := .cons rfl rv
  have len1 : (Value.ref (st.heap.objs.size + 1) :: us).length = prs.length :=
    rv1.length.symm.trans (F.len _ _ _ _ want1)
  have bb1 := bb _ (Value.ref (st.heap.objs.size + 1) :: us) J.kIn (by rw [List.append_nil]; exact len1)
  rw [List.append_nil] at bb1
  refine wpAny_call (make_map (f := fI) I.kIn M.makes M.init (beq_iff_eq.mp M.fn) ?_)
  refine codeAny_mono (F.run _ X.stack _ _ ⟨Value.ref (st.heap.objs.size + 1) :: us, []⟩ (Value.ref (st.heap.objs.size + 1) :: us) _ _ E
    (room.make C us []) (J.env0.make C us []) bb1 rv1 want1) fun res s2 got => ?_
  cases res with
  | error e => exact pass pins _ _ e s2 J got
  | ok fl =>
    cases fl with
    | ret u =>
      obtain ⟨v, H2, J2, ru, ev, q2⟩ := J.after got
      subst ev
      exact ⟨ru, ⟨V.ref (st.heap.objs.size + 1), H2, J2, rfl, q2⟩⟩
    | next => exact got.elim
    | brk => exact got.elim
    | cont => exact got.elim
theorem pe_makeS {EE : L2.St → XK} {x : Str} {p pos : Pos} {e : Expr} {es : List Expr} {t : TA} (M : Mk X.K C fI)
    (F : FnOk X.prog X.w X.K X.mg X.base CX lv fI gd prs pr) (room : Room (lv + 1) X.A) (hg : Gl X x) (hm : X.mg x = some (.ref C)) (bb : Binds X.K gd prs [])
    (pass : ∀ σ, PassesAt CX X σ (EE σ)) (ha : PA X (e :: es) t) (hdb : (x == ("__debug__" : Str)) = false := by decide)
    (he : starEach (e :: es) X.env = (false, eval e X.env) :: starEach es X.env := by rfl)
    (hpl : (backTo pos (starEach es X.env)).any (·.1) = false := by rfl) :
    PE X (.Call (.Name x p) (e :: es) [] pos) (tMakeS C pr EE t) := by
  refine ⟨fun pins s σ H Q I h => wpAny_Call_Name_kw (ld_glob I hg hm ?_ hdb)⟩
  refine PySem.W.callWith_K (h₀ := X.base) I.ok.mod.kin M.kp ?_ he hpl
  exact thn (ha.run pos pins s σ H _ I h) fun us s1 ⟨vs, H1, I1, r, q⟩ => ⟨I1.kIn, makeAt M F room bb (pass σ) I1 r q⟩
/-- o.m() within a try -/
theorem pe_methS0 {m : Str} {pos apos : Pos} {o : Expr} {ta : TE} {f : Addr} {fd : FuncData} {ps : List Str} {sp : Sp} {EE : L2.St → XK} {pl : Sem Bool} (he : PE X o ta) (c : Cls X.K C) (hm : Meth X.K C m f)
    (F : FnOk X.prog X.w X.K X.mg X.base CX lv f fd ps sp) (hr : Room lv X.A) (hb : Binds X.K fd ps []) (hx : ∀ σ, PassesAt CX X σ (EE σ))
    (ht : eval (.Call (.Attribute o m apos) [] [] pos) X.env = (do
      let ov ← eval o X.env
      standAt apos.atName
      let (f, first) ← holding [ov] (getMethod ov m pl)
      callWith pos f first (backTo pos (starEach [] X.env)) (backToKw pos (keywordEach [] X.env))) := by rfl) :
    PE X (.Call (.Attribute o m apos) [] [] pos) (tMethS C m sp EE ta tNil) := by
  refine ⟨fun pins s σ H Q I h => ?_⟩
  refine PySem.W.methodCall_KW (pl := pl) (thn (he.run pins s σ H _ I h) fun u s1 ⟨x, H1, I1, rx, a, dx, fs, ex, ea, l, q⟩ => ?_) ht
  subst ex
  obtain rfl : u = Value.ref a := rx
  refine getmeth_ok I1 ea c hm l ?_
  exact PySem.W.callWith_K0 (first := [.ref a]) I1.kIn hm.kp (run_fnS (us := [.ref a]) (vs := [.ref a]) F hr hb (hx σ) I1 (.cons rfl .nil) q)
end
end Pw
namespace Pw
theorem relRef {a : Addr} : ∀ u, RelV (V.ref a) u → u = Value.ref a := fun _ h => h
theorem relTy {t : String} : ∀ u, RelV (V.ty t) u → u = Value.type t := fun _ h => h
theorem qRefl {Q : VK} {H : Hp} {x : V} (h : Q (.bl true) H) : Q (.bl (decide (x = x))) H := by rw [decide_eq_true rfl]; exact h
theorem qDec {Q : VK} {H : Hp} {p : Prop} [Decidable p] (hp : p) (h : Q (.bl true) H) : Q (.bl (decide p)) H := by rw [decide_eq_true hp]; exact h
theorem inAll {l n : List Str} (h : (n.all fun x => l.contains x) = true) {x : Str} (hx : x ∈ n) : x ∈ l := List.contains_iff_mem.mp (List.all_eq_true.mp h x hx)
theorem listInt {H : Hp} {p : Addr} {ns : List Nat} (h : H p = some (.lst (ns.map fun i : Nat => V.int (i : Int)))) : H p = some (.lst ((ns.map fun i : Nat => (i : Int)).map V.int)) := by rw [h, List.map_map]; rfl
theorem repOpt {ns : List Int} : ns.map (fun _ => V.non) = (List.replicate ns.length (none : Option Nat)).map optV := by
  rw [List.map_replicate]
  induction ns with
  | nil => rfl
  | cons x r ih => rw [List.map_cons, List.length_cons, List.replicate_succ, ih]; rfl
theorem freeLen (l : List (Option Nat)) : ((List.range l.length).filter fun i => (l.getD i none).isNone).length ≤ l.length := by
  have h := List.length_filter_le (fun i => (l.getD i none).isNone) (List.range l.length)
  rw [List.length_range] at h; exact h
end Pw
namespace Pw
theorem intNon {i : Int} : ¬ V.int i = V.non := fun h => by cases h
theorem strNe {a b : Str} (h : a ≠ b) : ¬ V.str a = V.str b := fun e => h (V.str.inj e)
end Pw
namespace Pw
abbrev rInN (K : PySem.W.Frag) : R2 := fun x y H Q => ∃ p xs, y = .ref p ∧ (SqL K H p xs ∨ SqT K H p xs) ∧ flatV x = true ∧ xs.all flatV = true ∧ Q (.bl (!inV x xs)) H
theorem op_notInN {X : Cx} : OpR X (compareOp .NotIn) (rInN X.K) := op_notIn_seq
end Pw
namespace Pw
theorem cmulL {i j : Int} (h : -(2 ^ 64) < i ∧ i < 2 ^ 64) : CMul i j := .inl h
theorem cmulR {i j : Int} (h : -(2 ^ 64) < j ∧ j < 2 ^ 64) : CMul i j := .inr h
theorem cpow109 : CPow 10 9 := ⟨by decide, by decide, by decide⟩
end Pw
namespace Pw
theorem cxN_to {P : Program} {w : World} {outer : List Env} {H : Hp} {s s' : Shared} {E : XK} {u : Value} (c : L2N.CX P w outer H s E u s') : L2.CX P w outer H s E u s' := by
  obtain ⟨a, B, H', cls, d, e, fl, r⟩ := c
  exact ⟨a, B, H', cls, d, e, L2H.flyingZ_imp (fun _ z => z.zc) fl, r⟩
theorem passesN {X : Cx} {E : XK} (h : Passes (L2.CX X.prog X.w) X E) : Passes (L2N.CX X.prog X.w) X E := fun pins σ H s e s' I c => h pins σ H s e s' I (cxN_to c)
theorem passAtN {X : Cx} {W : WX} (tk : L2.Takes X W) (σ : L2.St) : PassesAt (L2N.CX X.prog X.w) X σ (WE W σ) := fun pins H s e s' I c => L2.passAt tk σ pins H s e s' I (cxN_to c)
end Pw
namespace Pw
theorem whileI {tc : TT} {tb : TS} {D : Ends} {σ : L2.St} {H : Hp} (Pv : Nat → L2.St → Hp → Prop) (h0 : ∃ m, Pv m σ H)
    (hs : ∀ m σ H, Pv m σ H → tc σ H fun b H1 => if b = true then ∃ N : L2.St → Hp → Prop, (∀ σ' H', N σ' H' → ∃ m', m' < m ∧ Pv m' σ' H') ∧ tb { D with nx := N, ct := N, bk := D.nx } σ H1 else D.nx σ H1) : WhileG tc tb D σ H := by
  unfold WhileG
  exact ⟨Pv, h0, hs⟩
end Pw
namespace Pw
abbrev rInY (K : PySem.W.Frag) : R2 := fun x y H Q => ∃ p xs, y = .ref p ∧ (SqL K H p xs ∨ SqT K H p xs) ∧ flatV x = true ∧ xs.all flatV = true ∧ Q (.bl (inV x xs)) H
theorem op_inY {X : Cx} : OpR X (compareOp .In) (rInY X.K) := op_in_seq
end Pw
local macro_rules | `(tactic| walk_at "arith") => `(tactic| first | omega | (simp only [List.length_map, List.length_append, List.length_cons, List.length_nil, List.length_take, List.length_replicate, List.length_range, Int.zero_add, Int.toNat_natCast] at *; omega))
local macro_rules | `(tactic| walk_at "same") => `(tactic| first
  | assumption
  | exact Same.refl _
  | (refine Pw.sameNew ?_ ?_; (walk_at "same"); (walk_at "free"))
  | (refine Pw.sameMut ?_ ?_; (walk_at "same"); (walk_at "free"))
  | (refine Same.trans (H1 := ?mid) ?s1 ?s2; (case s2 => assumption); (case s1 => walk_at "same")))
local macro_rules | `(tactic| walk_at "free") => `(tactic| first
  | assumption
  | (refine Pw.updFree (p := ?pp) (o := ?oo) ?f; (case f => assumption))
  | (refine Same.free (H' := ?mid) ?s ?f; (case f => assumption); (case s => walk_at "same")))
local macro_rules | `(tactic| walk_at "ne") => `(tactic| first
  | assumption
  | (apply Ne.symm; assumption)
  | (refine ne_of_none (H := ?hh) (o := ?oo) ?h1 ?h2; (case h2 => assumption); (case h1 => walk_at "heap"))
  | (apply Ne.symm; refine ne_of_none (H := ?hh) ?h1 ?h2; (case h2 => assumption); (case h1 => walk_at "heap")))
local macro_rules | `(tactic| walk_at "heap") => `(tactic| first
  | assumption
  | exact upd_same
  | (refine Pw.updOld (o := ?oo) ?h ?f; (case h => walk_at "heap"); (case f => walk_at "free"))
  | (refine Pw.updNe (o := ?oo) ?h ?n; (case h => walk_at "heap"); (case n => walk_at "ne"))
  | (refine Pw.sameGet (H := ?hh) (o := ?oo) ?s ?h; (case s => assumption); (case h => walk_at "heap")))
local macro_rules | `(tactic| walk_at "sq") => `(tactic| first
  | assumption
  | (refine Same.seq (H := ?hh) (xs := ?xx) ?s ?h; (case h => assumption); (case s => walk_at "same"))
  | (refine SqL.of (xs := ?xx) ?h; (case h => walk_at "heap"))
  | (refine SqT.of (xs := ?xx) ?h; (case h => walk_at "heap")))
local macro_rules | `(tactic| walk_at "wall") => `(tactic| first
  | assumption
  | (refine Pw.WallAt.mono (H := ?hh) ?h ?s; (case h => assumption); (case s => walk_at "same")))
local macro_rules | `(tactic| walk_at "leaf") => `(tactic| first
  | with_reducible rfl
  | with_reducible exact Pw.kit_ii
  | with_reducible exact Pw.relRef
  | with_reducible exact Pw.relTy
  | with_reducible exact Pw.kit_ib
  | with_reducible exact Pw.kit_ll
  | with_reducible exact Pw.kit_tt
  | with_reducible exact Pw.kit_ss
  | with_reducible exact Pw.kit_il
  | with_reducible exact Pw.kit_is
  | with_reducible exact Pw.kit_ls
  | with_reducible exact Pw.kit_sl
  | with_reducible exact Pw.kit_ns
  | with_reducible exact Pw.kit_nl
  | with_reducible assumption
  | (with_reducible refine Pw.leI ?_; (first | walk_at "arith" | exact Pw.szLe (by walk_at "arith") | exact Pw.szLt (by walk_at "arith") | decide))
  | (with_reducible refine Pw.ltI ?_; (first | walk_at "arith" | exact Pw.szLe (by walk_at "arith") | exact Pw.szLt (by walk_at "arith") | decide))
  | (with_reducible refine Pw.leN ?_; (first | walk_at "arith" | exact Pw.szLe (by walk_at "arith") | exact Pw.szLt (by walk_at "arith") | decide))
  | (with_reducible refine Pw.ltN ?_; (first | walk_at "arith" | exact Pw.szLe (by walk_at "arith") | exact Pw.szLt (by walk_at "arith") | decide))
  | rfl
  | assumption
  | with_reducible exact Pw.wf_boxes
  | with_reducible exact Pw.wf_inside
  | with_reducible exact Pw.wf_parcels
  | with_reducible exact Pw.wf_today
  | with_reducible exact Pw.wf_sizes
  | with_reducible exact Pw.wf_held
  | with_reducible exact Pw.wf_day
  | with_reducible exact Pw.wf_free
  | with_reducible exact Pw.wf_see
  | with_reducible exact Pw.wf_size_of
  | with_reducible exact Pw.wf_left
  | with_reducible exact Pw.wf_come
  | with_reducible exact Pw.wf_fetch
  | with_reducible exact Pw.wf_night
  | with_reducible exact Pw.wf_move
  | exact ClsV.ty _
  | exact ClsV.own _
  | with_reducible exact TyX.base (TyOf.int _)
  | with_reducible exact TyX.base (TyOf.bl _)
  | with_reducible exact TyX.base (TyOf.str _)
  | with_reducible exact TyX.base TyOf.non
  | (refine TyX.base (TyOf.lst (xs := ?xx) ?q); (case q => walk_at "heap"))
  | (refine TyX.base (TyOf.tup (xs := ?xx) ?q); (case q => walk_at "heap"))
  | with_reducible exact Pw.putL0
  | with_reducible exact Pw.putL1
  | with_reducible exact Pw.putL2
  | with_reducible exact Pw.wfL
  | walk_at "sq"
  | walk_at "heap"
  | walk_at "arith"
  | (with_reducible refine Pw.wallI ?h; (case h => walk_at "wall"))
  | (refine Or.inl ?q; (case q => walk_at "sq"))
  | (refine Or.inr ?q; (case q => walk_at "sq"))
  | (refine Exists.intro ?ww ?q; (case q => walk_at "sq"))
  | (refine Or.inl (And.intro rfl (Exists.intro ?ww ?q)); (case q => walk_at "sq"))
  | (refine Or.inl (And.intro ?r (Exists.intro ?ww ?q)); (case r => rfl); (case q => walk_at "sq"))
  | exact Pw.atInt (by walk_at "arith") (by walk_at "arith")
  | with_reducible exact Pw.cpow109
  | (with_reducible refine Pw.cmulL ?_; decide)
  | (with_reducible refine Pw.cmulR ?_; decide)
  | decide)
local macro_rules | `(tactic| walk_at "sure") => `(tactic| first | with_reducible assumption | with_reducible rfl | with_reducible exact Pw.intNon | (with_reducible refine Pw.strNe ?_; decide +kernel) | (with_reducible refine Pw.intEq ?_; walk_at "arith") | (with_reducible refine Pw.intNe ?_; walk_at "arith") | walk_at "arith")
local macro_rules | `(tactic| walk_at "if") => `(tactic| first
  | (with_reducible refine Pw.ifDT ?c ?_; (case c => walk_at "sure"))
  | (with_reducible refine Pw.ifDF ?c ?_; (case c => walk_at "sure"))
  | (with_reducible refine Pw.ifNT ?c ?_; (case c => walk_at "sure"))
  | (with_reducible refine Pw.ifNF ?c ?_; (case c => walk_at "sure")))
local macro_rules | `(tactic| walk_at "go") => `(tactic| repeat (first | apply Exists.intro | (refine And.intro ?l ?_; (case l => walk_at "leaf")) | walk_at "if"))
namespace Pw
/-- what the law draws -/
def drawn (ns : List Int) (k many : Int) : Int :=
  let cell := if 0 < (ns.length : Int) then ns.getD (k.fmod ns.length).toNat 0 else 7
  let s1 := (cell * 48271 + (k + 1) * 7919 + ns.length) % 2147483647
  let s2 := (s1 * s1 + k * 16807 + 11) % 2147483647
  (s2 * 48271 % 2147483647 / 16).fmod many
theorem drawn_in (ns : List Int) (k : Int) {many : Int} (h : 0 < many) : 0 ≤ drawn ns k many ∧ drawn ns k many < many := by
  unfold drawn
  exact ⟨Int.fmod_nonneg_of_pos _ h, Int.fmod_lt_of_pos _ h⟩
def sp_law_drawn (K : PySem.W.Frag) : Sp := fun vs H Q _ => ∃ (a : Addr) (ns : List Int) (k many : Int), vs = [.ref a, .int k, .int many] ∧ SqL K H a (ns.map V.int) ∧ ns.length ≤ 63 ∧ 0 < many ∧
  (0 ≤ drawn ns k many → drawn ns k many < many → Q (.int (drawn ns k many)) H)
theorem len_law_drawn {K : PySem.W.Frag} : ∀ vs H Q E, sp_law_drawn K vs H Q E → vs.length = 3 := by
  rintro vs H Q E ⟨_, _, _, _, rfl, _⟩
  rfl
def t_law_drawn (K : PySem.W.Frag) (E : XK) : TS :=
  tSeq (tAsg (tC (.int 7)) (gName 3))
    (tSeq (tIfS (tTest (tOp rGt (tCB (rLenSeq K) (tCons (tVar 0) tNil)) (tC (.int 0)))) (tAsg (tOp (rIxL K) (tVar 0) (tOp rModN (tVar 1) (tCB (rLenSeq K) (tCons (tVar 0) tNil)))) (gName 3)) (tNext))
    (tSeq (tAsg (tOp rModP (tOp rAddI (tOp rAddI (tOp rMulI (tVar 3) (tC (.int 48271))) (tOp rMulI (tOp rAddI (tVar 1) (tC (.int 1))) (tC (.int 7919)))) (tCB (rLenSeq K) (tCons (tVar 0) tNil))) (tC (.int 2147483647))) (gName 4))
    (tSeq (tAsg (tOp rModP (tOp rAddI (tOp rAddI (tOp rMulI (tVar 4) (tVar 4)) (tOp rMulI (tVar 1) (tC (.int 16807)))) (tC (.int 11))) (tC (.int 2147483647))) (gName 4))
    (tRet (tOp rModN (tOp rDivP (tOp rModP (tOp rMulI (tVar 4) (tC (.int 48271))) (tC (.int 2147483647))) (tC (.int 16))) (tVar 2))))))
theorem pure_law_drawn {K : PySem.W.Frag} (vs : List V) (H : Hp) (Q : VK) (E : XK) (h : sp_law_drawn K vs H Q E) : t_law_drawn K E { nx := fun _ H' => Q .non H', rt := Q } (start ["script", "k", "many", "cell", "stir"] vs) H := by
  obtain ⟨a, ns, k, many, rfl, hS, hl, hm, q⟩ := h
  have hd := drawn_in ns k hm
  have q := q hd.1 hd.2
  have fin : ∀ cell : Int, cell = (if 0 < (ns.length : Int) then ns.getD (k.fmod ns.length).toNat 0 else 7) → ∀ σ : L2.St, σ = [some (.ref a), some (.int k), some (.int many), some (.int cell), none] →
      (tSeq (tAsg (tOp rModP (tOp rAddI (tOp rAddI (tOp rMulI (tVar 3) (tC (.int 48271))) (tOp rMulI (tOp rAddI (tVar 1) (tC (.int 1))) (tC (.int 7919)))) (tCB (rLenSeq K) (tCons (tVar 0) tNil))) (tC (.int 2147483647))) (gName 4))
    (tSeq (tAsg (tOp rModP (tOp rAddI (tOp rAddI (tOp rMulI (tVar 4) (tVar 4)) (tOp rMulI (tVar 1) (tC (.int 16807)))) (tC (.int 11))) (tC (.int 2147483647))) (gName 4))
    (tRet (tOp rModN (tOp rDivP (tOp rModP (tOp rMulI (tVar 4) (tC (.int 48271))) (tC (.int 2147483647))) (tC (.int 16))) (tVar 2))))) { nx := fun _ H' => Q .non H', rt := Q } σ H := by
    intro cell ec σ es
    subst es
    have b1 := Int.emod_nonneg (cell * 48271 + (k + 1) * 7919 + ((ns.map V.int).length : Int)) (show (2147483647 : Int) ≠ 0 by decide)
    have b2 := Int.emod_lt_of_pos (cell * 48271 + (k + 1) * 7919 + ((ns.map V.int).length : Int)) (show (0 : Int) < 2147483647 by decide)
    walk_at "go"
    refine ⟨.inl ⟨by omega, by omega⟩, ?_⟩
    walk_at "go"
    refine ⟨⟨by decide, by decide⟩, ?_⟩
    walk_at "go"
    have e : drawn ns k many = ((((cell * 48271 + (k + 1) * 7919 + ns.length) % 2147483647 * ((cell * 48271 + (k + 1) * 7919 + ns.length) % 2147483647) + k * 16807 + 11) % 2147483647) * 48271 % 2147483647 / 16).fmod many := by
      unfold drawn; rw [← ec]
    rw [e] at q
    rw [List.length_map]
    exact q
  unfold t_law_drawn
  walk_at "go"
  refine ifD (fun h1 => ?_) (fun h1 => ?_)
  · walk_at "go"
    rw [List.length_map] at h1 ⊢
    have f1 := Int.fmod_nonneg_of_pos k h1
    have f2 := Int.fmod_lt_of_pos k h1
    refine ⟨atInt f1 f2, ?_⟩
    refine fin _ ?_ _ rfl
    rw [if_pos h1]
  · refine fin 7 ?_ _ rfl
    rw [List.length_map] at h1
    rw [if_neg h1]
end Pw
namespace Pw
def sp_law_sizes_by (K : PySem.W.Frag) : Sp := fun vs H Q _ => ∃ (a : Addr) (ns : List Int) (b : Int), vs = [.ref a, .int b] ∧ SqL K H a (ns.map V.int) ∧ ns.length ≤ 63 ∧ ∀ sizes : List Int, OkW sizes → RetNew H Q (sizes.map V.int)
theorem len_law_sizes_by {K : PySem.W.Frag} : ∀ vs H Q E, sp_law_sizes_by K vs H Q E → vs.length = 2 := by
  rintro vs H Q E ⟨_, _, _, rfl, _⟩
  rfl
def t_law_sizes_by (K : PySem.W.Frag) (E : XK) : TS :=
  tSeq (tAsg (tOp rAddI (tC (.int 1)) (tCall (sp_law_drawn K) [] E0 (tCons (tVar 0) (tCons (tVar 1) (tCons (tC (.int 8)) tNil))))) (gName 2))
    (tSeq (tAsg (tOp (rIxL K) (tLst (tCons (tC (.int 3)) (tCons (tC (.int 5)) (tCons (tC (.int 9)) tNil)))) (tCall (sp_law_drawn K) [] E0 (tCons (tVar 0) (tCons (tOp rAddI (tVar 1) (tC (.int 1))) (tCons (tC (.int 3)) tNil))))) (gName 3))
    (tRet (tLc (iRng1 (tCons (tVar 2) tNil)) (gName 4) tYes (tOp rAddI (tC (.int 1)) (tCall (sp_law_drawn K) [] E0 (tCons (tVar 0) (tCons (tOp rAddI (tOp rAddI (tVar 1) (tC (.int 2))) (tVar 4)) (tCons (tVar 3) tNil))))) [4])))
theorem pure_law_sizes_by {K : PySem.W.Frag} (vs : List V) (H : Hp) (Q : VK) (E : XK) (h : sp_law_sizes_by K vs H Q E) : t_law_sizes_by K E { nx := fun _ H' => Q .non H', rt := Q } (start ["script", "base", "many", "top", "k"] vs) H := by
  obtain ⟨a, ns, b, rfl, hS, hl, k⟩ := h
  unfold t_law_sizes_by
  walk_at "go"
  intro d0 d1
  walk_at "go"
  intro p hp
  walk_at "go"
  intro e0 e1
  walk_at "go"
  refine ⟨atInt (xs := [3, 5, 9]) e0 e1, ?_⟩
  have ht : 1 ≤ ([3, 5, 9] : List Int).getD (drawn ns (b + 1) 3).toNat 0 ∧ ([3, 5, 9] : List Int).getD (drawn ns (b + 1) 3).toNat 0 ≤ (9 : Int) := by
    have q : (drawn ns (b + 1) 3).toNat = 0 ∨ (drawn ns (b + 1) 3).toNat = 1 ∨ (drawn ns (b + 1) 3).toNat = 2 := by omega
    rcases q with q | q | q <;> rw [q] <;> decide
  generalize ([3, 5, 9] : List Int).getD (drawn ns (b + 1) 3).toNat 0 = top at ht ⊢
  generalize drawn ns b 8 = many at d0 d1 ⊢
  walk_at "go"
  intro D hD
  have hS1 : SqL K (upd H p (.lst [V.int 3, V.int 5, V.int 9])) a (ns.map V.int) := (sameNew (Same.refl _) hp).seq hS
  refine lcRng (n := (1 + many).toNat) (fun _ => true) (fun i : Nat => V.int (1 + drawn ns (b + 2 + (0 + (i : Int))) top)) hD (by omega) (fun _ => rfl) (fun i H' hi s' TT k' => ?_) (fun i H' hi _ s' Qv k' => ?_) (fun H' s' hD' => ?_)
  · exact k' _ (Same.refl _)
  · walk_at "go"
    intro d2 d3
    walk_at "go"
    exact k' _ (Same.refl _)
  · rw [filterAll] at hD'
    refine k ((List.range (1 + many).toNat).map fun i : Nat => 1 + drawn ns (b + 2 + (0 + (i : Int))) top) ⟨by simp; omega, by simp; omega, ?_⟩ _ D ((sameNew (Same.refl _) hp).trans s') (updFree hD) ?_
    · intro x hx
      obtain ⟨i, _, rfl⟩ := List.mem_map.mp hx
      have := drawn_in ns (b + 2 + (0 + (i : Int))) (many := top) (by omega)
      omega
    · rw [hD', List.map_map]; rfl
end Pw
namespace Pw
def sp_is_size (K : PySem.W.Frag) : Sp := fun vs H Q _ => ∃ n : Int, vs = [.int n] ∧ Q (.bl (decide (1 ≤ n ∧ n ≤ 9))) H
theorem len_is_size {K : PySem.W.Frag} : ∀ vs H Q E, sp_is_size K vs H Q E → vs.length = 1 := by
  rintro vs H Q E ⟨_, rfl, _⟩
  rfl
def t_is_size (K : PySem.W.Frag) (E : XK) : TS :=
  tRet (tAndV (tOp rLe (tC (.int 1)) (tVar 0)) (tOp rLe (tVar 0) (tC (.int 9))))
theorem pure_is_size {K : PySem.W.Frag} (vs : List V) (H : Hp) (Q : VK) (E : XK) (h : sp_is_size K vs H Q E) : t_is_size K E { nx := fun _ H' => Q .non H', rt := Q } (start ["number"] vs) H := by
  obtain ⟨n, rfl, k⟩ := h
  unfold t_is_size
  walk_at "go"
  refine ifD (fun h1 => ?_) (fun h1 => ?_)
  · walk_at "go"
    simpa [h1] using k
  · simpa [h1] using k
end Pw
namespace Pw
def sp_Wall_init (K : PySem.W.Frag) : Sp := fun vs H Q E => ∃ (w dx a : Addr) (ns : List Int), vs = [.ref w, .ref a] ∧ H w = some (.ins (He.ga K "Wall") dx []) ∧ SqL K H a (ns.map V.int) ∧ ns.length ≤ 1000 ∧
  (OkW ns → ∀ H' l1 l2 l3, WallAt K H' ⟨w, dx, l1, l2, l3, ns, List.replicate ns.length none, [], 0⟩ → H l1 = none → H l2 = none → H l3 = none → (∀ b o, H b = some o → b ≠ w → H' b = some o) → Q .non H') ∧
  (¬ OkW ns → E (.ref (He.ga K "NoWall")) none H)
theorem len_Wall_init {K : PySem.W.Frag} : ∀ vs H Q E, sp_Wall_init K vs H Q E → vs.length = 2 := by
  rintro vs H Q E ⟨_, _, _, _, rfl, _⟩
  rfl
def t_Wall_init (K : PySem.W.Frag) (E : XK) : TS :=
  tSeq (tIfS (tOr (tTest (tOp rLt (tCB (rLenSeq K) (tCons (tVar 1) tNil)) (tC (.int 1)))) (tTest (tOp rGt (tCB (rLenSeq K) (tCons (tVar 1) tNil)) (tC (.int 8))))) (tRaise E (He.ga K "NoWall")) (tNext))
    (tSeq (tForP (iList K (tVar 1)) (gName 2) (tIfS (tNot (tB (tCall (sp_is_size K) [] E0 (tCons (tVar 2) tNil)))) (tRaise E (He.ga K "NoWall")) (tNext)))
    (tSeq (sFld K (tVar 0) (tCB (rListOf K) (tCons (tVar 1) tNil)) "boxes")
    (tSeq (sFld K (tVar 0) (tLc (iList K (tVar 1)) (gName 2) tYes (tC .non) [2]) "inside")
    (tSeq (sFld K (tVar 0) (tLst tNil) "parcels")
    (sFld K (tVar 0) (tC (.int 0)) "today")))))
theorem pure_Wall_init {K : PySem.W.Frag} (T : TW K) (vs : List V) (H : Hp) (Q : VK) (E : XK) (h : sp_Wall_init K vs H Q E) : t_Wall_init K E { nx := fun _ H' => Q .non H', rt := Q } (start ["self", "sizes", "size"] vs) H := by
  obtain ⟨w, dx, a, ns, rfl, hw, hS, hl, k, kE⟩ := h
  obtain ⟨tcl, tnb, tni, tnp, tnt⟩ := id T
  unfold t_Wall_init
  walk_at "go"
  simp only [List.length_map]
  refine ifD (fun c => ?_) (fun c => ?_)
  · exact kE fun o => by have := o.1; omega
  walk_at "go"
  simp only [List.length_map]
  refine ifD (fun c2 => ?_) (fun c2 => ?_)
  · exact kE fun o => by have := o.2.1; omega
  walk_at "go"
  refine forList (K := K) (a := a) (xs := ns.map V.int) (fun i σ H' => ∃ v : Option V, σ = [some (.ref w), some (.ref a), v] ∧ H' = H ∧ ∀ x ∈ ns.take i, 1 ≤ x ∧ x ≤ 9) ⟨none, rfl, rfl, by simp⟩ ?_ ?_ ?_
  · rintro i σ H' _ ⟨v, _, rfl, _⟩
    exact hS
  · rintro i x σ H' hi ⟨v, rfl, rfl, ha⟩
    obtain ⟨n, hn, rfl⟩ := mapGet hi
    walk_at "go"
    refine ifN (fun c => ?_) (fun c => ?_)
    · refine kE fun o => c (o.2.2 n (List.mem_of_getElem? hn))
    · walk_at "go"
      intro x hx
      rw [takeMore hn] at hx
      rcases List.mem_append.mp hx with q | q
      · exact ha x q
      · rw [List.mem_singleton.mp q]; exact c
  · rintro σ H' ⟨v, rfl, rfl, ha⟩
    rw [List.length_map, List.take_length] at ha
    have ok : OkW ns := ⟨by omega, by omega, ha⟩
    walk_at "go"
    intro l1 h1
    have n1 : w ≠ l1 := ne_of_none hw h1
    have hS2 : SqL K (upd (upd H' l1 (.lst (ns.map V.int))) w (.ins (He.ga K "Wall") dx (putF "boxes" (.ref l1) []))) a (ns.map V.int) := by
      rcases hS with (q | ⟨o, q⟩) | q
      · refine .inl (.inl ?_)
        rw [upd_ne (ne_of q hw (by intro z; cases z)), upd_ne (ne_of_none q h1)]; exact q
      · refine .inl (.inr ⟨o, ?_⟩)
        rw [upd_ne (ne_of q hw (by intro z; cases z)), upd_ne (ne_of_none q h1)]; exact q
      · exact .inr q
    walk_at "go"
    intro l2 h2
    refine lcMap (fun _ => true) (fun _ => V.non) h2 hS2 (by omega) (fun _ => rfl) (fun i n H3 _ s3 TT k' => ?_) (fun i n H3 _ _ s3 Qv k' => ?_) (fun H3 s3 hD => ?_)
    · exact k' _ (Same.refl _)
    · exact k' _ (Same.refl _)
    rw [filterAll] at hD
    have f1 : H' l2 = none := updFree (updFree h2)
    have n2 : w ≠ l2 := ne_of_none hw f1
    have n12 : l2 ≠ l1 := fun e => by
      rw [e, upd_ne n1.symm, upd_same] at h2
      cases h2
    have hw3 : H3 w = some (.ins (He.ga K "Wall") dx (putF "boxes" (.ref l1) [])) := s3 _ _ upd_same
    have hl1 : H3 l1 = some (.lst (ns.map V.int)) := s3 _ _ (by rw [upd_ne n1.symm]; exact upd_same)
    walk_at "go"
    intro l3 h3
    have h3' : H3 l3 = none := by
      have n : l3 ≠ w := fun e => by rw [e, upd_same] at h3; cases h3
      rw [upd_ne n] at h3; exact h3
    have n3 : w ≠ l3 := ne_of_none hw3 h3'
    have n13 : l1 ≠ l3 := ne_of_none hl1 h3'
    have n23 : l2 ≠ l3 := ne_of_none hD h3'
    walk_at "go"
    have fr3 : H' l3 = none := by
      cases q : H' l3 with
      | none => rfl
      | some o =>
        have := s3 l3 o (by rw [upd_ne n3.symm, upd_ne n13.symm]; exact q)
        rw [h3'] at this; cases this
    refine k ok _ l1 l2 l3 ⟨?_, ?_, ?_, ?_, n12.symm, n13, n23, by simp, ok.2.1, by simp, ?_⟩ h1 f1 fr3 ?_
    · rw [upd_same]
      exact congrArg (fun q => some (HO.ins (He.ga K "Wall") dx q)) wf_new
    · show upd _ w _ l1 = _
      rw [upd_ne n1.symm, upd_ne n1.symm, upd_ne n13, upd_ne n1.symm]; exact hl1
    · show upd _ w _ l2 = _
      rw [upd_ne n2.symm, upd_ne n2.symm, upd_ne n23, upd_ne n2.symm, hD]
      have e : ∀ l : List Int, l.map (fun _ => V.non) = (List.replicate l.length (none : Option Nat)).map optV := fun l => by
        rw [List.map_replicate]
        induction l with
        | nil => rfl
        | cons x r ih => rw [List.map_cons, List.length_cons, List.replicate_succ, ih]; rfl
      rw [e]
    · refine ⟨[], ?_, rfl, fun j t q => by simp at q⟩
      show upd _ w _ l3 = _
      rw [upd_ne n3.symm, upd_ne n3.symm, upd_same]; rfl
    · intro j n q
      have q : (List.replicate ns.length none)[j]? = some (some n) := q
      rw [List.getElem?_replicate] at q
      split at q
      · cases q
      · cases q
    · intro b o e hb
      rw [upd_ne hb, upd_ne hb, upd_ne (fun z => by rw [z, fr3] at e; cases e), upd_ne hb]
      exact s3 b o (by rw [upd_ne hb, upd_ne (fun z => by rw [z, h1] at e; cases e)]; exact e)
theorem newWall {K : PySem.W.Frag} {H : Hp} {a : Addr} {zs : List Int} {Q : Addr → Hp → Prop} {E : XK} (hA : SqL K H a (zs.map V.int)) (ok : OkW zs)
    (k : ∀ x dx l1 l2 l3 H', Same H H' → WallAt K H' ⟨x, dx, l1, l2, l3, zs, List.replicate zs.length none, [], 0⟩ → H x = none → H l1 = none → H l2 = none → H l3 = none → Q x H') :
    ∀ x dx, H x = none → H dx = none → dx ≠ x → sp_Wall_init K [.ref x, .ref a] (upd (upd H dx (.own x)) x (.ins (He.ga K "Wall") dx [])) (fun v H2 => v = .non ∧ Q x H2) E := by
  intro x dx hx hdx hne
  have s3 : Same H (upd (upd H dx (.own x)) x (.ins (He.ga K "Wall") dx [])) := sameNew (sameNew (Same.refl _) hdx) (by rw [upd_ne (Ne.symm hne)]; exact hx)
  have l8 := ok.2.1
  refine ⟨x, dx, a, zs, rfl, upd_same, s3.seq hA, by omega, fun _ H2 l1 l2 l3 A n1 n2 n3 fr => ?_, fun nok => absurd ok nok⟩
  exact ⟨rfl, k x dx l1 l2 l3 H2 (fun c o e => fr c o (s3 c o e) (ne_of_none e hx)) A hx (s3.free n1) (s3.free n2) (s3.free n3)⟩
end Pw
namespace Pw
/-! ### data that is compared as a whole -/
structure PlD (n : Nat) (d : PyData) : Prop where
  c : d.canLay0 = true
  dp : d.depth ≤ n
theorem plInt (i : Int) : PlD 0 (.int i) := ⟨by simp [PyData.canLay0], by simp [PyData.depth]⟩
theorem plBool (b : Bool) : PlD 0 (.bool b) := ⟨by simp [PyData.canLay0], by simp [PyData.depth]⟩
theorem plStr (x : Str) (h : PyData.strOk x = true) : PlD 0 (.str x) := ⟨by simp [PyData.canLay0, h], by simp [PyData.depth]⟩
theorem plNone : PlD 0 .none := ⟨by simp [PyData.canLay0], by simp [PyData.depth]⟩
theorem PlD.up {n m : Nat} {d : PyData} (h : PlD n d) (hm : n ≤ m) : PlD m d := ⟨h.c, Nat.le_trans h.dp hm⟩
theorem plAll {n : Nat} : ∀ {ds : List PyData}, (∀ d ∈ ds, PlD n d) → PyData.canLayAll0 ds = true ∧ PyData.depthAll ds ≤ n
  | [], _ => ⟨by simp [PyData.canLayAll0], by simp [PyData.depthAll]⟩
  | d :: r, h => by
    have a := h d List.mem_cons_self
    have b := plAll (ds := r) fun x hx => h x (List.mem_cons_of_mem _ hx)
    refine ⟨?_, ?_⟩
    · simp only [PyData.canLayAll0, a.c, b.1, Bool.and_self]
    · have a2 := a.dp
      simp only [PyData.depthAll]
      omega
theorem plList {n : Nat} {ds : List PyData} (h : ∀ d ∈ ds, PlD n d) : PlD (n + 1) (.list ds) := by
  have q := plAll h
  exact ⟨by simp only [PyData.canLay0]; exact q.1, by simp only [PyData.depth]; omega⟩
theorem plTup {n : Nat} {ds : List PyData} (h : ∀ d ∈ ds, PlD n d) : PlD (n + 1) (.tuple ds) := by
  have q := plAll h
  exact ⟨by simp only [PyData.canLay0]; exact q.1, by simp only [PyData.depth]; omega⟩
theorem PlD.ok {n : Nat} {d : PyData} (h : PlD n d) (hn : n ≤ 64) : SeqAt.shaped d = true := by
  unfold SeqAt.shaped
  rw [h.c, decide_eq_true (Nat.le_trans h.dp hn)]; rfl
theorem PlD.eq {n : Nat} {d : PyData} (h : PlD n d) : PyData.eqv d d = true := SeqAt.eqv_refl d h.c
theorem dpAllMap {α : Type} {K : PySem.W.Frag} {H : Hp} {f : α → V} {g : α → PyData} (h : ∀ x, Dp K H (f x) (g x)) : ∀ xs : List α, DpAll K H (xs.map f) (xs.map g)
  | [] => .nil
  | x :: r => .cons (h x) (dpAllMap h r)
theorem dpInts {K : PySem.W.Frag} {H : Hp} {a : Addr} {ns : List Int} (h : SqL K H a (ns.map V.int)) : Dp K H (.ref a) (.list (ns.map PyData.int)) := .lst h (dpAllMap (fun x => .int x) ns)
theorem plInts (ns : List Int) : PlD 1 (.list (ns.map PyData.int)) := plList fun d hd => by
  obtain ⟨x, _, rfl⟩ := List.mem_map.mp hd
  exact plInt x
theorem plMem1 {n : Nat} {a : PyData} (h : PlD n a) : ∀ d ∈ [a], PlD n d := fun d hd => by
  rw [List.mem_singleton.mp hd]; exact h
theorem plCons {n : Nat} {a : PyData} {r : List PyData} (h : PlD n a) (h2 : ∀ d ∈ r, PlD n d) : ∀ d ∈ a :: r, PlD n d := fun d hd => by
  rcases List.mem_cons.mp hd with e | e
  · rw [e]; exact h
  · exact h2 d e
theorem plNil {n : Nat} : ∀ d ∈ ([] : List PyData), PlD n d := fun d hd => by cases hd
/-- two lists of ints in a list -/
theorem dpTwo {K : PySem.W.Frag} {H : Hp} {l a b : Addr} {xs ys : List Int} (h : SqL K H l [.ref a, .ref b]) (ha : SqL K H a (xs.map V.int)) (hb : SqL K H b (ys.map V.int)) :
    Dp K H (.ref l) (.list [.list (xs.map PyData.int), .list (ys.map PyData.int)]) := .lst h (.cons (dpInts ha) (.cons (dpInts hb) .nil))
theorem plTwo (xs ys : List Int) : PlD 2 (.list [.list (xs.map PyData.int), .list (ys.map PyData.int)]) := plList (plCons (plInts xs) (plCons (plInts ys) plNil))
/-- != of two such -/
theorem neTwo {K : PySem.W.Frag} {H : Hp} {l l' a b a' b' : Addr} {xs ys : List Int} {Q : VK} (h : SqL K H l [.ref a, .ref b]) (ha : SqL K H a (xs.map V.int)) (hb : SqL K H b (ys.map V.int))
    (h' : SqL K H l' [.ref a', .ref b']) (ha' : SqL K H a' (xs.map V.int)) (hb' : SqL K H b' (ys.map V.int)) (k : Q (.bl false) H) : rNeDI K (.ref l) (.ref l') H Q := by
  unfold rNeDI
  exact ⟨_, _, dpTwo h ha hb, dpTwo h' ha' hb', (plTwo xs ys).ok (by decide), (plTwo xs ys).ok (by decide), by rw [(plTwo xs ys).eq]; exact k⟩
theorem eqTwo {K : PySem.W.Frag} {H : Hp} {l l' a b a' b' : Addr} {xs ys : List Int} {Q : VK} (h : SqL K H l [.ref a, .ref b]) (ha : SqL K H a (xs.map V.int)) (hb : SqL K H b (ys.map V.int))
    (h' : SqL K H l' [.ref a', .ref b']) (ha' : SqL K H a' (xs.map V.int)) (hb' : SqL K H b' (ys.map V.int)) (k : Q (.bl true) H) : rEqDI K (.ref l) (.ref l') H Q := by
  unfold rEqDI
  exact ⟨_, _, dpTwo h ha hb, dpTwo h' ha' hb', (plTwo xs ys).ok (by decide), (plTwo xs ys).ok (by decide), by rw [(plTwo xs ys).eq]; exact k⟩
end Pw
namespace Pw
section
variable {K : PySem.W.Frag} {H : Hp} {x y : V} {d : PyData} {n : Nat} {Q : VK}
theorem eqSame (h : Dp K H x d) (h' : Dp K H y d) (pl : PlD n d) (k : Q (.bl true) H) (hn : n ≤ 64 := by decide) : rEqDI K x y H Q := by
  unfold rEqDI
  exact ⟨_, _, h, h', pl.ok hn, pl.ok hn, by rw [pl.eq]; exact k⟩
theorem neSame (h : Dp K H x d) (h' : Dp K H y d) (pl : PlD n d) (k : Q (.bl false) H) (hn : n ≤ 64 := by decide) : rNeDI K x y H Q := by
  unfold rNeDI
  exact ⟨_, _, h, h', pl.ok hn, pl.ok hn, by rw [pl.eq]; exact k⟩
theorem dpBools {a : Addr} (bs : List Bool) (h : SqL K H a (bs.map V.bl)) : Dp K H (.ref a) (.list (bs.map PyData.bool)) := .lst h (dpAllMap (fun x => .bl x) bs)
theorem plBools (bs : List Bool) : PlD 1 (.list (bs.map PyData.bool)) := plList fun d hd => by
  obtain ⟨x, _, rfl⟩ := List.mem_map.mp hd
  exact plBool x
theorem dpPair {p : Addr} {u v : V} {du dv : PyData} (h : H p = some (.tup [u, v])) (hu : Dp K H u du) (hv : Dp K H v dv) : Dp K H (.ref p) (.tuple [du, dv]) := .tup (SqT.of h) (.cons hu (.cons hv .nil))
theorem plPair {du dv : PyData} (hu : PlD n du) (hv : PlD n dv) : PlD (n + 1) (.tuple [du, dv]) := plTup (plCons hu (plCons hv plNil))
theorem dpNil {p : Addr} (h : SqL K H p []) : Dp K H (.ref p) (.list []) := .lst h .nil
theorem plNilL : PlD 1 (.list []) := plList plNil
end
theorem WallAt.lstUpd {K : PySem.W.Frag} {H : Hp} {s : WS} {a : Addr} {xs ys : List V} (h : WallAt K H s) (ha : H a = some (.lst xs)) (n1 : a ≠ s.l1) (n2 : a ≠ s.l2) (n3 : a ≠ s.l3) : WallAt K (upd H a (.lst ys)) s :=
  ⟨by rw [upd_ne (ne_of h.ob ha (by intro q; cases q))]; exact h.ob, by rw [upd_ne (Ne.symm n1)]; exact h.bx, by rw [upd_ne (Ne.symm n2)]; exact h.is,
   let ⟨ts, h1, h2, h3⟩ := h.ps; ⟨ts, by rw [upd_ne (Ne.symm n3)]; exact h1, h2, fun j t q => by rw [upd_ne (ne_of (h3 j t q) ha (by intro q; cases q))]; exact h3 j t q⟩, h.n12, h.n13, h.n23, h.len, h.l8, h.pl, h.nb⟩
end Pw
namespace Pw
/-! ### lists of pairs of ints -/
def pairAt (H : Hp) (v : V) : Int × Int := match v with
  | .ref t => (match H t with
    | some (.tup [.int i, .int j]) => (i, j)
    | _ => (0, 0))
  | _ => (0, 0)
theorem pairAt_of {H : Hp} {t : Addr} {i j : Int} (h : H t = some (.tup [.int i, .int j])) : pairAt H (.ref t) = (i, j) := by
  unfold pairAt
  simp only [h]
def IsPair (H : Hp) (y : V) : Prop := ∃ (t : Addr) (i j : Int), y = V.ref t ∧ H t = some (.tup [.int i, .int j])
theorem IsPair.at_ {H : Hp} {y : V} (h : IsPair H y) : ∃ t, y = V.ref t ∧ H t = some (.tup [.int (pairAt H y).1, .int (pairAt H y).2]) := by
  obtain ⟨t, i, j, rfl, e⟩ := h
  exact ⟨t, rfl, by rw [pairAt_of e]; exact e⟩
theorem IsPair.keep {H H' : Hp} {y : V} (h : IsPair H y) (s : ∀ t i j, H t = some (.tup [.int i, .int j]) → H' t = some (.tup [.int i, .int j])) : IsPair H' y ∧ pairAt H' y = pairAt H y := by
  obtain ⟨t, i, j, rfl, e⟩ := h
  exact ⟨⟨t, i, j, rfl, s _ _ _ e⟩, by rw [pairAt_of e, pairAt_of (s _ _ _ e)]⟩
/-- a list of pairs stands at p -/
structure PairL (H : Hp) (p : Addr) (ps : List (Int × Int)) : Prop where
  ex : ∃ ys : List V, H p = some (.lst ys) ∧ (∀ y ∈ ys, IsPair H y) ∧ ys.map (pairAt H) = ps
theorem mapKeep {H H' : Hp} {ys : List V} (h : ∀ y ∈ ys, IsPair H y) (s : ∀ t i j, H t = some (.tup [.int i, .int j]) → H' t = some (.tup [.int i, .int j])) : (∀ y ∈ ys, IsPair H' y) ∧ ys.map (pairAt H') = ys.map (pairAt H) :=
  ⟨fun y hy => ((h y hy).keep s).1, List.map_congr_left fun y hy => ((h y hy).keep s).2⟩
theorem PairL.mono {H H' : Hp} {p : Addr} {ps : List (Int × Int)} (h : PairL H p ps) (s : Same H H') : PairL H' p ps := by
  obtain ⟨ys, h1, h2, h3⟩ := h.ex
  have q := mapKeep (H' := H') h2 fun t i j e => s _ _ e
  exact ⟨ys, s _ _ h1, q.1, by rw [q.2, h3]⟩
theorem PairL.at_ {H : Hp} {p : Addr} {ps : List (Int × Int)} (h : PairL H p ps) {z : Int} (h0 : 0 ≤ z) (h1 : z < ps.length) :
    ∃ ys t, H p = some (.lst ys) ∧ atI ys z = some (V.ref t) ∧ H t = some (.tup [.int (ps.getD z.toNat (0, 0)).1, .int (ps.getD z.toNat (0, 0)).2]) := by
  obtain ⟨ys, e1, e2, e3⟩ := h.ex
  have hl : ys.length = ps.length := by rw [← e3, List.length_map]
  have hz : z.toNat < ys.length := by omega
  obtain ⟨t, ht, hh⟩ := (e2 ys[z.toNat] (List.getElem_mem hz)).at_
  refine ⟨ys, t, e1, at_of (j := z.toNat) (by omega) (by rw [List.getElem?_eq_getElem hz, ht]), ?_⟩
  have e : ps.getD z.toNat (0, 0) = pairAt H ys[z.toNat] := by
    rw [← e3, List.getD_eq_getElem?_getD, List.getElem?_map, List.getElem?_eq_getElem hz]; rfl
  rw [e]; exact hh
theorem PairL.len {H : Hp} {p : Addr} {ps : List (Int × Int)} (h : PairL H p ps) : ∃ ys, H p = some (.lst ys) ∧ ys.length = ps.length := by
  obtain ⟨ys, e1, _, e3⟩ := h.ex
  exact ⟨ys, e1, by rw [← e3, List.length_map]⟩
theorem PairL.nil {H : Hp} {p : Addr} (h : H p = some (.lst [])) : PairL H p [] := ⟨[], h, fun y hy => (by cases hy), rfl⟩
theorem PairL.snoc {H : Hp} {D t : Addr} {ps : List (Int × Int)} {i j : Int} (h : PairL H D ps) (ht : H t = some (.tup [.int i, .int j])) :
    ∃ ys, H D = some (.lst ys) ∧ ys.length = ps.length ∧ PairL (upd H D (.lst (ys ++ [V.ref t]))) D (ps ++ [(i, j)]) := by
  obtain ⟨ys, e1, e2, e3⟩ := h.ex
  refine ⟨ys, e1, by rw [← e3, List.length_map], ?_⟩
  have s : ∀ (t' : Addr) (i j : Int), H t' = some (.tup [.int i, .int j]) → upd H D (.lst (ys ++ [V.ref t])) t' = some (.tup [.int i, .int j]) := fun t' i j e => by
    rw [upd_ne (ne_of e e1 (by intro q; cases q))]; exact e
  have q := mapKeep (H' := upd H D (.lst (ys ++ [V.ref t]))) e2 s
  refine ⟨ys ++ [V.ref t], upd_same, fun y hy => ?_, ?_⟩
  · rcases List.mem_append.mp hy with z | z
    · exact q.1 y z
    · rw [List.mem_singleton.mp z]; exact ⟨t, i, j, rfl, s _ _ _ ht⟩
  · rw [List.map_append, q.2, e3]
    show ps ++ [pairAt _ (V.ref t)] = _
    rw [pairAt_of (s _ _ _ ht)]
def LexLe (p q : Int × Int) : Prop := p.1 < q.1 ∨ (p.1 = q.1 ∧ p.2 ≤ q.2)
/-- sorted(ps) -/
theorem sortedPairs {K : PySem.W.Frag} {H : Hp} {Q : VK} {a : Addr} {ps : List (Int × Int)} (h : PairL H a ps)
    (k : ∀ (ps' : List (Int × Int)) (p : Addr) (H' : Hp), ps'.Perm ps → ps'.Pairwise LexLe → Same H H' → H p = none → PairL H' p ps' → Q (.ref p) H') : rSortPO K [.ref a] H Q := by
  unfold rSortPO
  obtain ⟨ys, e1, e2, e3⟩ := h.ex
  refine ⟨a, ys, pairAt H, rfl, SqL.of e1, fun x hx => (e2 x hx).at_, fun zs p hs hst hp => ?_⟩
  have hperm : zs.Perm ys := hst.perm
  have s : Same H (upd H p (.lst zs)) := sameNew (Same.refl _) hp
  have hz : ∀ y ∈ zs, IsPair H y := fun y hy => e2 y (hperm.mem_iff.mp hy)
  have q := mapKeep (H' := upd H p (.lst zs)) hz fun t i j e => s _ _ e
  refine k (zs.map (pairAt H)) p _ (by rw [← e3]; exact hperm.map _) ?_ s hp ⟨zs, upd_same, q.1, q.2⟩
  rw [List.pairwise_map]
  refine List.Pairwise.imp (fun {x y} hxy => ?_) hs
  have := SrtO.lexB_no.mp hxy
  unfold LexLe
  omega
section
variable {K : PySem.W.Frag} {tt : TT} {te : TE} {vs : List Nat} {j : Nat} {σ : L2.St} {H1 : Hp} {D : Addr} {Qd : Hp → Prop}
/-- [(f(i), g(i)) for i in range(n) if p(i)] -/
theorem lcPairs {lo : Int} {n : Nat} (p : Nat → Bool) (f g : Nat → Int) (hD : H1 D = none) (hlen : n ≤ 50000) (hw : ∀ x, wipe ((wipe σ vs).set j (some x)) vs = wipe σ vs)
    (ht : ∀ (i : Nat) H', i < n → Same H1 H' → ∀ T : Bool → Hp → Prop, (∀ H'', Same H' H'' → T (p i) H'') → tt ((wipe σ vs).set j (some (.int (lo + i)))) H' T)
    (he : ∀ (i : Nat) H', i < n → p i = true → Same H1 H' → ∀ Qv : VK, (∀ t H'', Same H' H'' → H'' t = some (.tup [.int (f i), .int (g i)]) → Qv (.ref t) H'') → te ((wipe σ vs).set j (some (.int (lo + i)))) H' Qv)
    (hd : ∀ H', Same H1 H' → PairL H' D (((List.range n).filter p).map fun i => (f i, g i)) → Qd H') :
    ∃ W : Nat → Nat → Hp → Prop, (∃ m, W 0 m (upd H1 D (.lst []))) ∧ ∀ i m H, W i m H →
      ((Itr lo n).stop i H ∧ Qd H) ∨ ((Itr lo n).go i H ∧ ∃ Nx : Hp → Prop, (∀ H', Nx H' → ∃ m', m' < m ∧ W (i + 1) m' H') ∧ ∀ x H', (Itr lo n).yld i H x H' → gName j x (wipe σ vs) H' fun σ2 H2 => wipe σ2 vs = wipe σ vs ∧ tt σ2 H2 fun b H3 =>
        if b = true then te σ2 H3 fun y H4 => ∃ acc, H4 D = some (.lst acc) ∧ acc.length < sizeLine ∧ Nx (upd H4 D (.lst (acc ++ [y]))) else Nx H3) := by
  refine lc_range (lo := lo) (n := n) (fun i H' => Same H1 H' ∧ PairL H' D (((List.range i).filter p).map fun i => (f i, g i))) ⟨sameNew (Same.refl _) hD, PairL.nil upd_same⟩ ?_ ?_
  · rintro i H' hi ⟨s, hL⟩
    refine ⟨hw _, ?_⟩
    refine ht i H' hi s _ fun H3 s3 => ?_
    have e : ((List.range (i + 1)).filter p).map (fun i => (f i, g i)) = ((List.range i).filter p).map (fun i => (f i, g i)) ++ (if p i = true then [(f i, g i)] else []) := by
      rw [List.range_succ, List.filter_append, List.map_append]
      congr 1
      by_cases c : p i = true
      · rw [if_pos c]; simp [c]
      · rw [if_neg c]; simp [c]
    refine ifB (fun c => ?_) (fun c => ?_)
    · refine he i H3 hi c (s.trans s3) _ fun t H4 s4 ht4 => ?_
      rw [if_pos c] at e
      obtain ⟨ys, y1, y2, y3⟩ := (hL.mono (s3.trans s4)).snoc ht4
      refine ⟨ys, y1, ?_, sameMut (s.trans (s3.trans s4)) hD, by rw [e]; exact y3⟩
      have q1 : (((List.range i).filter p).map fun i => (f i, g i)).length ≤ i := by
        rw [List.length_map]
        exact Nat.le_trans (List.length_filter_le _ _) (by rw [List.length_range]; omega)
      exact szLt (by omega)
    · rw [if_neg (by rw [c]; exact Bool.false_ne_true), List.append_nil] at e
      exact ⟨s.trans s3, by rw [e]; exact hL.mono s3⟩
  · rintro H' ⟨s, hL⟩
    exact hd H' s hL
end
/-! ### how many are as great -/
def cntGe (xs : List Int) (s : Int) : Nat := (xs.filter fun x => decide (s ≤ x)).length
theorem cntGe_cons (x : Int) (xs : List Int) (s : Int) : cntGe (x :: xs) s = (if s ≤ x then 1 else 0) + cntGe xs s := by
  unfold cntGe
  by_cases h : s ≤ x
  · simp [h]; omega
  · simp [h]
theorem cntGe_perm {xs ys : List Int} (h : xs.Perm ys) (s : Int) : cntGe xs s = cntGe ys s := (h.filter _).length_eq
theorem cntGe_zero {xs : List Int} {s : Int} (h : ∀ y ∈ xs, y < s) : cntGe xs s = 0 := by
  induction xs with
  | nil => rfl
  | cons x r ih =>
    rw [cntGe_cons, if_neg (by have := h x List.mem_cons_self; omega), ih fun y hy => h y (List.mem_cons_of_mem _ hy)]
theorem cntGe_le (xs : List Int) (s : Int) : cntGe xs s ≤ xs.length := List.length_filter_le _ _
theorem cntGe_all {xs : List Int} {s : Int} (h : ∀ y ∈ xs, s ≤ y) : cntGe xs s = xs.length := by
  induction xs with
  | nil => rfl
  | cons x r ih =>
    rw [cntGe_cons, if_pos (h x List.mem_cons_self), ih fun y hy => h y (List.mem_cons_of_mem _ hy), List.length_cons]; omega
/-- in a falling list the first of those as great as s -/
theorem desc_cnt : ∀ {A : List Int} {s : Int}, A.Pairwise (fun x y => y ≤ x) → ∀ (k : Nat) (hk : k < A.length), s ≤ A[k] ↔ k < cntGe A s
  | [], _, _, k, hk => absurd hk (Nat.not_lt_zero _)
  | x :: r, s, h, k, hk => by
    obtain ⟨h1, h2⟩ := List.pairwise_cons.mp h
    rw [cntGe_cons]
    by_cases c : s ≤ x
    · rw [if_pos c]
      cases k with
      | zero => show s ≤ x ↔ _; exact ⟨fun _ => by omega, fun _ => c⟩
      | succ k =>
        have hk' : k < r.length := Nat.lt_of_succ_lt_succ hk
        have ih := desc_cnt (s := s) h2 k hk'
        show s ≤ r[k] ↔ _
        rw [ih]; omega
    · rw [if_neg c, cntGe_zero (fun y hy => by have := h1 y hy; omega)]
      constructor
      · intro q
        cases k with
        | zero => exact absurd q c
        | succ k =>
          have := h1 _ (List.getElem_mem (Nat.lt_of_succ_lt_succ hk))
          have q : s ≤ r[k]'(Nat.lt_of_succ_lt_succ hk) := q
          omega
      · intro q; omega
theorem fallen_le {A B : List Int} (hA : A.Pairwise fun x y => y ≤ x) (hB : B.Pairwise fun x y => y ≤ x) (h : ∀ s, 1 ≤ s → s ≤ 9 → cntGe A s ≤ cntGe B s) (hr : ∀ x ∈ A, 1 ≤ x ∧ x ≤ 9) (k : Nat) (hk : k < A.length) :
    ∃ hk' : k < B.length, A[k] ≤ B[k] := by
  have hs := hr _ (List.getElem_mem hk)
  have c1 := (desc_cnt (s := A[k]) hA k hk).mp (Int.le_refl _)
  have c2 := h A[k] hs.1 hs.2
  have c3 := cntGe_le B A[k]
  have hk' : k < B.length := by omega
  exact ⟨hk', (desc_cnt hB k hk').mpr (by omega)⟩
/-! ### a fitting -/
def Boxes (sizes parcels fs : List Int) : Prop := fs.length = parcels.length ∧ (∀ k < parcels.length, 0 ≤ fs.getD k 0 ∧ fs.getD k 0 < sizes.length ∧ parcels.getD k 0 ≤ sizes.getD (fs.getD k 0).toNat 0) ∧ fs.Nodup
def Many (sizes parcels : List Int) (s : Int) : Prop := 1 ≤ s ∧ s ≤ 9 ∧ cntGe sizes s < cntGe parcels s
/-- the falling order of xs, with the places -/
structure Fall (xs : List Int) (ps : List (Int × Int)) : Prop where
  perm : ps.Perm ((List.range xs.length).map fun i => (0 - xs.getD i 0, (i : Int)))
  srt : ps.Pairwise LexLe
namespace Fall
variable {xs : List Int} {ps : List (Int × Int)} (F : Fall xs ps)
include F
theorem len : ps.length = xs.length := by rw [F.perm.length_eq]; simp
theorem item {j : Nat} (hj : j < ps.length) : ∃ i : Nat, i < xs.length ∧ (ps.getD j (0, 0)).2 = (i : Int) ∧ (ps.getD j (0, 0)).1 = 0 - xs.getD i 0 := by
  have e : ps.getD j (0, 0) = ps[j] := by rw [List.getD_eq_getElem?_getD, List.getElem?_eq_getElem hj]; rfl
  have m := F.perm.mem_iff.mp (List.getElem_mem hj)
  obtain ⟨i, hi, q⟩ := List.mem_map.mp m
  exact ⟨i, List.mem_range.mp hi, by rw [e, ← q], by rw [e, ← q]⟩
theorem places : (ps.map (·.2)).Perm ((List.range xs.length).map fun i : Nat => (i : Int)) := by
  have q := F.perm.map (·.2)
  rw [List.map_map] at q
  exact q
theorem nodup : (ps.map (·.2)).Nodup := by
  refine F.places.nodup_iff.mpr ?_
  refine List.Pairwise.map _ (R := (· ≠ ·)) (fun a b h e => h (by omega)) List.nodup_range
theorem vals : (ps.map fun p => 0 - p.1).Perm xs := by
  have q := F.perm.map (fun p => 0 - p.1)
  rw [List.map_map] at q
  have e : (List.range xs.length).map ((fun p : Int × Int => 0 - p.1) ∘ fun i => (0 - xs.getD i 0, (i : Int))) = xs := by
    refine List.ext_getElem (by simp) fun i h1 h2 => ?_
    rw [List.getElem_map, List.getElem_range]
    show 0 - (0 - xs.getD i 0) = _
    rw [getDlt h2]; omega
  rw [e] at q
  exact q
theorem falls : (ps.map fun p => 0 - p.1).Pairwise fun x y => y ≤ x := by
  rw [List.pairwise_map]
  exact F.srt.imp fun {x y} h => by unfold LexLe at h; omega
end Fall
/-- what the two orders tell: the k-th greatest parcel goes into the k-th greatest box -/
theorem fall_fits {sizes parcels : List Int} {po pf : List (Int × Int)} (O : Fall parcels po) (F : Fall sizes pf) (okp : OkP parcels) (h : ∀ s, 1 ≤ s → s ≤ 9 → cntGe parcels s ≤ cntGe sizes s) {j : Nat} (hj : j < po.length) :
    ∃ (i b : Nat), i < parcels.length ∧ b < sizes.length ∧ j < pf.length ∧ (po.getD j (0, 0)).2 = (i : Int) ∧ (pf.getD j (0, 0)).2 = (b : Int) ∧ parcels.getD i 0 ≤ sizes.getD b 0 := by
  obtain ⟨i, hi, e1, e2⟩ := O.item hj
  obtain ⟨hk, hle⟩ := fallen_le O.falls F.falls (fun s h1 h2 => by rw [cntGe_perm O.vals, cntGe_perm F.vals]; exact h s h1 h2) (fun x hx => okp x (O.vals.mem_iff.mp hx)) j (by rw [List.length_map]; exact hj)
  have hj2 : j < pf.length := by rw [List.length_map] at hk; exact hk
  obtain ⟨b, hb, f1, f2⟩ := F.item hj2
  refine ⟨i, b, hi, hb, hj2, e1, f1, ?_⟩
  rw [List.getElem_map, List.getElem_map] at hle
  have e : po.getD j (0, 0) = po[j] := by rw [List.getD_eq_getElem?_getD, List.getElem?_eq_getElem hj]; rfl
  have f : pf.getD j (0, 0) = pf[j] := by rw [List.getD_eq_getElem?_getD, List.getElem?_eq_getElem hj2]; rfl
  rw [e] at e2
  rw [f] at f2
  omega
/-- the boxes found so far -/
def Found (po pf : List (Int × Int)) (n i : Nat) (fs : List Int) : Prop := fs.length = n ∧ ∀ j < i, fs.getD (po.getD j (0, 0)).2.toNat 0 = (pf.getD j (0, 0)).2
theorem found_set {xs : List Int} {po pf : List (Int × Int)} (O : Fall xs po) {i : Nat} {fs : List Int} (hi : i < po.length) (h : Found po pf xs.length i fs) : Found po pf xs.length (i + 1) (fs.set (po.getD i (0, 0)).2.toNat (pf.getD i (0, 0)).2) := by
  obtain ⟨hl, ha⟩ := h
  obtain ⟨a, ha1, ha2, _⟩ := O.item hi
  refine ⟨by rw [List.length_set]; exact hl, fun j hj => ?_⟩
  obtain ⟨b, hb1, hb2, _⟩ := O.item (j := j) (by omega)
  by_cases c : j = i
  · subst c
    rw [List.getD_eq_getElem?_getD, List.getElem?_set_self (by rw [ha2]; omega)]; rfl
  · have ne : (po.getD i (0, 0)).2.toNat ≠ (po.getD j (0, 0)).2.toNat := fun e => by
      have nd := O.nodup
      have hj' : j < (po.map (·.2)).length := by rw [List.length_map]; omega
      have hi' : i < (po.map (·.2)).length := by rw [List.length_map]; omega
      have q : (po.map (·.2))[i] = (po.map (·.2))[j] := by
        rw [List.getElem_map, List.getElem_map]
        have e1 : po.getD i (0, 0) = po[i] := by rw [List.getD_eq_getElem?_getD, List.getElem?_eq_getElem hi]; rfl
        have e2 : po.getD j (0, 0) = po[j]'(by omega) := by rw [List.getD_eq_getElem?_getD, List.getElem?_eq_getElem (by omega)]; rfl
        rw [← e1, ← e2]; omega
      exact c ((List.getElem_inj nd).mp q).symm
    rw [List.getD_eq_getElem?_getD, List.getElem?_set_ne ne, ← List.getD_eq_getElem?_getD]
    exact ha j (by omega)
theorem found_boxes {sizes parcels : List Int} {po pf : List (Int × Int)} (O : Fall parcels po) (F : Fall sizes pf) (okp : OkP parcels) (h : ∀ s, 1 ≤ s → s ≤ 9 → cntGe parcels s ≤ cntGe sizes s) {fs : List Int} (hf : Found po pf parcels.length po.length fs) : Boxes sizes parcels fs := by
  obtain ⟨hl, ha⟩ := hf
  have key : ∀ k < parcels.length, ∃ j, j < po.length ∧ (po.getD j (0, 0)).2 = (k : Int) := fun k hk => by
    have m : ((k : Nat) : Int) ∈ po.map (·.2) := O.places.mem_iff.mpr (List.mem_map.mpr ⟨k, List.mem_range.mpr hk, rfl⟩)
    obtain ⟨j, hj, e⟩ := List.mem_iff_getElem.mp m
    rw [List.length_map] at hj
    rw [List.getElem_map] at e
    exact ⟨j, hj, by rw [List.getD_eq_getElem?_getD, List.getElem?_eq_getElem hj]; exact e⟩
  refine ⟨hl, fun k hk => ?_, ?_⟩
  · obtain ⟨j, hj, e⟩ := key k hk
    obtain ⟨i, b, hi, hb, hj2, e1, e2, e3⟩ := fall_fits O F okp h hj
    have q := ha j hj
    have : i = k := by omega
    subst this
    rw [e1] at q
    rw [show ((i : Nat) : Int).toNat = i from rfl] at q
    rw [q, e2]
    refine ⟨by omega, by omega, ?_⟩
    rw [show ((b : Nat) : Int).toNat = b from rfl]; exact e3
  · refine List.pairwise_iff_getElem.mpr fun k k' hk hk' hlt e => ?_
    obtain ⟨j, hj, e1⟩ := key k (by omega)
    obtain ⟨j', hj', e1'⟩ := key k' (by omega)
    obtain ⟨i, b, hi, hb, hj2, f1, f2, f3⟩ := fall_fits O F okp h hj
    obtain ⟨i', b', hi', hb', hj2', f1', f2', f3'⟩ := fall_fits O F okp h hj'
    have q := ha j hj
    have q' := ha j' hj'
    rw [e1, show ((k : Nat) : Int).toNat = k from rfl, getDlt hk] at q
    rw [e1', show ((k' : Nat) : Int).toNat = k' from rfl, getDlt hk'] at q'
    have eb : (pf.getD j (0, 0)).2 = (pf.getD j' (0, 0)).2 := by rw [← q, ← q', e]
    have nd := F.nodup
    have z : (pf.map (·.2))[j]'(by rw [List.length_map]; exact hj2) = (pf.map (·.2))[j']'(by rw [List.length_map]; exact hj2') := by
      rw [List.getElem_map, List.getElem_map]
      have x1 : pf.getD j (0, 0) = pf[j] := by rw [List.getD_eq_getElem?_getD, List.getElem?_eq_getElem hj2]; rfl
      have x2 : pf.getD j' (0, 0) = pf[j'] := by rw [List.getD_eq_getElem?_getD, List.getElem?_eq_getElem hj2']; rfl
      rw [← x1, ← x2]; exact eb
    have jj := (List.getElem_inj nd).mp z
    subst jj
    omega
end Pw
namespace Pw
/-- the box that a parcel of a size comes into: the least that holds it, the first of alike ones -/
def LB (sizes : List Int) (fs : List Nat) (size : Int) (b : Nat) : Prop := b ∈ fs ∧ size ≤ sizes.getD b 0 ∧ ∀ c ∈ fs, size ≤ sizes.getD c 0 → (sizes.getD b 0 < sizes.getD c 0 ∨ (sizes.getD b 0 = sizes.getD c 0 ∧ b ≤ c))
theorem LB.uniq {sizes : List Int} {fs : List Nat} {size : Int} {b c : Nat} (h : LB sizes fs size b) (h' : LB sizes fs size c) : b = c := by
  have h1 := h.2.2 c h'.1 h'.2.1
  have h2 := h'.2.2 b h.1 h.2.1
  omega
def freeL (inside : List (Option Nat)) : List Nat := (List.range inside.length).filter fun i => (inside.getD i none).isNone
theorem mem_free {l : List (Option Nat)} {b : Nat} : b ∈ freeL l ↔ b < l.length ∧ l.getD b none = none := by
  unfold freeL
  rw [List.mem_filter, List.mem_range, Option.isNone_iff_eq_none]
theorem free_lt (l : List (Option Nat)) : (freeL l).Pairwise (· < ·) := List.Pairwise.filter _ List.pairwise_lt_range
theorem free_len (l : List (Option Nat)) : (freeL l).length ≤ l.length := freeLen l
def WS.came (s : WS) (b : Nat) (size till : Int) : WS := { s with inside := s.inside.set b (some s.parcels.length), parcels := s.parcels ++ [(size, till)] }
theorem WallAt.came {K : PySem.W.Frag} {H : Hp} {s : WS} (A : WallAt K H s) {ts : List Addr} (h1 : H s.l3 = some (.lst (ts.map V.ref))) (h2 : ts.length = s.parcels.length)
    (h3 : ∀ (j : Nat) (t : Addr), ts[j]? = some t → H t = some (.tup [.int (s.parcels.getD j (0, 0)).1, .int (s.parcels.getD j (0, 0)).2])) {t : Addr} {size till : Int} (ht : H t = some (.tup [.int size, .int till])) {b : Nat} (hp : s.parcels.length < 1000) :
    WallAt K (upd (upd H s.l3 (.lst (ts.map V.ref ++ [V.ref t]))) s.l2 (.lst ((s.inside.set b (some s.parcels.length)).map optV))) (s.came b size till) := by
  have tne : ∀ {x : Addr} {u v : V}, H x = some (.tup [u, v]) → upd (upd H s.l3 (.lst (ts.map V.ref ++ [V.ref t]))) s.l2 (.lst ((s.inside.set b (some s.parcels.length)).map optV)) x = some (.tup [u, v]) := fun {x u v} e => by
    rw [upd_ne (ne_of e A.is (by intro q; cases q)), upd_ne (ne_of e h1 (by intro q; cases q))]; exact e
  refine ⟨?_, ?_, ?_, ⟨ts ++ [t], ?_, ?_, ?_⟩, A.n12, A.n13, A.n23, ?_, A.l8, ?_, ?_⟩
  · show upd _ s.l2 _ s.w = _
    rw [upd_ne (ne_of A.ob A.is (by intro q; cases q)), upd_ne (ne_of A.ob h1 (by intro q; cases q))]; exact A.ob
  · show upd _ s.l2 _ s.l1 = _
    rw [upd_ne A.n12, upd_ne A.n13]; exact A.bx
  · show upd _ s.l2 _ s.l2 = _
    exact upd_same
  · show upd _ s.l2 _ s.l3 = _
    rw [upd_ne (Ne.symm A.n23), upd_same, List.map_append]; rfl
  · show (ts ++ [t]).length = (s.parcels ++ [(size, till)]).length
    rw [List.length_append, List.length_append, h2]; rfl
  · intro j x hx
    show _ = some (HO.tup [.int ((s.parcels ++ [(size, till)]).getD j (0, 0)).1, .int ((s.parcels ++ [(size, till)]).getD j (0, 0)).2])
    rw [List.getD_eq_getElem?_getD]
    by_cases c : j < ts.length
    · rw [List.getElem?_append_left c] at hx
      rw [List.getElem?_append_left (by omega), ← List.getD_eq_getElem?_getD]
      exact tne (h3 j x hx)
    · have hj := getLt hx
      rw [List.length_append, List.length_singleton] at hj
      have e : j = ts.length := by omega
      subst e
      rw [List.getElem?_append_right (Nat.le_refl _), Nat.sub_self] at hx
      rw [List.getElem?_append_right (by omega), h2, Nat.sub_self]
      cases hx
      exact tne ht
  · show (s.inside.set b _).length = _
    rw [List.length_set]; exact A.len
  · show (s.parcels ++ [(size, till)]).length ≤ 1000
    rw [List.length_append, List.length_singleton]; omega
  · intro j n hn
    show n < (s.parcels ++ [(size, till)]).length
    have hn : (s.inside.set b (some s.parcels.length))[j]? = some (some n) := hn
    rw [List.length_append, List.length_singleton]
    rw [List.getElem?_set] at hn
    split at hn
    · split at hn
      · have : s.parcels.length = n := Option.some.inj (Option.some.inj hn)
        omega
      · cases hn
    · have := A.nb j n hn
      omega
theorem Frm.refl (s : WS) (H : Hp) : Frm s H H := fun _ _ e _ _ _ => e
theorem Frm.trans {s : WS} {H H1 H2 : Hp} (a : Frm s H H1) (b : Frm s H1 H2) : Frm s H H2 := fun x o e n1 n2 n3 => b x o (a x o e n1 n2 n3) n1 n2 n3
theorem Frm.same {s : WS} {H H1 : Hp} (a : Same H H1) : Frm s H H1 := fun x o e _ _ _ => a x o e
theorem setOpt {l : List (Option Nat)} {b n : Nat} : (l.map optV).set b (V.int (n : Int)) = (l.set b (some n)).map optV := by
  rw [List.map_set]; rfl
theorem setNon {l : List (Option Nat)} {b : Nat} : (l.map optV).set b V.non = (l.set b none).map optV := by
  rw [List.map_set]; rfl
end Pw
namespace Pw
theorem frmSame {s : WS} {H0 H1 H2 : Hp} (a : Same H0 H1) (f : Frm s H1 H2) (n1 : H0 s.w = none) (n2 : H0 s.l2 = none) (n3 : H0 s.l3 = none) : Same H0 H2 := fun x o e => f x o (a x o e) (ne_of_none e n1) (ne_of_none e n2) (ne_of_none e n3)
theorem lstNeW {K : PySem.W.Frag} {H : Hp} {s : WS} {a : Addr} {xs : List V} (A : WallAt K H s) (h : H a = some (.lst xs)) : a ≠ s.w := ne_of h A.ob (by intro q; cases q)
end Pw
namespace Pw
theorem WallAt.keep {K : PySem.W.Frag} {H H' : Hp} {s : WS} {as : List Addr} (A : WallAt K H s) (f : ∀ b o, H b = some o → b ∉ as → H' b = some o) (nw : s.w ∉ as) (n1 : s.l1 ∉ as) (n2 : s.l2 ∉ as) (n3 : s.l3 ∉ as)
    (nt : ∀ b u v, H b = some (.tup [u, v]) → b ∉ as) : WallAt K H' s :=
  ⟨f _ _ A.ob nw, f _ _ A.bx n1, f _ _ A.is n2, let ⟨ts, h1, h2, h3⟩ := A.ps; ⟨ts, f _ _ h1 n3, h2, fun j t q => f _ _ (h3 j t q) (nt _ _ _ (h3 j t q))⟩, A.n12, A.n13, A.n23, A.len, A.l8, A.pl, A.nb⟩
/-- the heap without some things -/
def hide (H : Hp) (as : List Addr) : Hp := fun x => if x ∈ as then none else H x
theorem hide_in {H : Hp} {as : List Addr} {x : Addr} (h : x ∈ as) : hide H as x = none := if_pos h
theorem hide_out {H : Hp} {as : List Addr} {x : Addr} (h : x ∉ as) : hide H as x = H x := if_neg h
theorem hide_same (H : Hp) (as : List Addr) : Same (hide H as) H := fun x o e => by
  unfold hide at e
  split at e
  · cases e
  · exact e
theorem sameHide {H0 H : Hp} {as : List Addr} (s : Same H0 H) (h : ∀ z ∈ as, H0 z = none) : Same H0 (hide H as) := fun x o e => by
  rw [hide_out (fun m => by rw [h x m] at e; cases e)]; exact s x o e
theorem notIn {H : Hp} {as : List Addr} {x : Addr} (h : ∀ z ∈ as, H z ≠ none) (hx : H x = none) : x ∉ as := fun m => h x m hx
theorem notIn2 {H : Hp} {as : List Addr} {x : Addr} {o : HO} (h : ∀ z ∈ as, H z = none) (hx : H x = some o) : x ∉ as := fun m => by rw [h x m] at hx; cases hx
theorem nilNot {x : Addr} : x ∉ ([] : List Addr) := by simp
theorem consNot {x a : Addr} {as : List Addr} (h : x ≠ a) (t : x ∉ as) : x ∉ a :: as := by simp [h, t]
theorem someNe {H : Hp} {x : Addr} {o : HO} (h : H x = some o) : H x ≠ none := by rw [h]; intro z; cases z
theorem PairL.upd_tup {H H' : Hp} {p : Addr} {ps : List (Int × Int)} {as : List Addr} (h : PairL H p ps) (f : ∀ b o, H b = some o → b ∉ as → H' b = some o) (hp : p ∉ as) (nt : ∀ b u v, H b = some (.tup [u, v]) → b ∉ as) : PairL H' p ps := by
  obtain ⟨ys, h1, h2, h3⟩ := h.ex
  have q := mapKeep (H' := H') h2 fun t i j e => f _ _ e (nt _ _ _ e)
  exact ⟨ys, f _ _ h1 hp, q.1, by rw [q.2, h3]⟩
end Pw
namespace Pw
theorem isNone_opt (x : Option Nat) : decide (optV x = V.non) = x.isNone := by
  cases x <;> simp [optV]
end Pw
namespace Pw
/-- all but some things stands as it was -/
def Kp (as : List Addr) (H H' : Hp) : Prop := ∀ b o, H b = some o → b ∉ as → H' b = some o
theorem Kp.ofSame {as : List Addr} {H H' : Hp} (s : Same H H') : Kp as H H' := fun b o e _ => s b o e
theorem Kp.ofFrm {s : WS} {H H' : Hp} (f : Frm s H H') : Kp [s.w, s.l2, s.l3] H H' := fun b o e n => f b o e (fun q => n (by simp [q])) (fun q => n (by simp [q])) (fun q => n (by simp [q]))
theorem Kp.trans {as : List Addr} {H H1 H2 : Hp} (f : Kp as H H1) (g : Kp as H1 H2) : Kp as H H2 := fun b o e n => g b o (f b o e n) n
theorem Kp.more {as bs : List Addr} {H H' : Hp} (f : Kp as H H') (h : ∀ z ∈ as, z ∈ bs) : Kp bs H H' := fun b o e n => f b o e fun m => n (h b m)
theorem Kp.toFrm {s : WS} {H H' : Hp} (f : Kp [s.w, s.l2, s.l3] H H') : Frm s H H' := fun b o e n1 n2 n3 => f b o e (by simp [n1, n2, n3])
theorem hideStep {H0 H1 H2 : Hp} {as bs : List Addr} (s : Same (hide H0 as) H1) (k : Kp bs H1 H2) (m : ∀ z ∈ bs, z ∈ as) : Same (hide H0 as) H2 := fun x o e =>
  k x o (s x o e) fun q => by rw [hide_in (m x q)] at e; cases e
theorem hideGet {H0 : Hp} {as : List Addr} {x : Addr} {o : HO} (h : H0 x = some o) (n : x ∉ as) : hide H0 as x = some o := by rw [hide_out n]; exact h
/-- which refusal is due of a parcel that comes -/
def Rf (sizes : List Int) (inside : List (Option Nat)) (size nights : Int) (u : Str) : Prop :=
  (u = ("NoSize" : Str) ∧ ¬ (1 ≤ size ∧ size ≤ 9)) ∨ (u = ("NoNights" : Str) ∧ (1 ≤ size ∧ size ≤ 9) ∧ ¬ (1 ≤ nights ∧ nights ≤ 9)) ∨
  (u = ("NoBox" : Str) ∧ (1 ≤ size ∧ size ≤ 9) ∧ (1 ≤ nights ∧ nights ≤ 9) ∧ ∀ b ∈ freeL inside, sizes.getD b 0 < size)
theorem Rf.uniq {sizes : List Int} {inside : List (Option Nat)} {size nights : Int} {u v : Str} (h : Rf sizes inside size nights u) (h' : Rf sizes inside size nights v) : u = v := by
  rcases h with ⟨rfl, a⟩ | ⟨rfl, a, b⟩ | ⟨rfl, a, b, c⟩ <;> rcases h' with ⟨rfl, a'⟩ | ⟨rfl, a', b'⟩ | ⟨rfl, a', b', c'⟩ <;> first | rfl | (exact absurd a a') | (exact absurd a' a) | (exact absurd b b') | (exact absurd b' b)
/-- let in: into the box b -/
def In (sizes : List Int) (inside : List (Option Nat)) (size nights : Int) (b : Nat) : Prop := (1 ≤ size ∧ size ≤ 9) ∧ (1 ≤ nights ∧ nights ≤ 9) ∧ LB sizes (freeL inside) size b
theorem In.not {sizes : List Int} {inside : List (Option Nat)} {size nights : Int} {b : Nat} {u : Str} (h : In sizes inside size nights b) (h' : Rf sizes inside size nights u) : False := by
  obtain ⟨a, c, d⟩ := h
  rcases h' with ⟨_, a'⟩ | ⟨_, a', b'⟩ | ⟨_, a', b', c'⟩
  · exact a' a
  · exact b' c
  · have := c' b d.1
    have := d.2.1
    omega
end Pw
namespace Pw
def sp_least_box (K : PySem.W.Frag) : Sp := fun vs H Q _ => ∃ (a f : Addr) (sizes : List Int) (fs : List Nat) (size : Int), vs = [.ref a, .ref f, .int size] ∧ SqL K H a (sizes.map V.int) ∧ SqL K H f (fs.map fun i : Nat => V.int (i : Int)) ∧ sizes.length ≤ 1000 ∧ fs.length ≤ 1000 ∧
  fs.Pairwise (· < ·) ∧ (∀ b ∈ fs, b < sizes.length) ∧ ((∀ b ∈ fs, sizes.getD b 0 < size) → Q .non H) ∧ ∀ b, LB sizes fs size b → Q (.int (b : Nat)) H
theorem len_least_box {K : PySem.W.Frag} : ∀ vs H Q E, sp_least_box K vs H Q E → vs.length = 3 := by
  rintro vs H Q E ⟨_, _, _, _, _, rfl, _⟩
  rfl
def t_least_box (K : PySem.W.Frag) (E : XK) : TS :=
  tSeq (tAsg (tC .non) (gName 3))
    (tSeq (tForP (iList K (tVar 1)) (gName 4) (tIfS (tAnd (tTest (tOp rGe (tOp (rIxL K) (tVar 0) (tVar 4)) (tVar 2))) (tOr (tTest (tOp rIsNone (tVar 3) (tC .non))) (tTest (tOp rLt (tOp (rIxL K) (tVar 0) (tVar 4)) (tOp (rIxL K) (tVar 0) (tVar 3)))))) (tAsg (tVar 4) (gName 3)) (tNext)))
    (tRet (tVar 3)))
theorem pure_least_box {K : PySem.W.Frag} (vs : List V) (H : Hp) (Q : VK) (E : XK) (h : sp_least_box K vs H Q E) : t_least_box K E { nx := fun _ H' => Q .non H', rt := Q } (start ["sizes", "free", "size", "found", "box"] vs) H := by
  obtain ⟨a, f, sizes, fs, size, rfl, hA, hF, l1, l2, srt, hlt, kN, kB⟩ := h
  unfold t_least_box
  walk_at "go"
  refine forList (K := K) (a := f) (xs := fs.map fun i : Nat => V.int (i : Int)) (fun i σ H' => Stop (∃ (v : Option V), H' = H ∧ ((∃ x, σ = [some (.ref a), some (.ref f), some (.int size), some .non, x] ∧ ∀ b ∈ fs.take i, sizes.getD b 0 < size) ∨
      (∃ x b, σ = [some (.ref a), some (.ref f), some (.int size), some (.int ((b : Nat) : Int)), x] ∧ LB sizes (fs.take i) size b)))) ⟨none, rfl, .inl ⟨none, rfl, by simp⟩⟩ ?_ ?_ ?_
  · rintro i σ H' _ ⟨v, rfl, _⟩
    exact hF
  · rintro i x σ H' hi ⟨v, rfl, ⟨y, rfl, hn⟩ | ⟨y, b, rfl, hb⟩⟩
    · obtain ⟨n, hn', rfl⟩ := mapGet hi
      have hlt' := hlt n (List.mem_of_getElem? hn')
      have e : ((n : Nat) : Int).toNat = n := by omega
      walk_at "go"
      rw [e]
      refine ifD (fun c => ?_) (fun c => ?_)
      · walk_at "go"
        refine ⟨none, rfl, .inr ⟨_, n, rfl, ?_⟩⟩
        rw [takeMore hn']
        refine ⟨by simp, c, fun m hm hc => ?_⟩
        rcases List.mem_append.mp hm with q | q
        · have := hn m q; omega
        · rw [List.mem_singleton.mp q]; omega
      · refine ⟨none, rfl, .inl ⟨_, rfl, fun m hm => ?_⟩⟩
        rw [takeMore hn'] at hm
        rcases List.mem_append.mp hm with q | q
        · exact hn m q
        · rw [List.mem_singleton.mp q]; omega
    · obtain ⟨n, hn', rfl⟩ := mapGet hi
      have hlt' := hlt n (List.mem_of_getElem? hn')
      have hltb := hlt b (List.mem_of_mem_take hb.1)
      have e : ((n : Nat) : Int).toNat = n := by omega
      have eb : ((b : Nat) : Int).toNat = b := by omega
      have bn : b < n := by
        have := List.pairwise_iff_getElem.mp srt
        obtain ⟨j, hj, ej⟩ := List.mem_iff_getElem.mp hb.1
        rw [List.length_take] at hj
        rw [List.getElem_take] at ej
        have hi' := getLt hn'
        have q := this j i (by omega) hi' (by omega)
        rw [ej] at q
        have : fs[i] = n := by rw [List.getElem?_eq_getElem hi'] at hn'; exact Option.some.inj hn'
        omega
      have keep : ¬ (size ≤ sizes.getD n 0 ∧ sizes.getD n 0 < sizes.getD b 0) → LB sizes (fs.take (i + 1)) size b := fun c => by
        rw [takeMore hn']
        refine ⟨List.mem_append.mpr (.inl hb.1), hb.2.1, fun m hm hc => ?_⟩
        rcases List.mem_append.mp hm with q | q
        · exact hb.2.2 m q hc
        · rw [List.mem_singleton.mp q] at hc ⊢; omega
      walk_at "go"
      rw [e]
      refine ifD (fun c => ?_) (fun c => ?_)
      · walk_at "go"
        rw [e, eb]
        refine ifD (fun c2 => ?_) (fun c2 => ?_)
        · walk_at "go"
          refine ⟨none, rfl, .inr ⟨_, n, rfl, ?_⟩⟩
          rw [takeMore hn']
          refine ⟨by simp, c, fun m hm hc => ?_⟩
          rcases List.mem_append.mp hm with q | q
          · have := hb.2.2 m q hc
            omega
          · rw [List.mem_singleton.mp q]; omega
        · exact ⟨none, rfl, .inr ⟨_, b, rfl, keep (by omega)⟩⟩
      · exact ⟨none, rfl, .inr ⟨_, b, rfl, keep (by omega)⟩⟩
  · rintro σ H' ⟨v, rfl, ⟨y, rfl, hn⟩ | ⟨y, b, rfl, hb⟩⟩
    · rw [List.length_map, List.take_length] at hn
      walk_at "go"
      exact kN hn
    · rw [List.length_map, List.take_length] at hb
      walk_at "go"
      exact kB b hb
end Pw
namespace Pw
def sp_Wall_free (K : PySem.W.Frag) : Sp := fun vs H Q _ => ∃ (s : WS), WallAt K H s ∧ vs = [.ref s.w] ∧ RetNew H Q ((freeL s.inside).map fun i : Nat => V.int (i : Int))
theorem len_Wall_free {K : PySem.W.Frag} : ∀ vs H Q E, sp_Wall_free K vs H Q E → vs.length = 1 := by
  rintro vs H Q E ⟨_, _, rfl, _⟩
  rfl
def t_Wall_free (K : PySem.W.Frag) (E : XK) : TS :=
  tRet (tLc (iRng1 (tCons (tCB (rLenSeq K) (tCons (tFld K (tVar 0) "boxes") tNil)) tNil)) (gName 1) (tTest (tOp rIsNone (tOp (rIxL K) (tFld K (tVar 0) "inside") (tVar 1)) (tC .non))) (tVar 1) [1])
theorem pure_Wall_free {K : PySem.W.Frag} (T : TW K) (vs : List V) (H : Hp) (Q : VK) (E : XK) (h : sp_Wall_free K vs H Q E) : t_Wall_free K E { nx := fun _ H' => Q .non H', rt := Q } (start ["self", "box"] vs) H := by
  obtain ⟨s, A, rfl, k⟩ := h
  obtain ⟨tcl, tnb, tni, tnp, tnt⟩ := id T
  have hob := A.ob
  have his := A.is
  have hbx := A.bx
  have hl := A.len
  have h8 := A.l8
  unfold t_Wall_free
  walk_at "go"
  intro p hp
  refine lcRng (n := (((s.sizes.map V.int).length : Nat) : Int).toNat) (fun i => (s.inside.getD i none).isNone) (fun i : Nat => V.int (i : Int)) hp (by simp; omega) (fun _ => rfl) (fun i H' hi s' TT k' => ?_) (fun i H' hi _ s' Qv k' => ?_) (fun H' s' hD => ?_)
  · simp only [List.length_map] at hi
    walk_at "go"
    refine ⟨atMap none (by omega) (by omega), ?_⟩
    walk_at "go"
    rw [isNone_opt]
    have e : ((0 : Int) + (i : Int)).toNat = i := by omega
    rw [e]
    exact k' _ (Same.refl _)
  · walk_at "go"
    have e : (0 : Int) + (i : Int) = (i : Int) := by omega
    rw [e]
    exact k' _ (Same.refl _)
  · refine k _ p s' hp ?_
    have e : (((s.sizes.map V.int).length : Nat) : Int).toNat = s.inside.length := by simp; omega
    rw [e] at hD
    exact hD
end Pw
namespace Pw
def sp_Wall_come (K : PySem.W.Frag) : Sp := fun vs H Q E => ∃ (s : WS), WallAt K H s ∧ ∃ (size nights : Int), vs = [.ref s.w, .int size, .int nights] ∧ s.parcels.length < 1000 ∧
  (¬ (1 ≤ size ∧ size ≤ 9) → E (.ref (He.ga K "NoSize")) none H) ∧
  ((1 ≤ size ∧ size ≤ 9) → ¬ (1 ≤ nights ∧ nights ≤ 9) → E (.ref (He.ga K "NoNights")) none H) ∧
  ((1 ≤ size ∧ size ≤ 9) → (1 ≤ nights ∧ nights ≤ 9) → (∀ b ∈ freeL s.inside, s.sizes.getD b 0 < size) → ∀ H', Same H H' → E (.ref (He.ga K "NoBox")) none H') ∧
  ((1 ≤ size ∧ size ≤ 9) → (1 ≤ nights ∧ nights ≤ 9) → ∀ b H', LB s.sizes (freeL s.inside) size b → Frm s H H' → WallAt K H' (s.came b size (s.today + nights)) → Q (.int (s.parcels.length : Nat)) H')
theorem len_Wall_come {K : PySem.W.Frag} : ∀ vs H Q E, sp_Wall_come K vs H Q E → vs.length = 3 := by
  rintro vs H Q E ⟨_, _, _, _, rfl, _⟩
  rfl
def t_Wall_come (K : PySem.W.Frag) (E : XK) : TS :=
  tSeq (tIfS (tNot (tB (tCall (sp_is_size K) [] E0 (tCons (tVar 1) tNil)))) (tRaise E (He.ga K "NoSize")) (tNext))
    (tSeq (tIfS (tOr (tTest (tOp rLt (tVar 2) (tC (.int 1)))) (tTest (tOp rGt (tVar 2) (tC (.int 9))))) (tRaise E (He.ga K "NoNights")) (tNext))
    (tSeq (tAsg (tCall (sp_least_box K) [] E0 (tCons (tFld K (tVar 0) "boxes") (tCons (tMeth (He.ga K "Wall") "free" (sp_Wall_free K) [] E0 (tVar 0) tNil) (tCons (tVar 1) tNil)))) (gName 3))
    (tSeq (tIfS (tTest (tOp rIsNone (tVar 3) (tC .non))) (tRaise E (He.ga K "NoBox")) (tNext))
    (tSeq (tDrop (tBM K "list" rAppend (tFld K (tVar 0) "parcels") (tCons (tTup (tCons (tVar 1) (tCons (tOp rAddI (tFld K (tVar 0) "today") (tVar 2)) tNil))) tNil)))
    (tSeq (tAsg (tOp rSubI (tCB (rLenSeq K) (tCons (tFld K (tVar 0) "parcels") tNil)) (tC (.int 1))) (gSub (tFld K (tVar 0) "inside") (tVar 3) rSetL))
    (tRet (tOp rSubI (tCB (rLenSeq K) (tCons (tFld K (tVar 0) "parcels") tNil)) (tC (.int 1)))))))))
theorem pure_Wall_come {K : PySem.W.Frag} (T : TW K) (vs : List V) (H : Hp) (Q : VK) (E : XK) (h : sp_Wall_come K vs H Q E) : t_Wall_come K E { nx := fun _ H' => Q .non H', rt := Q } (start ["self", "size", "nights", "box"] vs) H := by
  obtain ⟨s, A, size, nights, rfl, hp, e1, e2, e3, k⟩ := h
  obtain ⟨tcl, tnb, tni, tnp, tnt⟩ := id T
  have hob := A.ob
  have hbx := A.bx
  have h8 := A.l8
  have hl := A.len
  unfold t_Wall_come
  walk_at "go"
  refine ifN (fun c => e1 c) (fun c => ?_)
  walk_at "go"
  refine ifD (fun c2 => e2 c (by omega)) (fun c2 => ?_)
  walk_at "go"
  refine ifD (fun c3 => e2 c (by omega)) (fun c3 => ?_)
  have cn : 1 ≤ nights ∧ nights ≤ 9 := by omega
  walk_at "go"
  intro H1 p s1 hp0 hp1
  have A1 := A.mono s1
  have hob1 := A1.ob
  have hbx1 := SqL.of (K := K) A1.bx
  have fl := free_len s.inside
  walk_at "go"
  refine ⟨free_lt _, fun b hb => by have := (mem_free.mp hb).1; omega, fun hn => ?_, fun b hb => ?_⟩
  · walk_at "go"
    exact e3 c cn hn _ s1
  · obtain ⟨ts, hps, htl, htt⟩ := A1.ps
    have hbl := (mem_free.mp hb.1).1
    walk_at "go"
    intro t ht
    have st : Same H1 (upd H1 t (.tup [V.int size, V.int (s.today + nights)])) := sameNew (Same.refl _) ht
    have A2 := A1.mono st
    have e : upd H1 t (.tup [V.int size, V.int (s.today + nights)]) t = some (.tup [V.int size, V.int (s.today + nights)]) := upd_same
    have hps2 := st _ _ hps
    have htt2 : ∀ (j : Nat) (t' : Addr), ts[j]? = some t' → upd H1 t (.tup [V.int size, V.int (s.today + nights)]) t' = some (.tup [.int (s.parcels.getD j (0, 0)).1, .int (s.parcels.getD j (0, 0)).2]) := fun j t' q => st _ _ (htt j t' q)
    have Z := A2.came (b := b) hps2 htl htt2 e hp
    have s2 := s1.trans st
    generalize upd H1 t (.tup [V.int size, V.int (s.today + nights)]) = H2 at A2 e hps2 htt2 Z s2
    have hob2 := A2.ob
    walk_at "go"
    have hob3 : upd H2 s.l3 (.lst (ts.map V.ref ++ [V.ref t])) s.w = some (.ins (He.ga K "Wall") s.dx (wf s.l1 s.l2 s.l3 s.today)) := by
      rw [upd_ne (ne_of hob2 hps2 (by intro q; cases q))]; exact hob2
    have his3 : upd H2 s.l3 (.lst (ts.map V.ref ++ [V.ref t])) s.l2 = some (.lst (s.inside.map optV)) := by rw [upd_ne A.n23]; exact A2.is
    have hl3 : upd H2 s.l3 (.lst (ts.map V.ref ++ [V.ref t])) s.l3 = some (.lst (ts.map V.ref ++ [V.ref t])) := upd_same
    walk_at "go"
    refine ⟨ixN_of (by omega) (by rw [List.length_map]; omega), ?_⟩
    have e5 : (((ts.map V.ref ++ [V.ref t]).length : Nat) : Int) - 1 = ((s.parcels.length : Nat) : Int) := by
      rw [List.length_append, List.length_map, List.length_singleton, htl]; omega
    have eb : ((b : Nat) : Int).toNat = b := by omega
    dsimp only
    rw [e5, eb, setOpt]
    have hob4 := Z.ob
    have hl4 : upd (upd H2 s.l3 (.lst (ts.map V.ref ++ [V.ref t]))) s.l2 (.lst ((s.inside.set b (some s.parcels.length)).map optV)) s.l3 = some (.lst (ts.map V.ref ++ [V.ref t])) := by
      rw [upd_ne (Ne.symm A.n23)]; exact hl3
    have hob4 : upd (upd H2 s.l3 (.lst (ts.map V.ref ++ [V.ref t]))) s.l2 (.lst ((s.inside.set b (some s.parcels.length)).map optV)) s.w = some (.ins (He.ga K "Wall") s.dx (wf s.l1 s.l2 s.l3 s.today)) := hob4
    walk_at "go"
    dsimp only
    rw [e5]
    refine k c cn b _ hb (fun x o ex n1 n2 n3 => ?_) Z
    rw [upd_ne n2, upd_ne n3]
    exact s2 _ _ ex
end Pw
namespace Pw
open L2H (RoomH PinOk cxH inv_startH)
/-! ### a def to which an except suite hands the error that it holds -/
/-- what such a def promises: by the error's place and class -/
structure FnE (P : Program) (w : World) (K : PySem.W.Frag) (mg : Str → Option Value) (base : Heap) (k : Nat) (f : Addr) (fd : FuncData) (ps : List Str) (sp : Addr → Value → Option Addr → Sp) : Prop where
  len : ∀ a cls d vs H Q E, sp a cls d vs H Q E → vs.length = ps.length
  run : ∀ (A : Around) (outer : List Env) (s : Shared) (H : Hp) (args : Args) (us : List Value) (vs : List V) (Q : VK) (E : XK) (a : Addr) (oe : Obj) (cls : Value) (d : Option Addr), RoomH k A → Zc cls d oe → (∃ z, oe.data = .fields z) → PinOk outer H s (a, oe) →
    Env0 P w K mg base A outer s H → BindsTo s fd args (ps.zip us) → Vals vs us → sp a cls d vs H Q E → codeAny (model P w) A (.call (.ref f) args) (CR CX0 outer P w H s Q E) s
section
variable {P : Program} {w : World} {K : PySem.W.Frag} {mg : Str → Option Value} {base : Heap}
theorem fnE_of {x qual : Str} {params : Arguments} {body : List Stmt} {scope : Scope} {dvs : List V} {kws : List (Str × V)} {f : Addr} {fd : FuncData} {N ps : List Str} {k : Nat} {sp : Addr → Value → Option Addr → Sp} (F : FunD K x qual params body scope dvs kws f fd) (S : FnScope N ps scope)
    (len : ∀ a cls d vs H Q E, sp a cls d vs H Q E → vs.length = ps.length)
    (hbody : ∀ (cdv : Value) (A : Around) (outer : List Env) (s : Shared) (H : Hp) (vs : List V) (Q : VK) (E : XK) (a : Addr) (oe : Obj) (cls : Value) (d : Option Addr), Zc cls d oe → (∃ z, oe.data = .fields z) → RoomH k (A.deeper (envOfC qual scope s.heap.objs.size f cdv)) → sp a cls d vs H Q E →
      ∃ t, PSs (cxH CX0 P w K mg base N qual scope f cdv A outer s H E (a, oe)) body t ∧ t { nx := fun _ H' => Q .non H', rt := Q } (L2.start N vs) H) : FnE P w K mg base (k + 1) f fd ps sp := by
  obtain ⟨oc, od, dV, kV, doc, pm, an, cdv, ct, osl, rfl, lk, hcd, _, _⟩ := F.ex
  refine ⟨len, fun A outer s H args us vs Q E a oe cls d room hz hf pin e0 bind rv want => ?_⟩
  have kin : K.In s.heap := e0.mod.kin.keeps fun b o h => (e0.bs b o h).1
  have lim : s.heap.NoLimit := e0.mod.nolimit.keeps fun b o h => (e0.bs b o h).1
  have place : ∀ y ∈ ps.zip us, scope.names.lookup y.1 = some .local ∨ (scope.names.lookup y.1 = some .cell ∧ ((cellsFrom (s.heap.objs.size + 1) scope.names []).lookup y.1).isSome = true) := by
    rintro ⟨n, v⟩ hy
    rcases S.par n (List.of_mem_zip hy).1 with h | h
    · exact .inl h
    · exact .inr ⟨h, PySem.W.cellsFrom_some _ _ _ (.inl h)⟩
  obtain ⟨t, ht, goal⟩ := hbody cdv A outer s H vs Q E a oe cls d hz hf (room.deeper _) want
  refine codeAny_call_function room.depth (kin _ _ lk) rfl S.co S.gen rfl (PySem.W.codeRec_of kin hcd) (bind _ _ _ _ (wpAny_newFunctionEnv_cells S.kind place fun env he s1 x => ?_))
  subst he
  have I := inv_startH (CX := CX0) (E := E) S pin e0 (len _ _ _ _ _ _ _ want) rv x
  have back : ∀ {σ' : L2.St} {H' : Hp} {v : V} {u : Value} {s' : Shared}, Inv (cxH CX0 P w K mg base N qual scope f cdv A outer s H E (a, oe)) [] σ' H' s' → RelV v u → Q v H' → CE outer P w H s Q u s' := fun J r q => ⟨_, _, J.os, J.bare, J.base, J.hok, r, q⟩
  refine ⟨lim.keeps x.toInCall.keep, codeAny_func (wpAny_mono (ht.run [] s1 _ H _ I goal) (fun fl s' h => ?_) fun _ _ h => h)⟩
  match fl, h with
  | .ret u, ⟨v, σ', H', J, r, q⟩ => exact back J r q
  | .next, ⟨σ', H', J, q⟩ => exact back (v := V.non) (u := Value.none) J rfl q
  | .brk, ⟨_, _, _, q⟩ => exact q.elim
  | .cont, ⟨_, _, _, q⟩ => exact q.elim
end
section
variable {X : Cx} {k : Nat} {f : Addr} {fd : FuncData} {ps : List Str} {sp : Addr → Value → Option Addr → Sp} {x : Str} {q pos : Pos} {e : Expr} {es : List Expr} {t : TA}
/-- f(e), e the error that the suite holds -/
theorem pe_callE {a : Addr} {oe : Obj} {cls : Value} {d : Option Addr} {pn : List (Addr × Obj)} (hz : Zc cls d oe) (hf : ∃ z, oe.data = .fields z) (F : FnE X.prog X.w X.K X.mg X.base k f fd ps sp) (room : RoomH k X.A) (hg : Gl X x) (hm : X.mg x = some (.ref f)) (hk : PySem.W.keepIn X.K (.ref f) = true) (hb : Binds X.K fd ps [])
    (ha : PA (X.suite a ((a, oe) :: pn)) (e :: es) t) (hdb : (x == ("__debug__" : Str)) = false := by decide) (he : starEach (e :: es) X.env = (false, eval e X.env) :: starEach es X.env := by rfl) (hpl : (backTo pos (starEach es X.env)).any (·.1) = false := by rfl) :
    PE (X.suite a ((a, oe) :: pn)) (.Call (.Name x q) (e :: es) [] pos) (tCall (sp a cls d) [] E0 t) := by
  refine ⟨fun pins s σ H Q I h => ?_⟩
  refine wpAny_Call_Name_kw (ld_glob I hg hm ?_ hdb)
  refine PySem.W.callWith_K (h₀ := X.base) I.ok.mod.kin hk (thn (ha.run pos pins s σ H _ I h) fun us s1 ⟨vs, H1, I1, r, want⟩ => ⟨I1.kIn, ?_⟩) he hpl
  have want : sp a cls d (vs ++ []) H1 Q E0 := want
  rw [List.append_nil] at want
  have many : us.length = ps.length := r.length.symm.trans (F.len _ _ _ _ _ _ _ want)
  have bind := hb s1 us I1.kIn (by rw [List.append_nil]; exact many)
  rw [List.append_nil] at bind
  obtain ⟨g1, g2, g3, g4, g5⟩ := I1.pin (a, oe) (List.mem_append_left _ List.mem_cons_self)
  have pin : PinOk X.stack H1 s1 (a, oe) := ⟨g1, g2, fun m => (List.mem_cons.mp (I1.stkSub a m)).elim g3 g4, g5⟩
  refine wpAny_call (codeAny_mono (F.run _ X.stack s1 H1 ⟨us, []⟩ us vs Q E0 a oe cls d ⟨room.dp, room.un⟩ hz hf pin I1.env0 bind r want) fun res s2 got => ?_)
  match res, got with
  | .error _, got => exact got.elim
  | .ok (.ret u), got => exact I1.after got
  | .ok .next, got => exact got.elim
  | .ok .brk, got => exact got.elim
  | .ok .cont, got => exact got.elim
/-- isinstance(e, c), e an error that the context holds -/
theorem call_isP {X : Cx} {a : Addr} {cls : Value} {d : Option Addr} {oe : Obj} (hz : Zc cls d oe) (hf : ∃ z, oe.data = .fields z) (hp : (a, oe) ∈ X.pn) : CallR X (.builtin "isinstance") (rIsX X.K cls d a) := by
  intro pins s σ H xs us Q I r h
  obtain ⟨D, c, cv, b, rfl, rfl, C, rfl, hcv, hk, q⟩ := h
  obtain ⟨g1, _⟩ := I.pin (a, oe) (List.mem_append_left _ hp)
  match us, r with
  | _, .cons rx (.cons rt .nil) =>
    cases rx
    obtain rfl := hcv _ rt
    obtain ⟨z, hv⟩ := hf
    have J : PySem.W.InstAt s.heap a oe D none := by
      cases oe with
      | mk c1 c2 c3 c4 =>
        obtain ⟨h1, h2⟩ := hz
        dsimp only at h1 h2 hv
        subst h1 h2 hv
        exact ⟨g1, rfl, rfl, trivial⟩
    exact PySem.W.kia_one (PySem.W.handS_kitx_exc C.hg C.hk C.hs C.hd C.ha C.hn C.ht C.hm) I.kIn J hk (fun w => nomatch w) fun tk => ⟨.bl b, H, I.kept (t' := tk) fun _ _ w => w, rfl, q⟩
end
/-- a def that is handed an error, with its bindings -/
def OkE (P : Program) (w : World) (K : PySem.W.Frag) (mg : Str → Option Value) (base : Heap) (k : Nat) (f : Addr) (ps : List Str) (sp : Addr → Value → Option Addr → Sp) : Prop :=
  ∃ fd, FnE P w K mg base k f fd ps sp ∧ Binds K fd ps [] ∧ PySem.W.keepIn K (.ref f) = true
end Pw
namespace Pw
/-- behind here nothing is reached -/
def tNever : TS := fun _ _ _ => False
theorem pss_never {X : Cx} {ss : List Stmt} : PSs X ss tNever := ⟨fun _ _ _ _ _ _ h => h.elim⟩
end Pw
namespace Pw
abbrev errs : List Str := ["NoWall", "NoSize", "NoNights", "NoBox", "NoParcel", "NoNote"]
end Pw
namespace Pw
def sp_room_for_k15 (K : PySem.W.Frag) : Sp := fun vs H Q E => ∃ (x : Addr) (size : Int), vs = [.ref x, .int size] ∧ ¬ (1 ≤ size ∧ size ≤ 9) ∧ E (.ref (He.ga K "NoSize")) none H
theorem len_room_for_k15 {K : PySem.W.Frag} : ∀ vs H Q E, sp_room_for_k15 K vs H Q E → vs.length = 2 := by
  rintro vs H Q E ⟨_, _, rfl, _⟩
  rfl
def t_room_for_k15 (K : PySem.W.Frag) (E : XK) : TS :=
  tSeq (tIfS (tNot (tB (tCall (sp_is_size K) [] E0 (tCons (tVar 1) tNil)))) (tRaise E (He.ga K "NoSize")) (tNext))
    (tNever)
theorem pure_room_for_k15 {K : PySem.W.Frag} (vs : List V) (H : Hp) (Q : VK) (E : XK) (h : sp_room_for_k15 K vs H Q E) : t_room_for_k15 K E { nx := fun _ H' => Q .non H', rt := Q } (start ["wall", "size", "held", "found", "queue", "back", "ends", "least", "moves", "box"] vs) H := by
  obtain ⟨x, size, rfl, hs, k⟩ := h
  unfold t_room_for_k15
  walk_at "go"
  exact k
end Pw
namespace Pw
/-! ### parcels in a wall -/
def hasP (l : List (Option Nat)) (n : Int) : Prop := ∃ m : Nat, (m : Int) = n ∧ some m ∈ l
theorem flatOpt (l : List (Option Nat)) : (l.map optV).all flatV = true := by
  rw [List.all_eq_true]
  intro v hv
  obtain ⟨x, _, rfl⟩ := List.mem_map.mp hv
  cases x <;> rfl
theorem flatNat (l : List Nat) : (l.map fun i : Nat => V.int (i : Int)).all flatV = true := by
  rw [List.all_eq_true]
  intro v hv
  obtain ⟨x, _, rfl⟩ := List.mem_map.mp hv
  rfl
theorem flatI (l : List Int) : (l.map V.int).all flatV = true := by
  rw [List.all_eq_true]
  intro v hv
  obtain ⟨x, _, rfl⟩ := List.mem_map.mp hv
  rfl
theorem inOpt {l : List (Option Nat)} {n : Int} : inV (.int n) (l.map optV) = true ↔ hasP l n := by
  unfold inV hasP
  rw [List.any_eq_true]
  constructor
  · rintro ⟨y, hy, e⟩
    obtain ⟨x, hx, rfl⟩ := List.mem_map.mp hy
    cases x with
    | none => exact absurd (show false = true from e) Bool.false_ne_true
    | some m => exact ⟨m, beq_iff_eq.mp (show ((m : Int) == n) = true from e), hx⟩
  · rintro ⟨m, rfl, hm⟩
    exact ⟨V.int m, List.mem_map.mpr ⟨some m, hm, rfl⟩, show ((m : Int) == (m : Int)) = true from beq_self_eq_true _⟩
theorem inOptF {l : List (Option Nat)} {n : Int} (h : inV (.int n) (l.map optV) = false) : ¬ hasP l n := fun q => by
  rw [inOpt.mpr q] at h; cases h
theorem inNat {l : List Nat} {n : Int} : inV (.int n) (l.map fun i : Nat => V.int (i : Int)) = true ↔ ∃ c ∈ l, ((c : Nat) : Int) = n := by
  unfold inV
  rw [List.any_eq_true]
  constructor
  · rintro ⟨y, hy, e⟩
    obtain ⟨x, hx, rfl⟩ := List.mem_map.mp hy
    exact ⟨x, hx, beq_iff_eq.mp (show ((x : Int) == n) = true from e)⟩
  · rintro ⟨m, hm, rfl⟩
    exact ⟨V.int m, List.mem_map.mpr ⟨m, hm, rfl⟩, show ((m : Int) == (m : Int)) = true from beq_self_eq_true _⟩
theorem inNatF {l : List Nat} {n : Int} (h : inV (.int n) (l.map fun i : Nat => V.int (i : Int)) = false) : ¬ ∃ c ∈ l, ((c : Nat) : Int) = n := fun q => by
  rw [inNat.mpr q] at h; cases h
/-- the first place of a parcel -/
def Fst (l : List (Option Nat)) (m b : Nat) : Prop := l[b]? = some (some m) ∧ ∀ c, c < b → l[c]? ≠ some (some m)
theorem fst_of {m : Nat} : ∀ {l : List (Option Nat)}, some m ∈ l → ∃ b, Fst l m b
  | x :: l, h => by
    by_cases e : x = some m
    · exact ⟨0, by rw [e]; rfl, fun c hc => absurd hc (Nat.not_lt_zero c)⟩
    · have h' : some m ∈ l := by
        rcases List.mem_cons.mp h with q | q
        · exact absurd q.symm e
        · exact q
      obtain ⟨b, h1, h2⟩ := fst_of h'
      refine ⟨b + 1, h1, fun c hc => ?_⟩
      cases c with
      | zero => intro q; exact e (Option.some.inj q)
      | succ c => exact h2 c (Nat.lt_of_succ_lt_succ hc)
theorem Fst.uniq {l : List (Option Nat)} {m b c : Nat} (h : Fst l m b) (h' : Fst l m c) : b = c := by
  rcases Nat.lt_trichotomy b c with q | q | q
  · exact absurd h.1 (h'.2 b q)
  · exact q
  · exact absurd h'.1 (h.2 c q)
theorem Fst.lt {l : List (Option Nat)} {m b : Nat} (h : Fst l m b) : b < l.length := getLt h.1
theorem Fst.mem {l : List (Option Nat)} {m b : Nat} (h : Fst l m b) : some m ∈ l := List.mem_of_getElem? h.1
theorem Fst.idx {l : List (Option Nat)} {m b : Nat} (h : Fst l m b) : (l.map optV)[b]? = some (V.int (m : Int)) ∧ eqV (V.int (m : Int)) (V.int (m : Int)) = true ∧ ∀ (c : Nat) (z : V), c < b → (l.map optV)[c]? = some z → eqV z (V.int (m : Int)) = false := by
  refine ⟨getMap h.1, show ((m : Int) == (m : Int)) = true from beq_self_eq_true _, fun c z hc hz => ?_⟩
  obtain ⟨x, hx, rfl⟩ := mapGet hz
  cases x with
  | none => rfl
  | some k =>
    show ((k : Int) == (m : Int)) = false
    rw [beq_eq_false_iff_ne]
    intro e
    have e : k = m := by omega
    subst e
    exact h.2 c hc hx
def WS.ins (s : WS) (l : List (Option Nat)) : WS := { s with inside := l }
def WS.on (s : WS) (d : Int) : WS := { s with today := d }
theorem WallAt.insUpd {K : PySem.W.Frag} {H : Hp} {s : WS} (A : WallAt K H s) {l : List (Option Nat)} (hl : l.length = s.sizes.length) (nb : ∀ (j n : Nat), l[j]? = some (some n) → n < s.parcels.length) : WallAt K (upd H s.l2 (.lst (l.map optV))) (s.ins l) :=
  ⟨by show upd _ s.l2 _ s.w = _; rw [upd_ne (ne_of A.ob A.is (by intro q; cases q))]; exact A.ob,
   by show upd _ s.l2 _ s.l1 = _; rw [upd_ne A.n12]; exact A.bx,
   upd_same,
   let ⟨ts, h1, h2, h3⟩ := A.ps; ⟨ts, by show upd _ s.l2 _ s.l3 = _; rw [upd_ne (Ne.symm A.n23)]; exact h1, h2, fun j t q => by rw [upd_ne (ne_of (h3 j t q) A.is (by intro q; cases q))]; exact h3 j t q⟩,
   A.n12, A.n13, A.n23, hl, A.l8, A.pl, nb⟩
theorem WallAt.dayUpd {K : PySem.W.Frag} {H : Hp} {s : WS} (A : WallAt K H s) (d : Int) : WallAt K (upd H s.w (.ins (He.ga K "Wall") s.dx (wf s.l1 s.l2 s.l3 d))) (s.on d) :=
  ⟨upd_same,
   by show upd _ s.w _ s.l1 = _; rw [upd_ne (ne_of A.bx A.ob (by intro q; cases q))]; exact A.bx,
   by show upd _ s.w _ s.l2 = _; rw [upd_ne (ne_of A.is A.ob (by intro q; cases q))]; exact A.is,
   let ⟨ts, h1, h2, h3⟩ := A.ps; ⟨ts, by show upd _ s.w _ s.l3 = _; rw [upd_ne (ne_of h1 A.ob (by intro q; cases q))]; exact h1, h2, fun j t q => by rw [upd_ne (ne_of (h3 j t q) A.ob (by intro q; cases q))]; exact h3 j t q⟩,
   A.n12, A.n13, A.n23, A.len, A.l8, A.pl, A.nb⟩
theorem nbSet {l : List (Option Nat)} {k b : Nat} {x : Option Nat} (h : ∀ (j n : Nat), l[j]? = some (some n) → n < k) (hx : ∀ n, x = some n → n < k) : ∀ (j n : Nat), (l.set b x)[j]? = some (some n) → n < k := by
  intro j n hn
  rw [List.getElem?_set] at hn
  split at hn
  · split at hn
    · exact hx n (Option.some.inj hn)
    · cases hn
  · exact h j n hn
theorem WallAt.tup {K : PySem.W.Frag} {H : Hp} {s : WS} (A : WallAt K H s) {m : Nat} (h : m < s.parcels.length) : ∃ (ts : List Addr) (t : Addr), H s.l3 = some (.lst (ts.map V.ref)) ∧ ts.length = s.parcels.length ∧ atI (ts.map V.ref) (m : Int) = some (.ref t) ∧
    H t = some (.tup [.int (s.parcels.getD m (0, 0)).1, .int (s.parcels.getD m (0, 0)).2]) := by
  obtain ⟨ts, h1, h2, h3⟩ := A.ps
  obtain ⟨t, ht⟩ := getOf (xs := ts) (i := m) (by omega)
  exact ⟨ts, t, h1, h2, at_of (j := m) rfl (getMap ht), h3 m t ht⟩
theorem WallAt.mem_lt {K : PySem.W.Frag} {H : Hp} {s : WS} (A : WallAt K H s) {m : Nat} (h : some m ∈ s.inside) : m < s.parcels.length := by
  obtain ⟨b, hb⟩ := fst_of h
  exact A.nb b m hb.1
/-! ### a night -/
def dueB (ps : List (Int × Int)) (day : Int) : Option Nat → Bool
  | none => false
  | some m => decide ((ps.getD m (0, 0)).2 ≤ day)
def nightF (ps : List (Int × Int)) (day : Int) (x : Option Nat) : Option Nat := if dueB ps day x = true then none else x
def backOf (ps : List (Int × Int)) (day : Int) (l : List (Option Nat)) : List Int := (l.filter (dueB ps day)).map fun x => ((x.getD 0 : Nat) : Int)
theorem nightStep {α : Type} {f : α → α} : ∀ {l : List α} {i : Nat} {x : α}, l[i]? = some x → ((l.take i).map f ++ l.drop i).set i (f x) = (l.take (i + 1)).map f ++ l.drop (i + 1)
  | [], i, x, h => by simp at h
  | a :: l, 0, x, h => by
    have e : a = x := Option.some.inj h
    subst e; rfl
  | a :: l, i + 1, x, h => by
    have ih := nightStep (f := f) (l := l) (i := i) (x := x) h
    show f a :: (((l.take i).map f ++ l.drop i).set i (f x)) = f a :: ((l.take (i + 1)).map f ++ l.drop (i + 1))
    rw [ih]
theorem nightAt {α : Type} {f : α → α} : ∀ {l : List α} {i : Nat}, ((l.take i).map f ++ l.drop i)[i]? = l[i]?
  | [], i => by simp
  | a :: l, 0 => rfl
  | a :: l, i + 1 => nightAt (f := f) (l := l) (i := i)
theorem setSame {α : Type} : ∀ {l : List α} {i : Nat} {x : α}, l[i]? = some x → l.set i x = l
  | [], _, _, h => by simp at h
  | a :: l, 0, x, h => by
    have e : a = x := Option.some.inj h
    subst e; rfl
  | a :: l, i + 1, x, h => by
    have ih := setSame (l := l) (i := i) (x := x) h
    show a :: l.set i x = a :: l
    rw [ih]
def WS.nighted (s : WS) : WS := { s with inside := s.inside.map (nightF s.parcels (s.today + 1)), today := s.today + 1 }
theorem nightF_some {ps : List (Int × Int)} {day : Int} {x : Option Nat} {n : Nat} (h : nightF ps day x = some n) : x = some n := by
  unfold nightF at h
  split at h
  · cases h
  · exact h
end Pw
namespace Pw
def sp_Wall_see (K : PySem.W.Frag) : Sp := fun vs H Q E => ∃ (s : WS), WallAt K H s ∧ ∃ (n : Int), vs = [.ref s.w, .int n] ∧ (hasP s.inside n → Q .non H) ∧ (¬ hasP s.inside n → E (.ref (He.ga K "NoParcel")) none H)
theorem len_Wall_see {K : PySem.W.Frag} : ∀ vs H Q E, sp_Wall_see K vs H Q E → vs.length = 2 := by
  rintro vs H Q E ⟨_, _, _, rfl, _⟩
  rfl
def t_Wall_see (K : PySem.W.Frag) (E : XK) : TS :=
  tIfS (tOr (tTest (tOp rIsNone (tVar 1) (tC .non))) (tTest (tOp (rInN K) (tVar 1) (tFld K (tVar 0) "inside")))) (tRaise E (He.ga K "NoParcel")) (tNext)
theorem pure_Wall_see {K : PySem.W.Frag} (T : TW K) (vs : List V) (H : Hp) (Q : VK) (E : XK) (h : sp_Wall_see K vs H Q E) : t_Wall_see K E { nx := fun _ H' => Q .non H', rt := Q } (start ["self", "parcel"] vs) H := by
  obtain ⟨s, A, n, rfl, k, kE⟩ := h
  obtain ⟨tcl, tnb, tni, tnp, tnt⟩ := id T
  have hob := A.ob
  have his := A.is
  have hfl := flatOpt s.inside
  unfold t_Wall_see
  walk_at "go"
  refine ifNB (fun c => ?_) (fun c => ?_)
  · exact kE (inOptF c)
  · exact k (inOpt.mp c)
end Pw
namespace Pw
def sp_Wall_fetch (K : PySem.W.Frag) : Sp := fun vs H Q E => ∃ (s : WS), WallAt K H s ∧ ∃ (n : Int), vs = [.ref s.w, .int n] ∧ (∀ (m b : Nat), (m : Int) = n → Fst s.inside m b → ∀ H', Frm s H H' → WallAt K H' (s.ins (s.inside.set b none)) → Q (.int (b : Nat)) H') ∧
  (¬ hasP s.inside n → E (.ref (He.ga K "NoParcel")) none H)
theorem len_Wall_fetch {K : PySem.W.Frag} : ∀ vs H Q E, sp_Wall_fetch K vs H Q E → vs.length = 2 := by
  rintro vs H Q E ⟨_, _, _, rfl, _⟩
  rfl
def t_Wall_fetch (K : PySem.W.Frag) (E : XK) : TS :=
  tSeq (tDrop (tMeth (He.ga K "Wall") "see" (sp_Wall_see K) [] E (tVar 0) (tCons (tVar 1) tNil)))
    (tSeq (tAsg (tBM K "list" (rIndex K) (tFld K (tVar 0) "inside") (tCons (tVar 1) tNil)) (gName 2))
    (tSeq (tAsg (tC .non) (gSub (tFld K (tVar 0) "inside") (tVar 2) rSetL))
    (tRet (tVar 2))))
theorem pure_Wall_fetch {K : PySem.W.Frag} (T : TW K) (vs : List V) (H : Hp) (Q : VK) (E : XK) (h : sp_Wall_fetch K vs H Q E) : t_Wall_fetch K E { nx := fun _ H' => Q .non H', rt := Q } (start ["self", "parcel", "box"] vs) H := by
  obtain ⟨s, A, n, rfl, k, kE⟩ := h
  obtain ⟨tcl, tnb, tni, tnp, tnt⟩ := id T
  have hob := A.ob
  have his := A.is
  have hfl := flatOpt s.inside
  unfold t_Wall_fetch
  walk_at "go"
  refine ⟨?_, kE⟩
  rintro ⟨m, rfl, hm⟩
  obtain ⟨b, hb⟩ := fst_of hm
  obtain ⟨i1, i2, i3⟩ := hb.idx
  have hbl := hb.lt
  walk_at "go"
  refine ⟨ixN_of (by omega) (by rw [List.length_map]; omega), ?_⟩
  have eb : ((b : Nat) : Int).toNat = b := by omega
  dsimp only
  rw [eb, setNon]
  walk_at "go"
  refine k m b rfl hb _ (fun x o e n1 n2 n3 => by rw [upd_ne n2]; exact e) (A.insUpd (by rw [List.length_set]; exact A.len) (nbSet A.nb fun n q => (by cases q)))
end Pw
namespace Pw
open SX
/-! ### texts -/
def W5 : List Nat := [119, 97, 108, 108, 32]
def wtx (sizes : List Int) : List Nat := W5 ++ sizes.map fun x => (48 + x).toNat
theorem w5S : S W5 = ("wall " : Str) := by decide +kernel
theorem nilS : (("" : Str)) = S [] := by decide +kernel
theorem cut5a {a : List Nat} : cutS (S a) none (some 5) = S (a.take 5) := by
  have e : HT.sIx (S a).length (S a).length (some 5) = min 5 a.length := by
    rw [S_len]; exact HT.sIx_nat _ _ 5
  have e0 : HT.sIx (S a).length 0 none = 0 := rfl
  unfold cutS
  rw [e, e0]
  show S ((a.drop 0).take (min 5 a.length - 0)) = _
  rw [List.drop_zero, Nat.sub_zero]
  congr 1
  rw [List.take_eq_take_iff]
  omega
theorem cut5b {a : List Nat} : cutS (S a) (some 5) none = S (a.drop 5) := by
  have e : HT.sIx (S a).length 0 (some 5) = min 5 a.length := by
    rw [S_len]; exact HT.sIx_nat _ _ 5
  have e0 : HT.sIx (S a).length (S a).length none = a.length := S_len a
  unfold cutS
  rw [e, e0]
  show S ((a.drop (min 5 a.length)).take (a.length - min 5 a.length)) = _
  congr 1
  rw [List.take_of_length_le (by rw [List.length_drop]; omega)]
  by_cases h : 5 ≤ a.length
  · rw [Nat.min_eq_left h]
  · rw [Nat.min_eq_right (by omega), List.drop_length, List.drop_eq_nil_of_le (by omega)]
theorem inFig {c : Nat} : c ∈ ("123456789" : Str).cps.toList ↔ 49 ≤ c ∧ c ≤ 57 := by
  rw [show ("123456789" : Str).cps.toList = [49, 50, 51, 52, 53, 54, 55, 56, 57] by decide +kernel]
  simp only [List.mem_cons, List.not_mem_nil, or_false]
  omega
theorem intSign {c : Nat} (h : 49 ≤ c ∧ c ≤ 57) : PySem.intText? (S [c]) = some ((c : Int) - 48) := by
  have q := int_S (a := [c]) (by simp; omega) (by simp) (by simp)
  rw [q]
  have e : NumText.digitsVal [c] = c - 48 := by unfold NumText.digitsVal; simp
  rw [e]
  congr 1
  omega
theorem strSign {x : Int} (h : 1 ≤ x ∧ x ≤ 9) : Str.ofString (toString x) = S [(48 + x).toNat] := by
  obtain ⟨n, rfl⟩ : ∃ n : Nat, x = (n : Int) := ⟨x.toNat, by omega⟩
  rw [num_S, TL.numL_lt (by omega)]
  rw [show (48 + (n : Int)).toNat = 48 + n by omega]
theorem joinOne : ∀ l : List Nat, TL.joinL [] (l.map fun c => [c]) = l
  | [] => rfl
  | [c] => rfl
  | c :: d :: r => by
    have ih := joinOne (d :: r)
    show [c] ++ ([] ++ TL.joinL [] ((d :: r).map fun c => [c])) = _
    rw [ih]; rfl
theorem joinSigns (l : List Nat) : Txt.join ("" : Str) (l.map fun c => S [c]) = S l := by
  have e : (l.map fun c => S [c]) = (l.map fun c => [c]).map S := by rw [List.map_map]; rfl
  rw [nilS, e, join_S, joinOne]
section
variable {g : TG} {tb : TS} {D : Ends} {σ : L2.St} {H : Hp}
theorem forStr {a : List Nat} (Pv : Nat → L2.St → Hp → Prop) (h0 : Pv 0 σ H)
    (hs : ∀ i c σ H, a[i]? = some c → Pv i σ H → g (.str (S [c])) σ H fun σ2 H2 => tb { D with nx := Pv (i + 1), ct := Pv (i + 1), bk := D.nx } σ2 H2) (hd : ∀ σ H, Pv a.length σ H → D.nx σ H) : ForG (Its (S a)) g tb D σ H := by
  unfold ForG
  have w := walk_str (z := S a)
  rw [show (S a).cps.size = a.length by simp [S]] at w
  refine for_it w Pv h0 (fun _ _ _ _ _ => trivial) (fun i x σ H H' hi p y => ?_) hd
  obtain ⟨rfl, c, hc, rfl⟩ := y
  exact hs i c σ _ (by simpa [S] using hc) p
end
section
variable {tt : TT} {te : TE} {vs : List Nat} {j : Nat} {σ : L2.St} {H1 : Hp} {D : Addr} {Qd : Hp → Prop}
theorem lcStr {a : List Nat} (p : Nat → Bool) (f : Nat → V) (hD : H1 D = none) (hlen : a.length ≤ 50000) (hw : ∀ x, wipe ((wipe σ vs).set j (some x)) vs = wipe σ vs)
    (ht : ∀ (i c : Nat) H', a[i]? = some c → Same H1 H' → ∀ T : Bool → Hp → Prop, (∀ H'', Same H' H'' → T (p c) H'') → tt ((wipe σ vs).set j (some (.str (S [c])))) H' T)
    (he : ∀ (i c : Nat) H', a[i]? = some c → p c = true → Same H1 H' → ∀ Qv : VK, (∀ H'', Same H' H'' → Qv (f c) H'') → te ((wipe σ vs).set j (some (.str (S [c])))) H' Qv)
    (hd : ∀ H', Same H1 H' → H' D = some (.lst ((a.filter p).map f)) → Qd H') :
    ∃ W : Nat → Nat → Hp → Prop, (∃ m, W 0 m (upd H1 D (.lst []))) ∧ ∀ i m H, W i m H →
      ((Its (S a)).stop i H ∧ Qd H) ∨ ((Its (S a)).go i H ∧ ∃ Nx : Hp → Prop, (∀ H', Nx H' → ∃ m', m' < m ∧ W (i + 1) m' H') ∧ ∀ x H', (Its (S a)).yld i H x H' → gName j x (wipe σ vs) H' fun σ2 H2 => wipe σ2 vs = wipe σ vs ∧ tt σ2 H2 fun b H3 =>
        if b = true then te σ2 H3 fun y H4 => ∃ acc, H4 D = some (.lst acc) ∧ acc.length < sizeLine ∧ Nx (upd H4 D (.lst (acc ++ [y]))) else Nx H3) := by
  have w := walk_str (z := S a)
  rw [show (S a).cps.size = a.length by simp [S]] at w
  refine lc_it w (fun i H' => Same H1 H' ∧ H' D = some (.lst (((a.take i).filter p).map f))) ⟨sameNew (Same.refl _) hD, upd_same⟩ (fun _ _ _ _ => trivial) ?_ ?_
  · rintro i x H H' hi ⟨s, hD'⟩ ⟨rfl, c, hc, rfl⟩
    have hc : a[i]? = some c := by simpa [S] using hc
    refine ⟨hw _, ?_⟩
    refine ht i c _ hc s _ fun H3 s3 => ?_
    have e := filterTake (p := p) (f := f) hc
    refine ifB (fun q => ?_) (fun q => ?_)
    · refine he i c H3 hc q (s.trans s3) _ fun H4 s4 => ?_
      rw [if_pos q] at e
      refine ⟨_, s4 _ _ (s3 _ _ hD'), ?_, sameMut (s.trans (s3.trans s4)) hD, ?_⟩
      · have q1 : (((a.take i).filter p).map f).length ≤ a.length := by
          rw [List.length_map]
          exact Nat.le_trans (List.length_filter_le _ _) (by rw [List.length_take]; omega)
        exact szLt (by omega)
      · rw [e]; exact upd_same
    · rw [if_neg (by rw [q]; exact Bool.false_ne_true), List.append_nil] at e
      refine ⟨s.trans s3, ?_⟩
      rw [e]; exact s3 _ _ hD'
  · rintro H' ⟨s, hD'⟩
    rw [List.take_length] at hD'
    exact hd H' s hD'
end
/-- a text that writes a wall of these sizes -/
def Wr (a : List Nat) (sizes : List Int) : Prop := a.take 5 = W5 ∧ (∀ c ∈ a.drop 5, 49 ≤ c ∧ c ≤ 57) ∧ OkW sizes ∧ sizes = (a.drop 5).map fun c : Nat => (c : Int) - 48
theorem Wr.uniq {a : List Nat} {s t : List Int} (h : Wr a s) (h' : Wr a t) : s = t := h.2.2.2.trans h'.2.2.2.symm
theorem wr_wtx {sizes : List Int} (ok : OkW sizes) : Wr (wtx sizes) sizes := by
  have e : (wtx sizes).drop 5 = sizes.map fun x => (48 + x).toNat := by unfold wtx W5; simp
  refine ⟨by unfold wtx W5; simp, fun c hc => ?_, ok, ?_⟩
  · rw [e] at hc
    obtain ⟨x, hx, rfl⟩ := List.mem_map.mp hc
    have := ok.2.2 x hx
    omega
  · rw [e, List.map_map]
    conv => lhs; rw [← List.map_id sizes]
    refine List.map_congr_left fun x hx => ?_
    have := ok.2.2 x hx
    show x = (((48 + x).toNat : Nat) : Int) - 48
    omega
end Pw
namespace Pw
open SX
theorem strLen (x y : Str) : (x ++ y).length = x.length + y.length := by
  have hx := S_tl x
  have hy := S_tl y
  rw [← hx, ← hy, S_cat, S_len, S_len, S_len, List.length_append]
theorem sumSigns : ∀ l : List Nat, ((l.map fun c => S [c]).map (·.length)).sum = l.length
  | [] => rfl
  | c :: r => by
    rw [List.map_cons, List.map_cons, List.sum_cons, sumSigns r, S_len, List.length_cons]
    show 1 + r.length = r.length + 1
    omega
theorem sumOk {l : List Nat} (h : l.length ≤ 1000) : ((l.map fun c => S [c]).map (·.length)).sum + (l.map fun c => S [c]).length * ("" : Str).length ≤ 16777216 := by
  rw [sumSigns, show ("" : Str).length = 0 by decide +kernel]
  omega
theorem strAt {z : Str} {i : Int} (h0 : 0 ≤ i) (h1 : i < z.length) : ∃ c, atI z.cps.toList i = some c := by
  have hl : z.cps.toList.length = z.length := Array.length_toList
  have hi : i.toNat < z.cps.toList.length := by omega
  have q := atI_nat (List.getElem?_eq_getElem hi)
  rw [Int.toNat_of_nonneg h0] at q
  exact ⟨_, q⟩
theorem cutLen (z : Str) (lo hi : Option Int) : (cutS z lo hi).length ≤ z.length := cutS_length z lo hi
theorem oneLen (c : Nat) : (⟨#[c]⟩ : Str).length = 1 := rfl
end Pw
namespace Pw
def sp_read (K : PySem.W.Frag) : Sp := fun vs H Q E => ∃ (a : List Nat), vs = [.str (SX.S a)] ∧ a.length ≤ 1000 ∧
  (∀ sizes, Wr a sizes → ∀ x dx l1 l2 l3 H', Same H H' → WallAt K H' ⟨x, dx, l1, l2, l3, sizes, List.replicate sizes.length none, [], 0⟩ → H x = none → H l1 = none → H l2 = none → H l3 = none → Q (.ref x) H') ∧
  ((¬ ∃ sizes, Wr a sizes) → ∀ H', Same H H' → E (.ref (He.ga K "NoNote")) none H')
theorem len_read {K : PySem.W.Frag} : ∀ vs H Q E, sp_read K vs H Q E → vs.length = 1 := by
  rintro vs H Q E ⟨_, rfl, _⟩
  rfl
def t_read (K : PySem.W.Frag) (E : XK) : TS :=
  tSeq (tIfS (tTest (tOp rNe (tSl rSlS (tVar 0) tNoPart (tPart (tC (.int 5)))) (tC (.str "wall ")))) (tRaise E (He.ga K "NoNote")) (tNext))
    (tSeq (tForP (iStr (tSl rSlS (tVar 0) (tPart (tC (.int 5))) tNoPart)) (gName 1) (tIfS (tTest (tOp rNotInSign (tVar 1) (tC (.str "123456789")))) (tRaise E (He.ga K "NoNote")) (tNext)))
    (tTryOnly K (.ref (He.ga K "NoWall")) (fun W => tRet (tMakeS (He.ga K "Wall") (sp_Wall_init K) (WE W) (tCons (tLc (iStr (tSl rSlS (tVar 0) (tPart (tC (.int 5))) tNoPart)) (gName 1) tYes (tCB rIntStr (tCons (tVar 1) tNil)) [1]) tNil))) (fun a cls d => tRaise E (He.ga K "NoNote")) (wE E)))
open SX in
theorem pure_read {K : PySem.W.Frag} {l : List Str} (X : XS K l) (hll : ((["NoWall"] : List Str).all fun x => l.contains x) = true) (vs : List V) (H : Hp) (Q : VK) (E : XK) (h : sp_read K vs H Q E) : t_read K E { nx := fun _ H' => Q .non H', rt := Q } (start ["text", "sign"] vs) H := by
  obtain ⟨a, rfl, hl, k, kE⟩ := h
  have mW : ("NoWall" : Str) ∈ l := inAll hll (by simp)
  have x0 := X.exm (b := true) mW mW (by decide +kernel)
  have hla : (S a).length ≤ 1000 := by rw [S_len]; exact hl
  unfold t_read tTryOnly
  walk_at "go"
  rw [cut5a]
  refine ifN (fun c => kE (fun ⟨z, hz⟩ => c (by rw [hz.1, w5S])) _ (Same.refl _)) (fun c => ?_)
  have c5 : a.take 5 = W5 := S_inj ((V.str.inj c).trans w5S.symm)
  clear c
  walk_at "go"
  rw [cut5b]
  refine forStr (a := a.drop 5) (fun i σ H' => Stop (∃ v, σ = [some (.str (S a)), v] ∧ H' = H ∧ ∀ c ∈ (a.drop 5).take i, 49 ≤ c ∧ c ≤ 57)) ⟨none, rfl, rfl, fun c hc => by simp at hc⟩ ?_ ?_
  · rintro i c σ H' hc ⟨v, rfl, rfl, hf⟩
    walk_at "go"
    refine ifN (fun q => kE (fun ⟨z, hz⟩ => q (inFig.mpr (hz.2.1 c (List.mem_of_getElem? hc)))) _ (Same.refl _)) (fun q => ?_)
    refine ⟨_, rfl, rfl, fun d hd => ?_⟩
    rw [takeMore hc] at hd
    rcases List.mem_append.mp hd with z | z
    · exact hf d z
    · rw [List.mem_singleton.mp z]; exact inFig.mp q
  · rintro σ H' ⟨v, rfl, rfl, hf⟩
    rw [List.take_length] at hf
    have l5 : (a.drop 5).length ≤ 1000 := by rw [List.length_drop]; omega
    walk_at "go"
    intro D hD
    rw [cut5b]
    refine lcStr (a := a.drop 5) (fun _ => true) (fun c => V.int ((c : Int) - 48)) hD (by omega) (fun _ => rfl) (fun i c H' hi s' TT k' => ?_) (fun i c H' hi _ s' Qv k' => ?_) (fun H1 s1 hD1 => ?_)
    · exact k' _ (Same.refl _)
    · have hc := intSign (hf c (List.mem_of_getElem? hi))
      have h1 : (S [c]).length ≤ 640 := by rw [S_len]; simp
      walk_at "go"
      exact k' _ (Same.refl _)
    rw [filterAll] at hD1
    have hD1 : H1 D = some (.lst (((a.drop 5).map fun c : Nat => (c : Int) - 48).map V.int)) := by rw [hD1, List.map_map]; rfl
    walk_at "go"
    intro x dx hx hdx hne
    have s0 : Same H1 (upd (upd H1 dx (.own x)) x (.ins (He.ga K "Wall") dx [])) := sameNew (sameNew (Same.refl _) hdx) (by rw [upd_ne (Ne.symm hne)]; exact hx)
    refine ⟨x, dx, D, _, rfl, upd_same, SqL.of (s0 _ _ hD1), by rw [List.length_map]; exact l5, fun ok H2 l1 l2 l3 A1 n1 n2 n3 fr => ?_, fun nok => ?_⟩
    · have s2 : Same H1 H2 := fun c o e => fr c o (s0 c o e) (ne_of_none e hx)
      refine ⟨rfl, ?_⟩
      walk_at "go"
      exact k _ ⟨c5, hf, ok, rfl⟩ x dx l1 l2 l3 _ (s1.trans s2) A1 (s1.free hx) (s1.free (s0.free n1)) (s1.free (s0.free n2)) (s1.free (s0.free n3))
    · walk_at "go"
      refine ⟨fun _ e he => ?_, fun z => (by cases z)⟩
      walk_at "go"
      exact kE (fun ⟨z, hz⟩ => nok (by rw [← hz.2.2.2]; exact hz.2.2.1)) _ (s1.trans s0)
end Pw
namespace Pw
def sp_law_call_k15 (K : PySem.W.Frag) : Sp := fun vs H Q E => ∃ (s : WS), WallAt K H s ∧ ∃ (way many : Int), vs = [.int way, .ref s.w, .int many] ∧ 0 ≤ way ∧ way < 6 ∧ 1 ≤ many ∧ many ≤ 8 ∧ s.parcels.length < 1000 ∧ (∀ b ∈ freeL s.inside, False) ∧ ¬ hasP s.inside many ∧
  ∀ (x : Str) (H' : Hp), errs[way.toNat]? = some x → Same H H' → E (.ref (He.ga K x)) none H'
theorem len_law_call_k15 {K : PySem.W.Frag} : ∀ vs H Q E, sp_law_call_k15 K vs H Q E → vs.length = 3 := by
  rintro vs H Q E ⟨_, _, _, _, rfl, _⟩
  rfl
def t_law_call_k15 (K : PySem.W.Frag) (E : XK) : TS :=
  tIfS (tTest (tOp rEq (tVar 0) (tC (.int 0)))) (tDrop (tMake (He.ga K "Wall") (sp_Wall_init K) [] E (tCons (tLst tNil) tNil))) (tIfS (tTest (tOp rEq (tVar 0) (tC (.int 1)))) (tDrop (tCall (sp_room_for_k15 K) [] E (tCons (tVar 1) (tCons (tC (.int 0)) tNil)))) (tIfS (tTest (tOp rEq (tVar 0) (tC (.int 2)))) (tDrop (tMeth (He.ga K "Wall") "come" (sp_Wall_come K) [] E (tVar 1) (tCons (tC (.int 1)) (tCons (tC (.int 0)) tNil)))) (tIfS (tTest (tOp rEq (tVar 0) (tC (.int 3)))) (tDrop (tMeth (He.ga K "Wall") "come" (sp_Wall_come K) [] E (tVar 1) (tCons (tC (.int 1)) (tCons (tC (.int 1)) tNil)))) (tIfS (tTest (tOp rEq (tVar 0) (tC (.int 4)))) (tDrop (tMeth (He.ga K "Wall") "fetch" (sp_Wall_fetch K) [] E (tVar 1) (tCons (tVar 2) tNil))) (tDrop (tCall (sp_read K) [] E (tCons (tOp rAddS (tC (.str "wall")) (tCB rStrInt (tCons (tVar 2) tNil))) tNil)))))))
theorem pure_law_call_k15 {K : PySem.W.Frag} (vs : List V) (H : Hp) (Q : VK) (E : XK) (h : sp_law_call_k15 K vs H Q E) : t_law_call_k15 K E { nx := fun _ H' => Q .non H', rt := Q } (start ["way", "side", "many"] vs) H := by
  obtain ⟨s, A, way, many, rfl, w0, w6, m1, m8, lp, full, gone, k⟩ := h
  have hob := A.ob
  unfold t_law_call_k15
  have q : way = 0 ∨ way = 1 ∨ way = 2 ∨ way = 3 ∨ way = 4 ∨ way = 5 := by omega
  rcases q with rfl | rfl | rfl | rfl | rfl | rfl
  · walk_at "go"
    intro d hd
    walk_at "go"
    intro x dx hx hdx hne
    have s1 : Same H (upd H d (.lst [])) := sameNew (Same.refl _) hd
    have s2 : Same (upd H d (.lst [])) (upd (upd (upd H d (.lst [])) dx (.own x)) x (.ins (He.ga K "Wall") dx [])) := sameNew (sameNew (Same.refl _) hdx) (by rw [upd_ne (Ne.symm hne)]; exact hx)
    exact ⟨x, dx, d, [], rfl, upd_same, SqL.of (s2 _ _ upd_same), by simp, fun ok => absurd ok.1 (by decide), fun _ => k "NoWall" _ rfl (s1.trans s2)⟩
  · have fin := k "NoSize" _ rfl (Same.refl _)
    walk_at "go"
    exact fin
  · have fin := k "NoNights" _ rfl (Same.refl _)
    walk_at "go"
    exact ⟨fun _ _ => fin, fun _ c => absurd c (by omega), fun _ c => absurd c (by omega)⟩
  · walk_at "go"
    exact ⟨fun _ _ _ H' s' => k "NoBox" _ rfl s', fun _ _ b _ hb => (full b hb.1).elim⟩
  · have fin := k "NoParcel" _ rfl (Same.refl _)
    walk_at "go"
    exact ⟨fun m b e f => absurd ⟨m, e, f.mem⟩ gone, fun _ => fin⟩
  · have lg : many.natAbs.log2 < 1920 := by
      have q : many = 1 ∨ many = 2 ∨ many = 3 ∨ many = 4 ∨ many = 5 ∨ many = 6 ∨ many = 7 ∨ many = 8 := by omega
      rcases q with rfl | rfl | rfl | rfl | rfl | rfl | rfl | rfl <;> decide
    have tx : ("wall" : Str) ++ Str.ofString (toString many) = SX.S [119, 97, 108, 108, (48 + many).toNat] := by
      have q : many = 1 ∨ many = 2 ∨ many = 3 ∨ many = 4 ∨ many = 5 ∨ many = 6 ∨ many = 7 ∨ many = 8 := by omega
      rcases q with rfl | rfl | rfl | rfl | rfl | rfl | rfl | rfl <;> decide +kernel
    walk_at "go"
    have ln : ("wall" : Str).length + (Str.ofString (toString many)).length ≤ sizeLine := by
      have q : many = 1 ∨ many = 2 ∨ many = 3 ∨ many = 4 ∨ many = 5 ∨ many = 6 ∨ many = 7 ∨ many = 8 := by omega
      rcases q with rfl | rfl | rfl | rfl | rfl | rfl | rfl | rfl <;> decide +kernel
    refine ⟨ln, ?_⟩
    rw [tx]
    refine ⟨[119, 97, 108, 108, (48 + many).toNat], rfl, by simp, fun sizes w => ?_, fun _ H' s' => k "NoNote" _ rfl s'⟩
    have := w.1
    simp [W5] at this
    omega
end Pw
namespace Pw
def sp_law_marks_k15 (K : PySem.W.Frag) (a : Addr) (cls : Value) (d : Option Addr) : Sp := fun vs H Q _ => ∃ (x : Str), vs = [.ref a] ∧ x ∈ errs ∧ cls = .ref (He.ga K x) ∧ d = none ∧
  ∀ (p : Addr) (H' : Hp), Same H H' → H' p = some (.lst ([isSub x "NoWall", isSub x "NoSize", isSub x "NoNights", isSub x "NoBox", isSub x "NoParcel", isSub x "NoNote", true].map V.bl)) → Q (.ref p) H'
theorem len_law_marks_k15 {K : PySem.W.Frag} : ∀ a cls d vs H Q E, sp_law_marks_k15 K a cls d vs H Q E → vs.length = 1 := by
  rintro a cls d vs H Q E ⟨_, rfl, _⟩
  rfl
def t_law_marks_k15 (K : PySem.W.Frag) (a : Addr) (cls : Value) (d : Option Addr) (E : XK) : TS :=
  tSeq (tAsg (tLst (tCons (tCB (rIsX K cls d a) (tCons (tVar 0) (tCons (tC (.ref (He.ga K "NoWall"))) tNil))) (tCons (tCB (rIsX K cls d a) (tCons (tVar 0) (tCons (tC (.ref (He.ga K "NoSize"))) tNil))) (tCons (tCB (rIsX K cls d a) (tCons (tVar 0) (tCons (tC (.ref (He.ga K "NoNights"))) tNil))) (tCons (tCB (rIsX K cls d a) (tCons (tVar 0) (tCons (tC (.ref (He.ga K "NoBox"))) tNil))) tNil))))) (gName 1))
    (tRet (tOp rCat (tVar 1) (tLst (tCons (tCB (rIsX K cls d a) (tCons (tVar 0) (tCons (tC (.ref (He.ga K "NoParcel"))) tNil))) (tCons (tCB (rIsX K cls d a) (tCons (tVar 0) (tCons (tC (.ref (He.ga K "NoNote"))) tNil))) (tCons (tCB (rIsX K cls d a) (tCons (tVar 0) (tCons (tC (.ty "ValueError")) tNil))) tNil))))))
theorem pure_law_marks_k15 {K : PySem.W.Frag} {l : List Str} (X : XS K l) (hl : (errs.all fun x => l.contains x) = true) (a : Addr) (cls : Value) (d : Option Addr) (vs : List V) (H : Hp) (Q : VK) (E : XK) (h : sp_law_marks_k15 K a cls d vs H Q E) : t_law_marks_k15 K a cls d E { nx := fun _ H' => Q .non H', rt := Q } (start ["e", "marks"] vs) H := by
  obtain ⟨x, rfl, hx, rfl, rfl, k⟩ := h
  have mem : ∀ {z : Str}, z ∈ errs → z ∈ l := fun hz => inAll hl hz
  have mx := mem hx
  have xc := X.c mx
  have xv := X.v mx
  have k1 := X.kit (b := isSub x "NoWall") mx (mem (by simp)) rfl
  have k2 := X.kit (b := isSub x "NoSize") mx (mem (by simp)) rfl
  have k3 := X.kit (b := isSub x "NoNights") mx (mem (by simp)) rfl
  have k4 := X.kit (b := isSub x "NoBox") mx (mem (by simp)) rfl
  have k5 := X.kit (b := isSub x "NoParcel") mx (mem (by simp)) rfl
  have k6 := X.kit (b := isSub x "NoNote") mx (mem (by simp)) rfl
  unfold t_law_marks_k15
  walk_at "go"
  intro p hp
  have hp1 : upd H p (.lst [.bl (isSub x "NoWall"), .bl (isSub x "NoSize"), .bl (isSub x "NoNights"), .bl (isSub x "NoBox")]) p = some (.lst [.bl (isSub x "NoWall"), .bl (isSub x "NoSize"), .bl (isSub x "NoNights"), .bl (isSub x "NoBox")]) := upd_same
  have s1 : Same H (upd H p (.lst [.bl (isSub x "NoWall"), .bl (isSub x "NoSize"), .bl (isSub x "NoNights"), .bl (isSub x "NoBox")])) := sameNew (Same.refl _) hp
  generalize upd H p (.lst [.bl (isSub x "NoWall"), .bl (isSub x "NoSize"), .bl (isSub x "NoNights"), .bl (isSub x "NoBox")]) = H1 at hp1 s1
  walk_at "go"
  intro q hq
  have hp2 : upd H1 q (.lst [.bl (isSub x "NoParcel"), .bl (isSub x "NoNote"), .bl true]) p = _ := updOld hp1 hq
  walk_at "go"
  intro r hr
  exact k r _ (sameNew (sameNew s1 hq) hr) upd_same
end Pw
namespace Pw
def geO (t : Int) : Option Int → Bool
  | some x => decide (t ≤ x)
  | none => false
/-- how many boxes hold a parcel as great -/
def cntO (os : List (Option Int)) (t : Int) : Nat := (os.filter (geO t)).length
theorem cntO_cons (o : Option Int) (os : List (Option Int)) (t : Int) : cntO (o :: os) t = (if geO t o = true then 1 else 0) + cntO os t := by
  unfold cntO
  by_cases h : geO t o = true
  · simp [h]; omega
  · simp [h]
theorem cntO_set {t x : Int} : ∀ {os : List (Option Int)} {b : Nat}, os[b]? = some none → cntO (os.set b (some x)) t = cntO os t + (if t ≤ x then 1 else 0)
  | [], b, h => by simp at h
  | o :: os, 0, h => by
    have e : o = none := Option.some.inj h
    subst e
    show cntO (some x :: os) t = _
    rw [cntO_cons, cntO_cons]
    by_cases c : t ≤ x
    · simp [geO, c]; omega
    · simp [geO, c]
  | o :: os, b + 1, h => by
    have ih := cntO_set (t := t) (x := x) (os := os) (b := b) (by simpa using h)
    show cntO (o :: os.set b (some x)) t = _
    rw [cntO_cons, cntO_cons, ih]; omega
theorem cntO_le {t : Int} : ∀ {sizes : List Int} {os : List (Option Int)}, os.length = sizes.length → (∀ b x, os[b]? = some (some x) → x ≤ sizes.getD b 0) → cntO os t ≤ cntGe sizes t
  | [], [], _, _ => Nat.le_refl _
  | z :: sizes, o :: os, hl, h => by
    have ih := cntO_le (t := t) (sizes := sizes) (os := os) (by simpa using hl) (fun b x e => by have := h (b + 1) x (by simpa using e); simpa using this)
    rw [cntO_cons, cntGe_cons]
    cases o with
    | none => simp [geO]; omega
    | some x =>
      have := h 0 x rfl
      have this : x ≤ z := this
      by_cases c : t ≤ x
      · rw [if_pos (by simp [geO, c]), if_pos (by omega)]; omega
      · rw [if_neg (by simp [geO, c])]; omega
theorem le_cntO {t : Int} : ∀ {sizes : List Int} {os : List (Option Int)}, os.length = sizes.length → (∀ b, b < sizes.length → t ≤ sizes.getD b 0 → ∃ x, os[b]? = some (some x) ∧ t ≤ x) → cntGe sizes t ≤ cntO os t
  | [], [], _, _ => Nat.le_refl _
  | z :: sizes, o :: os, hl, h => by
    have ih := le_cntO (t := t) (sizes := sizes) (os := os) (by simpa using hl) (fun b hb e => by
      obtain ⟨x, h1, h2⟩ := h (b + 1) (by simpa using hb) (by simpa using e)
      exact ⟨x, by simpa using h1, h2⟩)
    rw [cntO_cons, cntGe_cons]
    by_cases c : t ≤ z
    · obtain ⟨x, h1, h2⟩ := h 0 (by simp) c
      have e : o = some x := by simpa using h1
      subst e
      rw [if_pos c, if_pos (by simp [geO, h2])]; omega
    · rw [if_neg c]; omega
theorem cntGe_snoc (xs : List Int) (y t : Int) : cntGe (xs ++ [y]) t = cntGe xs t + (if t ≤ y then 1 else 0) := by
  induction xs with
  | nil => rw [List.nil_append, cntGe_cons]; show _ + 0 = 0 + _; omega
  | cons x r ih => rw [List.cons_append, cntGe_cons, cntGe_cons, ih]; omega
/-- parcels that came one after the other, each into the least box that holds it -/
structure Gr (sizes : List Int) (inside : List (Option Nat)) (ins : List Int) : Prop where
  ex : ∃ os : List (Option Int), inside.map Option.isSome = os.map Option.isSome ∧ os.length = sizes.length ∧ (∀ t, cntGe ins t = cntO os t) ∧ (∀ b x, os[b]? = some (some x) → x ≤ sizes.getD b 0) ∧
    (∀ b f x, os[b]? = some (some x) → os[f]? = some none → x ≤ sizes.getD f 0 → sizes.getD b 0 ≤ sizes.getD f 0)
theorem sameSome {inside : List (Option Nat)} {os : List (Option Int)} (h : inside.map Option.isSome = os.map Option.isSome) (b : Nat) : os[b]? = some none ↔ b ∈ freeL inside := by
  have e : (inside.map Option.isSome)[b]? = (os.map Option.isSome)[b]? := by rw [h]
  rw [List.getElem?_map, List.getElem?_map] at e
  rw [mem_free, List.getD_eq_getElem?_getD]
  by_cases hb : b < inside.length
  · rw [List.getElem?_eq_getElem hb] at e ⊢
    cases q : os[b]? with
    | none => rw [q] at e; cases e
    | some o =>
      rw [q] at e
      have e : inside[b].isSome = o.isSome := Option.some.inj e
      cases o with
      | none =>
        refine ⟨fun _ => ⟨hb, ?_⟩, fun _ => rfl⟩
        show inside[b] = none
        cases z : inside[b] with
        | none => rfl
        | some n => rw [z] at e; cases e
      | some x =>
        refine ⟨fun z => (by cases z), fun z => ?_⟩
        have z2 : inside[b] = none := z.2
        rw [z2] at e; cases e
  · refine ⟨fun z => ?_, fun z => absurd z.1 hb⟩
    rw [z] at e
    rw [List.getElem?_eq_none (by omega)] at e; cases e
theorem Gr.new {sizes : List Int} : Gr sizes (List.replicate sizes.length none) [] := by
  refine ⟨List.replicate sizes.length none, by simp, by simp, fun t => ?_, fun b x e => ?_, fun b f x e => ?_⟩
  · show 0 = _
    generalize sizes.length = n
    induction n with
    | zero => rfl
    | succ n ih => rw [List.replicate_succ, cntO_cons, ← ih]; rfl
  · rw [List.getElem?_replicate] at e; split at e <;> cases e
  · rw [List.getElem?_replicate] at e; split at e <;> cases e
theorem Gr.come {sizes : List Int} {inside : List (Option Nat)} {ins : List Int} (g : Gr sizes inside ins) {size : Int} {b n : Nat} (h : LB sizes (freeL inside) size b) : Gr sizes (inside.set b (some n)) (ins ++ [size]) := by
  obtain ⟨os, h1, h2, h3, h4, h5⟩ := g.ex
  have fb := (sameSome h1 b).mpr h.1
  have hb := getLt fb
  refine ⟨os.set b (some size), ?_, by rw [List.length_set]; exact h2, fun t => ?_, fun c x e => ?_, fun c f x e e2 hx => ?_⟩
  · rw [List.map_set, List.map_set, h1]; rfl
  · rw [cntGe_snoc, cntO_set fb, h3]
  · rw [List.getElem?_set] at e
    split at e
    · rename_i q
      subst q
      first | cases e | (rw [if_pos hb] at e; cases e)
      exact h.2.1
    · exact h4 c x e
  · have hf : os[f]? = some none := by
      rw [List.getElem?_set] at e2
      split at e2
      · first | cases e2 | (split at e2 <;> cases e2)
      · exact e2
    have ff := (sameSome h1 f).mp hf
    rw [List.getElem?_set] at e
    split at e
    · rename_i q
      subst q
      first | cases e | (rw [if_pos hb] at e; cases e)
      have := h.2.2 f ff hx
      omega
    · exact h5 c f x e hf hx
theorem Gr.fits {sizes : List Int} {inside : List (Option Nat)} {ins : List Int} (g : Gr sizes inside ins) (t : Int) : cntGe ins t ≤ cntGe sizes t := by
  obtain ⟨os, h1, h2, h3, h4, h5⟩ := g.ex
  rw [h3]
  exact cntO_le h2 h4
theorem least_thr {P : Int → Prop} : ∀ {n : Nat}, P ((n : Int) + 1) → ∃ t : Int, 1 ≤ t ∧ t ≤ (n : Int) + 1 ∧ P t ∧ (t = 1 ∨ ¬ P (t - 1))
  | 0, h => ⟨1, by omega, by omega, h, .inl rfl⟩
  | n + 1, h => by
    by_cases c : P ((n : Int) + 1)
    · obtain ⟨t, h1, h2, h3, h4⟩ := least_thr (n := n) c
      exact ⟨t, h1, by omega, h3, h4⟩
    · exact ⟨((n + 1 : Nat) : Int) + 1, by omega, by omega, h, .inr (by rw [show ((n + 1 : Nat) : Int) + 1 - 1 = (n : Int) + 1 by omega]; exact c)⟩
theorem Gr.full {sizes : List Int} {inside : List (Option Nat)} {ins : List Int} (g : Gr sizes inside ins) {size : Int} (h1 : 1 ≤ size) (h9 : size ≤ 9) (hi : ∀ x ∈ ins, 1 ≤ x)  (h : ∀ b ∈ freeL inside, sizes.getD b 0 < size) :
    ∃ t, 1 ≤ t ∧ t ≤ 9 ∧ cntGe sizes t < cntGe (ins ++ [size]) t := by
  obtain ⟨os, q1, q2, q3, q4, q5⟩ := g.ex
  obtain ⟨t, t1, t2, t3, t4⟩ := least_thr (P := fun t => ∀ b, os[b]? = some none → sizes.getD b 0 < t) (n := (size - 1).toNat) (fun b e => by have := h b ((sameSome q1 b).mp e); omega)
  refine ⟨t, t1, by omega, ?_⟩
  rw [cntGe_snoc, if_pos (by omega), q3]
  refine Nat.lt_succ_of_le (le_cntO q2 fun b hb ht => ?_)
  obtain ⟨o, ho⟩ := getOf (xs := os) (i := b) (by omega)
  cases o with
  | none => have := t3 b ho; omega
  | some x =>
    refine ⟨x, ho, ?_⟩
    rcases t4 with e | e
    · subst e
      have : 0 < cntO os x := by
        unfold cntO
        exact List.length_pos_of_mem (List.mem_filter.mpr ⟨List.mem_of_getElem? ho, by simp [geO]⟩)
      apply Classical.byContradiction
      intro c
      have a1 : cntGe ins 1 = ins.length := cntGe_all hi
      have a2 : cntGe ins x ≤ ins.length := cntGe_le _ _
      -- one that is less than 1 would be counted
      have a3 : cntO os 1 < cntO os x := by
        have key : ∀ (l : List (Option Int)), (some x ∈ l → cntO l 1 < cntO l x) ∧ cntO l 1 ≤ cntO l x := by
          intro l
          induction l with
          | nil => exact ⟨fun z => (by cases z), Nat.le_refl _⟩
          | cons o r ih =>
            rw [cntO_cons, cntO_cons]
            have m : (if geO 1 o = true then 1 else 0) ≤ (if geO x o = true then 1 else 0) := by
              cases o with
              | none => simp [geO]
              | some y =>
                by_cases c1 : (1 : Int) ≤ y
                · rw [if_pos (by simp [geO, c1]), if_pos (by simp [geO]; omega)]; exact Nat.le_refl _
                · rw [if_neg (by simp [geO, c1])]; exact Nat.zero_le _
            refine ⟨fun z => ?_, by have := ih.2; omega⟩
            rcases List.mem_cons.mp z with z | z
            · subst z
              rw [if_neg (by simp [geO]; omega), if_pos (by simp [geO])]
              have := ih.2; omega
            · have := ih.1 z; omega
        exact (key os).1 (List.mem_of_getElem? ho)
      rw [← q3, ← q3] at a3
      omega
    · apply Classical.byContradiction
      intro c
      apply e
      intro f hf
      have z1 := t3 f hf
      apply Classical.byContradiction
      intro c2
      have z := q5 b f x ho hf (by omega)
      omega
theorem Gr.count {sizes : List Int} {inside : List (Option Nat)} {ins : List Int} (g : Gr sizes inside ins) (hi : ∀ x ∈ ins, 1 ≤ x) : (inside.filter Option.isSome).length = ins.length := by
  obtain ⟨os, q1, q2, q3, q4, q5⟩ := g.ex
  have a : ∀ (l : List (Option Nat)) (m : List (Option Int)), l.map Option.isSome = m.map Option.isSome → (l.filter Option.isSome).length = (m.filter Option.isSome).length := by
    intro l
    induction l with
    | nil =>
      intro m e
      cases m with
      | nil => rfl
      | cons o m => cases e
    | cons x l ih =>
      intro m e
      cases m with
      | nil => cases e
      | cons o m =>
        rw [List.map_cons, List.map_cons] at e
        have e1 := (List.cons.inj e).1
        have e2 := ih m (List.cons.inj e).2
        cases x <;> cases o <;> simp_all
  rw [a _ _ q1]
  -- a number so small that all count
  have low : ∀ (m : List (Option Int)), ∃ z : Int, z ≤ 1 ∧ ∀ y, some y ∈ m → z ≤ y := by
    intro m
    induction m with
    | nil => exact ⟨1, by omega, fun y hy => by cases hy⟩
    | cons o m ih =>
      obtain ⟨z, h1, h2⟩ := ih
      cases o with
      | none => exact ⟨z, h1, fun y hy => h2 y (by simpa using hy)⟩
      | some w =>
        by_cases c : z ≤ w
        · refine ⟨z, h1, fun y hy => ?_⟩
          rcases List.mem_cons.mp hy with e | e
          · cases e; exact c
          · exact h2 y e
        · refine ⟨w, by omega, fun y hy => ?_⟩
          rcases List.mem_cons.mp hy with e | e
          · cases e; omega
          · have := h2 y e; omega
  obtain ⟨z, h1, h2⟩ := low os
  have b1 : cntO os z = (os.filter Option.isSome).length := by
    unfold cntO
    congr 1
    refine List.filter_congr fun o ho => ?_
    cases o with
    | none => rfl
    | some y => simp [geO, h2 y ho]
  rw [← b1, ← q3]
  exact cntGe_all fun y hy => by have := hi y hy; omega
end Pw
def Pw.mk15 (way : Int) (i : Nat) : Bool := decide ((i : Int) = way ∨ (i : Int) = 6)
theorem Pw.allFull {sizes ins : List Int} {is : List (Option Nat)} (g : Pw.Gr sizes is ins) (hi : ∀ x ∈ ins, 1 ≤ x) (e : ins.length = is.length) : ∀ b ∈ Pw.freeL is, False := by
  intro b hb
  obtain ⟨hl, hn⟩ := Pw.mem_free.mp hb
  have c := g.count hi
  rw [e] at c
  have q : is.filter Option.isSome = is := List.filter_eq_self.mpr ((List.length_filter_eq_length_iff).mp c)
  have m : is[b] ∈ is.filter Option.isSome := by rw [q]; exact List.getElem_mem hl
  have z := (List.mem_filter.mp m).2
  rw [List.getD_eq_getElem?_getD, List.getElem?_eq_getElem hl] at hn
  have hn : is[b] = none := hn
  rw [hn] at z
  cases z
namespace Pw
def sp_law_k15 (K : PySem.W.Frag) : Sp := fun vs H Q _ => ∃ (a : Addr) (ns : List Int), vs = [.ref a] ∧ SqL K H a (ns.map V.int) ∧ ns.length ≤ 63 ∧ ∀ H', Q (.bl true) H'
theorem len_law_k15 {K : PySem.W.Frag} : ∀ vs H Q E, sp_law_k15 K vs H Q E → vs.length = 1 := by
  rintro vs H Q E ⟨_, _, rfl, _⟩
  rfl
def t_law_k15 (K : PySem.W.Frag) (E : XK) : TS :=
  tSeq (tAsg (tCall (sp_law_sizes_by K) [] E0 (tCons (tVar 0) (tCons (tC (.int 0)) tNil))) (gName 1))
    (tSeq (tAsg (tMake (He.ga K "Wall") (sp_Wall_init K) [] E0 (tCons (tCB (rListOf K) (tCons (tVar 1) tNil)) tNil)) (gName 2))
    (tSeq (tForP (iList K (tCB (rSortedI K) (tCons (tVar 1) tNil))) (gName 3) (tDrop (tMeth (He.ga K "Wall") "come" (sp_Wall_come K) [] E0 (tVar 2) (tCons (tVar 3) (tCons (tC (.int 9)) tNil)))))
    (tSeq (tAsg (tCall (sp_law_drawn K) [] E0 (tCons (tVar 0) (tCons (tC (.int 20)) (tCons (tC (.int 6)) tNil)))) (gName 4))
    (tSeq (tAsg (tLst tNil) (gName 5))
    (tSeq (tTryAs K (.ref (He.ga K "WallError")) 6 (fun W => tDrop (tCallS (sp_law_call_k15 K) (WE W) (tCons (tVar 4) (tCons (tVar 2) (tCons (tCB (rLenSeq K) (tCons (tVar 1) tNil)) tNil))))) (fun a cls d => tAsg (tCall (sp_law_marks_k15 K a cls d) [] E0 (tCons (tVar 6) tNil)) (gName 5)) (wNone))
    (tRet (tOp (rEqDI K) (tVar 5) (tLc (iRng1 (tCons (tC (.int 7)) tNil)) (gName 7) tYes (tOrV (tOp rEq (tVar 7) (tVar 4)) (tOp rEq (tVar 7) (tC (.int 6)))) [7]))))))))
theorem pure_law_k15 {K : PySem.W.Frag} (T : TW K) {l : List Str} (X : XS K l) (hxl : (["NoWall","NoSize","NoNights","NoBox","NoParcel","NoNote","WallError"] : List Str).all (fun x => l.contains x) = true) (vs : List V) (H : Hp) (Q : VK) (E : XK) (h : sp_law_k15 K vs H Q E) : t_law_k15 K E { nx := fun _ H' => Q .non H', rt := Q } (start ["script", "sizes", "side", "size", "way", "found", "e", "k"] vs) H := by
  obtain ⟨a, ns, rfl, hS, hl, k⟩ := h
  unfold t_law_k15 tTryAs
  walk_at "go"
  intro zs ok H1 D s1 hD0 hD
  have lz := ok.2.1
  walk_at "go"
  intro d hd
  walk_at "go"
  intro x dx hx hdx hne
  have s2 : Same H1 (upd H1 d (.lst (zs.map V.int))) := sameNew (Same.refl _) hd
  have s3 : Same (upd H1 d (.lst (zs.map V.int))) (upd (upd (upd H1 d (.lst (zs.map V.int))) dx (.own x)) x (.ins (He.ga K "Wall") dx [])) := sameNew (sameNew (Same.refl _) hdx) (by rw [upd_ne (Ne.symm hne)]; exact hx)
  refine ⟨x, dx, d, zs, rfl, upd_same, SqL.of (s3 _ _ upd_same), by omega, fun _ H2 l1 l2 l3 A n1 n2 n3 fr => ?_, fun nok => absurd ok nok⟩
  have s4 : Same H1 H2 := fun c o e => fr c o ((s2.trans s3) c o e) (ne_of_none (s2 c o e) hx)
  have f0 : H1 x = none := s2.free hx
  have f2 : H1 l2 = none := (s2.trans s3).free n2
  have f3 : H1 l3 = none := (s2.trans s3).free n3
  have hS1 := s1.seq hS
  have hD2 := s4 _ _ hD
  clear s2 s3 fr n1 n2 n3 hx hdx hne hd
  refine ⟨rfl, ?_⟩
  walk_at "go"
  intro ss r pm srt hr
  have rx : r ≠ x := Ne.symm (ne_of_none A.ob hr)
  have r2 : r ≠ l2 := Ne.symm (ne_of_none A.is hr)
  have r3 : r ≠ l3 := let ⟨ts, q, _⟩ := A.ps; Ne.symm (ne_of_none q hr)
  have sr : Same H2 (upd H2 r (.lst (ss.map V.int))) := sameNew (Same.refl _) hr
  have hr3 : upd H2 r (.lst (ss.map V.int)) r = some (.lst (ss.map V.int)) := upd_same
  have A3 := A.mono sr
  have s5 := s4.trans sr
  have hDr := sr _ _ hD2
  have fr : H1 r = none := s4.free hr
  dsimp only
  generalize upd H2 r (.lst (ss.map V.int)) = H3 at hr3 A3 s5 hDr ⊢
  clear sr hr A hD2
  have lss : ss.length = zs.length := pm.length_eq
  have okss : ∀ y ∈ ss, 1 ≤ y ∧ y ≤ 9 := fun y hy => ok.2.2 y (pm.mem_iff.mp hy)
  walk_at "go"
  refine forList (K := K) (a := r) (xs := ss.map V.int) (fun i σ H' => Stop (∃ (v3 : Option V) (is : List (Option Nat)) (ps : List (Int × Int)), σ = [some (.ref a), some (.ref D), some (.ref x), v3, none, none, none, none] ∧ Same H1 H' ∧ H' r = some (.lst (ss.map V.int)) ∧
      WallAt K H' ⟨x, dx, l1, l2, l3, zs, is, ps, 0⟩ ∧ Gr zs is (ss.take i) ∧ ps.length = i)) ⟨none, _, [], rfl, s5, hr3, A3, Gr.new, rfl⟩ ?_ ?_ ?_
  · rintro i σ H' _ ⟨v3, is, ps, rfl, s, h, _⟩
    exact SqL.of h
  · rintro i v σ H4 hv ⟨v3, is, ps, rfl, s6, hr4, A4, g, lp⟩
    obtain ⟨z, hz, rfl⟩ := mapGet hv
    obtain ⟨z1, z9⟩ := okss z (List.mem_of_getElem? hz)
    have hob := A4.ob
    have li := getLt hz
    have lp1 : ps.length < 1000 := by omega
    walk_at "go"
    refine ⟨fun _ _ hn H5 s7 => ?_, fun _ _ b H5 hb F A5 => ?_⟩
    · exfalso
      obtain ⟨t, t1, t2, t3⟩ := g.full z1 z9 (fun y hy => (okss y (List.mem_of_mem_take hy)).1) hn
      rw [← takeMore hz] at t3
      have e1 : cntGe ss t = cntGe zs t := cntGe_perm pm t
      have e2 : cntGe ss t = cntGe (ss.take (i + 1)) t + cntGe (ss.drop (i + 1)) t := by
        unfold cntGe
        rw [← List.length_append, ← List.filter_append, List.take_append_drop]
      omega
    · have gc := g.come (n := ps.length) hb
      rw [← takeMore hz] at gc
      exact ⟨_, _, _, rfl, frmSame s6 F f0 f2 f3, F r _ hr4 rx r2 r3, A5, gc, by rw [List.length_append, lp]; rfl⟩
  rintro σ H4 ⟨v3, is, ps, rfl, s6, hr4, A4, g, lp⟩
  rw [List.length_map] at lp
  rw [List.length_map, List.take_length] at g
  have lis := A4.len
  dsimp only at lis
  have nb := A4.nb
  dsimp only at nb
  have full := allFull g (fun y hy => (okss y hy).1) (by omega)
  have gone : ¬ hasP is (((zs.map V.int).length : Nat) : Int) := by
    rintro ⟨m, e, hm⟩
    rw [List.length_map] at e
    obtain ⟨j, hj⟩ := List.getElem?_of_mem hm
    have := nb j m hj
    omega
  have hS4 := s6.seq hS1
  have hD4 := s6 _ _ hD
  walk_at "go"
  intro w0 w6
  walk_at "go"
  intro F hF
  have s7 : Same H4 (upd H4 F (.lst [])) := sameNew (Same.refl _) hF
  have hF7 : upd H4 F (.lst []) F = some (.lst []) := upd_same
  have A7 := A4.mono s7
  have hD7 := s7 _ _ hD4
  generalize upd H4 F (.lst []) = H7 at s7 hF7 A7 hD7
  generalize drawn ns 20 6 = way at w0 w6 ⊢
  have hob := A7.ob
  have lps : ps.length < 1000 := by omega
  walk_at "go"
  have one : 1 ≤ zs.length := ok.1
  refine ⟨by rw [List.length_map]; omega, by rw [List.length_map]; omega, lps, full, gone, fun e H8 he s8 => ?_⟩
  have him : e ∈ errs := List.mem_of_getElem? he
  have him7 : e ∈ (["NoWall","NoSize","NoNights","NoBox","NoParcel","NoNote","WallError"] : List Str) := by
    have q : way = 0 ∨ way = 1 ∨ way = 2 ∨ way = 3 ∨ way = 4 ∨ way = 5 := by omega
    rcases q with rfl | rfl | rfl | rfl | rfl | rfl <;> (cases he; decide +kernel)
  have x0 := X.exm (x := e) (y := "WallError") (b := true) (inAll hxl him7) (inAll hxl (by simp)) (by unfold isSub; simp)
  have eq : [isSub e "NoWall", isSub e "NoSize", isSub e "NoNights", isSub e "NoBox", isSub e "NoParcel", isSub e "NoNote", true] = (List.range 7).map (mk15 way) := by
    have q : way = 0 ∨ way = 1 ∨ way = 2 ∨ way = 3 ∨ way = 4 ∨ way = 5 := by omega
    rcases q with rfl | rfl | rfl | rfl | rfl | rfl <;> (cases he; decide +kernel)
  clear A4 A7 hob s6 hr4 hS4 hD4 g
  refine ⟨true, x0, fun _ q hq => ?_, fun z => (by cases z)⟩
  walk_at "go"
  intro p H9 s9 hp
  walk_at "go"
  intro D9 hD9
  refine lcRng (n := Int.toNat 7) (fun _ => true) (fun i : Nat => V.bl (mk15 way i)) hD9 (by decide) (fun _ => rfl) (fun i H' hi s' TT k' => ?_) (fun i H' hi _ s' Qv k' => ?_) (fun HA sA hDA => ?_)
  · exact k' _ (Same.refl _)
  · have fin := k' _ (Same.refl _)
    walk_at "go"
    refine ifD (fun c => ?_) (fun c => ?_)
    · have e : mk15 way i = true := decide_eq_true (Or.inl (by have := V.int.inj c; omega))
      rw [e] at fin
      exact fin
    · have e : mk15 way i = decide (V.int ((0 : Int) + (i : Int)) = V.int 6) := by
        have c : ¬ ((i : Int) = way) := fun q => c (congrArg V.int (by omega))
        by_cases d : (i : Int) = 6
        · rw [decide_eq_true (congrArg V.int (by omega : (0 : Int) + (i : Int) = 6))]
          exact decide_eq_true (Or.inr d)
        · rw [decide_eq_false (fun q => d (by have := V.int.inj q; omega))]
          exact decide_eq_false (fun q => q.elim c d)
      rw [e] at fin
      walk_at "go"
      exact fin
  rw [filterAll] at hDA
  have hpA := sA _ _ hp
  rw [eq] at hpA
  have hDA : HA D9 = some (.lst (((List.range 7).map (mk15 way)).map V.bl)) := by rw [hDA, List.map_map]; rfl
  exact eqSame (dpBools _ (SqL.of hpA)) (dpBools _ (SqL.of hDA)) (plBools _) (k _)
end Pw
namespace Pw
def top (i : Nat) : Stmt := PySem.Challenge.pw_parcelwall_k15_refusals_apart.main.body.getD i (.Pass ⟨0, 0, 0, 0⟩)
abbrev R : PySem.W.OpenRow := PySem.W.OpenLaw.row PySem.Challenge.rw_parcelwall_k15_refusals_apart
abbrev s_law_drawn : Stmt := (top 22)
def d_law_drawn : He.DefD := ⟨("_law_drawn", none), "_law_drawn", "_law_drawn", defArgs s_law_drawn, defBody s_law_drawn, defScope s_law_drawn, [], []⟩
abbrev s_law_sizes_by : Stmt := (top 23)
def d_law_sizes_by : He.DefD := ⟨("_law_sizes_by", none), "_law_sizes_by", "_law_sizes_by", defArgs s_law_sizes_by, defBody s_law_sizes_by, defScope s_law_sizes_by, [], []⟩
abbrev s_is_size : Stmt := (top 12)
def d_is_size : He.DefD := ⟨("is_size", none), "is_size", "is_size", defArgs s_is_size, defBody s_is_size, defScope s_is_size, [], []⟩
abbrev s_Wall_init : Stmt := (inClass (top 14) 0)
def d_Wall_init : He.DefD := ⟨("Wall", some "__init__"), "__init__", "Wall.__init__", defArgs s_Wall_init, defBody s_Wall_init, defScope s_Wall_init, [], []⟩
abbrev s_least_box : Stmt := (top 13)
def d_least_box : He.DefD := ⟨("least_box", none), "least_box", "least_box", defArgs s_least_box, defBody s_least_box, defScope s_least_box, [], []⟩
abbrev s_Wall_free : Stmt := (inClass (top 14) 4)
def d_Wall_free : He.DefD := ⟨("Wall", some "free"), "free", "Wall.free", defArgs s_Wall_free, defBody s_Wall_free, defScope s_Wall_free, [], []⟩
abbrev s_Wall_come : Stmt := (inClass (top 14) 8)
def d_Wall_come : He.DefD := ⟨("Wall", some "come"), "come", "Wall.come", defArgs s_Wall_come, defBody s_Wall_come, defScope s_Wall_come, [], []⟩
abbrev s_room_for_k15 : Stmt := (top 17)
def d_room_for_k15 : He.DefD := ⟨("room_for", none), "room_for", "room_for", defArgs s_room_for_k15, defBody s_room_for_k15, defScope s_room_for_k15, [], []⟩
abbrev s_Wall_see : Stmt := (inClass (top 14) 5)
def d_Wall_see : He.DefD := ⟨("Wall", some "see"), "see", "Wall.see", defArgs s_Wall_see, defBody s_Wall_see, defScope s_Wall_see, [], []⟩
abbrev s_Wall_fetch : Stmt := (inClass (top 14) 9)
def d_Wall_fetch : He.DefD := ⟨("Wall", some "fetch"), "fetch", "Wall.fetch", defArgs s_Wall_fetch, defBody s_Wall_fetch, defScope s_Wall_fetch, [], []⟩
abbrev s_read : Stmt := (top 20)
def d_read : He.DefD := ⟨("read", none), "read", "read", defArgs s_read, defBody s_read, defScope s_read, [], []⟩
abbrev s_law_call_k15 : Stmt := (top 25)
def d_law_call_k15 : He.DefD := ⟨("_law_call", none), "_law_call", "_law_call", defArgs s_law_call_k15, defBody s_law_call_k15, defScope s_law_call_k15, [], []⟩
abbrev s_law_marks_k15 : Stmt := (top 24)
def d_law_marks_k15 : He.DefD := ⟨("_law_marks", none), "_law_marks", "_law_marks", defArgs s_law_marks_k15, defBody s_law_marks_k15, defScope s_law_marks_k15, [], []⟩
abbrev s_law_k15 : Stmt := (top 26)
def d_law_k15 : He.DefD := ⟨("law", none), "law", "law", defArgs s_law_k15, defBody s_law_k15, defScope s_law_k15, [], []⟩
def fn : List He.DefD := [d_law_drawn, d_law_sizes_by, d_is_size, d_Wall_init, d_least_box, d_Wall_free, d_Wall_come, d_room_for_k15, d_Wall_see, d_Wall_fetch, d_read, d_law_call_k15, d_law_marks_k15, d_law_k15]
def xl : List Str := ["WallError", "NoWall", "NoSize", "NoNights", "NoBox", "NoParcel", "NoNote"]
def fa : List He.Fa := [.free "ValueError", .free "int", .free "isinstance", .free "len", .free "list", .free "range", .free "sorted", .free "str", .glo "NoBox", .glo "NoNights", .glo "NoNote", .glo "NoParcel", .glo "NoSize", .glo "NoWall", .glo "Wall", .glo "WallError", .glo "_law_call", .glo "_law_drawn", .glo "_law_marks", .glo "_law_sizes_by", .glo "is_size", .glo "law", .glo "least_box", .glo "read", .glo "room_for", .str "FIGURES" "123456789", .int "MOST_BOXES" 8, .int "MOST_SIZE" 9, .exc "NoBox", .exc "NoNights", .exc "NoNote", .exc "NoParcel", .exc "NoSize", .exc "NoWall", .cls "Wall", .noat "Wall" "boxes", .noat "Wall" "inside", .noat "Wall" "parcels", .noat "Wall" "today", .mkr "Wall", .meth "Wall" "come", .meth "Wall" "fetch", .meth "Wall" "free", .meth "Wall" "see"]
theorem f_ValueError {h : Heap} {mg : Str → Option Value} {K : PySem.W.Frag} (KX : K.In h) (G : h.Ns mainGlobals mg) (c : He.SaysD fa fn K) : mg "ValueError" = none := He.free_ok KX G (c.fact 0)
theorem f_int {h : Heap} {mg : Str → Option Value} {K : PySem.W.Frag} (KX : K.In h) (G : h.Ns mainGlobals mg) (c : He.SaysD fa fn K) : mg "int" = none := He.free_ok KX G (c.fact 1)
theorem f_isinstance {h : Heap} {mg : Str → Option Value} {K : PySem.W.Frag} (KX : K.In h) (G : h.Ns mainGlobals mg) (c : He.SaysD fa fn K) : mg "isinstance" = none := He.free_ok KX G (c.fact 2)
theorem f_len {h : Heap} {mg : Str → Option Value} {K : PySem.W.Frag} (KX : K.In h) (G : h.Ns mainGlobals mg) (c : He.SaysD fa fn K) : mg "len" = none := He.free_ok KX G (c.fact 3)
theorem f_list {h : Heap} {mg : Str → Option Value} {K : PySem.W.Frag} (KX : K.In h) (G : h.Ns mainGlobals mg) (c : He.SaysD fa fn K) : mg "list" = none := He.free_ok KX G (c.fact 4)
theorem f_range {h : Heap} {mg : Str → Option Value} {K : PySem.W.Frag} (KX : K.In h) (G : h.Ns mainGlobals mg) (c : He.SaysD fa fn K) : mg "range" = none := He.free_ok KX G (c.fact 5)
theorem f_sorted {h : Heap} {mg : Str → Option Value} {K : PySem.W.Frag} (KX : K.In h) (G : h.Ns mainGlobals mg) (c : He.SaysD fa fn K) : mg "sorted" = none := He.free_ok KX G (c.fact 6)
theorem f_str {h : Heap} {mg : Str → Option Value} {K : PySem.W.Frag} (KX : K.In h) (G : h.Ns mainGlobals mg) (c : He.SaysD fa fn K) : mg "str" = none := He.free_ok KX G (c.fact 7)
theorem g_NoBox {h : Heap} {mg : Str → Option Value} {K : PySem.W.Frag} (KX : K.In h) (G : h.Ns mainGlobals mg) (c : He.SaysD fa fn K) : mg "NoBox" = some (.ref (He.ga K "NoBox")) := He.glo_ok KX G (c.fact 8)
theorem g_NoNights {h : Heap} {mg : Str → Option Value} {K : PySem.W.Frag} (KX : K.In h) (G : h.Ns mainGlobals mg) (c : He.SaysD fa fn K) : mg "NoNights" = some (.ref (He.ga K "NoNights")) := He.glo_ok KX G (c.fact 9)
theorem g_NoNote {h : Heap} {mg : Str → Option Value} {K : PySem.W.Frag} (KX : K.In h) (G : h.Ns mainGlobals mg) (c : He.SaysD fa fn K) : mg "NoNote" = some (.ref (He.ga K "NoNote")) := He.glo_ok KX G (c.fact 10)
theorem g_NoParcel {h : Heap} {mg : Str → Option Value} {K : PySem.W.Frag} (KX : K.In h) (G : h.Ns mainGlobals mg) (c : He.SaysD fa fn K) : mg "NoParcel" = some (.ref (He.ga K "NoParcel")) := He.glo_ok KX G (c.fact 11)
theorem g_NoSize {h : Heap} {mg : Str → Option Value} {K : PySem.W.Frag} (KX : K.In h) (G : h.Ns mainGlobals mg) (c : He.SaysD fa fn K) : mg "NoSize" = some (.ref (He.ga K "NoSize")) := He.glo_ok KX G (c.fact 12)
theorem g_NoWall {h : Heap} {mg : Str → Option Value} {K : PySem.W.Frag} (KX : K.In h) (G : h.Ns mainGlobals mg) (c : He.SaysD fa fn K) : mg "NoWall" = some (.ref (He.ga K "NoWall")) := He.glo_ok KX G (c.fact 13)
theorem g_Wall {h : Heap} {mg : Str → Option Value} {K : PySem.W.Frag} (KX : K.In h) (G : h.Ns mainGlobals mg) (c : He.SaysD fa fn K) : mg "Wall" = some (.ref (He.ga K "Wall")) := He.glo_ok KX G (c.fact 14)
theorem g_WallError {h : Heap} {mg : Str → Option Value} {K : PySem.W.Frag} (KX : K.In h) (G : h.Ns mainGlobals mg) (c : He.SaysD fa fn K) : mg "WallError" = some (.ref (He.ga K "WallError")) := He.glo_ok KX G (c.fact 15)
theorem g_law_call {h : Heap} {mg : Str → Option Value} {K : PySem.W.Frag} (KX : K.In h) (G : h.Ns mainGlobals mg) (c : He.SaysD fa fn K) : mg "_law_call" = some (.ref (He.ga K "_law_call")) := He.glo_ok KX G (c.fact 16)
theorem g_law_drawn {h : Heap} {mg : Str → Option Value} {K : PySem.W.Frag} (KX : K.In h) (G : h.Ns mainGlobals mg) (c : He.SaysD fa fn K) : mg "_law_drawn" = some (.ref (He.ga K "_law_drawn")) := He.glo_ok KX G (c.fact 17)
theorem g_law_marks {h : Heap} {mg : Str → Option Value} {K : PySem.W.Frag} (KX : K.In h) (G : h.Ns mainGlobals mg) (c : He.SaysD fa fn K) : mg "_law_marks" = some (.ref (He.ga K "_law_marks")) := He.glo_ok KX G (c.fact 18)
theorem g_law_sizes_by {h : Heap} {mg : Str → Option Value} {K : PySem.W.Frag} (KX : K.In h) (G : h.Ns mainGlobals mg) (c : He.SaysD fa fn K) : mg "_law_sizes_by" = some (.ref (He.ga K "_law_sizes_by")) := He.glo_ok KX G (c.fact 19)
theorem g_is_size {h : Heap} {mg : Str → Option Value} {K : PySem.W.Frag} (KX : K.In h) (G : h.Ns mainGlobals mg) (c : He.SaysD fa fn K) : mg "is_size" = some (.ref (He.ga K "is_size")) := He.glo_ok KX G (c.fact 20)
theorem g_law {h : Heap} {mg : Str → Option Value} {K : PySem.W.Frag} (KX : K.In h) (G : h.Ns mainGlobals mg) (c : He.SaysD fa fn K) : mg "law" = some (.ref (He.ga K "law")) := He.glo_ok KX G (c.fact 21)
theorem g_least_box {h : Heap} {mg : Str → Option Value} {K : PySem.W.Frag} (KX : K.In h) (G : h.Ns mainGlobals mg) (c : He.SaysD fa fn K) : mg "least_box" = some (.ref (He.ga K "least_box")) := He.glo_ok KX G (c.fact 22)
theorem g_read {h : Heap} {mg : Str → Option Value} {K : PySem.W.Frag} (KX : K.In h) (G : h.Ns mainGlobals mg) (c : He.SaysD fa fn K) : mg "read" = some (.ref (He.ga K "read")) := He.glo_ok KX G (c.fact 23)
theorem g_room_for {h : Heap} {mg : Str → Option Value} {K : PySem.W.Frag} (KX : K.In h) (G : h.Ns mainGlobals mg) (c : He.SaysD fa fn K) : mg "room_for" = some (.ref (He.ga K "room_for")) := He.glo_ok KX G (c.fact 24)
theorem c_FIGURES {h : Heap} {mg : Str → Option Value} {K : PySem.W.Frag} (KX : K.In h) (G : h.Ns mainGlobals mg) (c : He.SaysD fa fn K) : ∃ t, mg "FIGURES" = some (.str "123456789" t) := He.str_ok KX G (c.fact 25)
theorem c_MOST_BOXES {h : Heap} {mg : Str → Option Value} {K : PySem.W.Frag} (KX : K.In h) (G : h.Ns mainGlobals mg) (c : He.SaysD fa fn K) : ∃ t, mg "MOST_BOXES" = some (.int 8 t) := He.int_ok KX G (c.fact 26)
theorem c_MOST_SIZE {h : Heap} {mg : Str → Option Value} {K : PySem.W.Frag} (KX : K.In h) (G : h.Ns mainGlobals mg) (c : He.SaysD fa fn K) : ∃ t, mg "MOST_SIZE" = some (.int 9 t) := He.int_ok KX G (c.fact 27)
theorem x_NoBox {K : PySem.W.Frag} (c : He.SaysD fa fn K) : PySem.W.excIn K (He.ga K "NoBox") He.veBase "ValueError.__new__" = true ∧ PySem.W.keepIn K (.ref (He.ga K "NoBox")) = true ∧ PySem.W.subIn K (.ref (He.ga K "NoBox")) (.type "BaseException") = some true ∧ PySem.W.typeIn K (.ref (He.ga K "NoBox")) = some (.type "type") := He.exc_ok (c.fact 28)
theorem x_NoNights {K : PySem.W.Frag} (c : He.SaysD fa fn K) : PySem.W.excIn K (He.ga K "NoNights") He.veBase "ValueError.__new__" = true ∧ PySem.W.keepIn K (.ref (He.ga K "NoNights")) = true ∧ PySem.W.subIn K (.ref (He.ga K "NoNights")) (.type "BaseException") = some true ∧ PySem.W.typeIn K (.ref (He.ga K "NoNights")) = some (.type "type") := He.exc_ok (c.fact 29)
theorem x_NoNote {K : PySem.W.Frag} (c : He.SaysD fa fn K) : PySem.W.excIn K (He.ga K "NoNote") He.veBase "ValueError.__new__" = true ∧ PySem.W.keepIn K (.ref (He.ga K "NoNote")) = true ∧ PySem.W.subIn K (.ref (He.ga K "NoNote")) (.type "BaseException") = some true ∧ PySem.W.typeIn K (.ref (He.ga K "NoNote")) = some (.type "type") := He.exc_ok (c.fact 30)
theorem x_NoParcel {K : PySem.W.Frag} (c : He.SaysD fa fn K) : PySem.W.excIn K (He.ga K "NoParcel") He.veBase "ValueError.__new__" = true ∧ PySem.W.keepIn K (.ref (He.ga K "NoParcel")) = true ∧ PySem.W.subIn K (.ref (He.ga K "NoParcel")) (.type "BaseException") = some true ∧ PySem.W.typeIn K (.ref (He.ga K "NoParcel")) = some (.type "type") := He.exc_ok (c.fact 31)
theorem x_NoSize {K : PySem.W.Frag} (c : He.SaysD fa fn K) : PySem.W.excIn K (He.ga K "NoSize") He.veBase "ValueError.__new__" = true ∧ PySem.W.keepIn K (.ref (He.ga K "NoSize")) = true ∧ PySem.W.subIn K (.ref (He.ga K "NoSize")) (.type "BaseException") = some true ∧ PySem.W.typeIn K (.ref (He.ga K "NoSize")) = some (.type "type") := He.exc_ok (c.fact 32)
theorem x_NoWall {K : PySem.W.Frag} (c : He.SaysD fa fn K) : PySem.W.excIn K (He.ga K "NoWall") He.veBase "ValueError.__new__" = true ∧ PySem.W.keepIn K (.ref (He.ga K "NoWall")) = true ∧ PySem.W.subIn K (.ref (He.ga K "NoWall")) (.type "BaseException") = some true ∧ PySem.W.typeIn K (.ref (He.ga K "NoWall")) = some (.type "type") := He.exc_ok (c.fact 33)
theorem clW {K : PySem.W.Frag} (c : He.SaysD fa fn K) : Cls K (He.ga K "Wall") := He.cls_ok (c.fact 34)
theorem tW {K : PySem.W.Frag} (c : He.SaysD fa fn K) : TW K := ⟨clW c, He.noat_ok (c.fact 35), He.noat_ok (c.fact 36), He.noat_ok (c.fact 37), He.noat_ok (c.fact 38)⟩
theorem mkW {K : PySem.W.Frag} (c : He.SaysD fa fn K) : Mk K (He.ga K "Wall") (He.ma K (He.ga K "Wall") "__init__") := He.mkr_ok (c.fact 39)
theorem m_Wall_come {K : PySem.W.Frag} (c : He.SaysD fa fn K) : Meth K (He.ga K "Wall") "come" (He.ma K (He.ga K "Wall") "come") := He.meth_ok (c.fact 40)
theorem m_Wall_fetch {K : PySem.W.Frag} (c : He.SaysD fa fn K) : Meth K (He.ga K "Wall") "fetch" (He.ma K (He.ga K "Wall") "fetch") := He.meth_ok (c.fact 41)
theorem m_Wall_free {K : PySem.W.Frag} (c : He.SaysD fa fn K) : Meth K (He.ga K "Wall") "free" (He.ma K (He.ga K "Wall") "free") := He.meth_ok (c.fact 42)
theorem m_Wall_see {K : PySem.W.Frag} (c : He.SaysD fa fn K) : Meth K (He.ga K "Wall") "see" (He.ma K (He.ga K "Wall") "see") := He.meth_ok (c.fact 43)
theorem sc_law_drawn : FnScope ["script", "k", "many", "cell", "stir"] ["script", "k", "many"] (defScope s_law_drawn) := ⟨rfl, rfl, rfl, by decide +kernel, rfl, by decide +kernel, by decide +kernel⟩
theorem ok_law_drawn {P : Program} {w : World} {base : Heap} {h : Heap} {mg : Str → Option Value} {K : PySem.W.Frag} (KX : K.In h) (G : h.Ns mainGlobals mg) (c : He.SaysD fa fn K) (xs : XS K xl) : OkF P w K mg base CX0 1 (He.fAd K d_law_drawn.at_) ["script", "k", "many"] (sp_law_drawn K) := by
  obtain ⟨fd, F⟩ := c.def_ 0 (d := d_law_drawn) rfl
  have nd := sc_law_drawn.nd
  refine ⟨fd, F.ok sc_law_drawn (len_law_drawn (K := K)) (fun cdv A outer s H vs Q E hr hsp => ⟨t_law_drawn K E, PSs.nox ?_, pure_law_drawn vs H Q E hsp⟩), F.bindsN (fun _ _ _ _ _ _ us hl => match us, hl with | [_, _, _], _ => rfl), F.kp⟩
  exact pss_cons (ps_set (i := 3) nd rfl (Or.inl rfl) (pe_int))
      (pss_cons (ps_if (pt_cmpR op_gt (pe_callB call_len_seq (by rfl) (f_len KX G c) (by decide +kernel) (pa_cons (pv 0) pa_nil)) (pe_int) (nomark _))
        (pss_one (ps_set (i := 3) nd rfl (Or.inl rfl) (pe_ix ix_list (pv 0) (pe_op op_modN (pv 1) (pe_callB call_len_seq (by rfl) (f_len KX G c) (by decide +kernel) (pa_cons (pv 0) pa_nil))) (fun _ _ => rfl))))
        (pss_nil))
      (pss_cons (ps_set (i := 4) nd rfl (Or.inl rfl) (pe_op op_mod (pe_op op_add (pe_op op_add (pe_op op_mul (pv 3) (pe_int)) (pe_op op_mul (pe_op op_add (pv 1) (pe_int)) (pe_int))) (pe_callB call_len_seq (by rfl) (f_len KX G c) (by decide +kernel) (pa_cons (pv 0) pa_nil))) (pe_int)))
      (pss_cons (ps_set (i := 4) nd rfl (Or.inl rfl) (pe_op op_mod (pe_op op_add (pe_op op_add (pe_op op_mul (pv 4) (pv 4)) (pe_op op_mul (pv 1) (pe_int))) (pe_int)) (pe_int)))
      (pss_one (ps_ret (pe_op op_modN (pe_op op_fdiv (pe_op op_mod (pe_op op_mul (pv 4) (pe_int)) (pe_int)) (pe_int)) (pv 2)))))))
theorem sc_law_sizes_by : FnScope ["script", "base", "many", "top", "k"] ["script", "base"] (defScope s_law_sizes_by) := ⟨rfl, rfl, rfl, by decide +kernel, rfl, by decide +kernel, by decide +kernel⟩
theorem ok_law_sizes_by {P : Program} {w : World} {base : Heap} {h : Heap} {mg : Str → Option Value} {K : PySem.W.Frag} (KX : K.In h) (G : h.Ns mainGlobals mg) (c : He.SaysD fa fn K) (xs : XS K xl) : OkF P w K mg base CX0 2 (He.fAd K d_law_sizes_by.at_) ["script", "base"] (sp_law_sizes_by K) := by
  obtain ⟨fd, F⟩ := c.def_ 1 (d := d_law_sizes_by) rfl
  obtain ⟨fd_law_drawn, G_law_drawn, b_law_drawn, k_law_drawn⟩ := ok_law_drawn (P := P) (w := w) (base := base) KX G c xs
  have nd := sc_law_sizes_by.nd
  refine ⟨fd, F.ok sc_law_sizes_by (len_law_sizes_by (K := K)) (fun cdv A outer s H vs Q E hr hsp => ⟨t_law_sizes_by K E, PSs.nox ?_, pure_law_sizes_by vs H Q E hsp⟩), F.bindsN (fun _ _ _ _ _ _ us hl => match us, hl with | [_, _], _ => rfl), F.kp⟩
  exact pss_cons (ps_set (i := 2) nd rfl (Or.inl rfl) (pe_op op_add (pe_int) (pe_call G_law_drawn (hr.mono (by decide : 1 ≤ 1)) rfl (g_law_drawn KX G c) k_law_drawn b_law_drawn .nil pass0 (pa_cons (pv 0) (pa_cons (pv 1) (pa_cons (pe_int) pa_nil))))))
      (pss_cons (ps_set (i := 3) nd rfl (Or.inr rfl) (pe_ix ix_list (pe_lst (pa_cons (pe_int) (pa_cons (pe_int) (pa_cons (pe_int) pa_nil)))) (pe_call G_law_drawn (hr.mono (by decide : 1 ≤ 1)) rfl (g_law_drawn KX G c) k_law_drawn b_law_drawn .nil pass0 (pa_cons (pv 0) (pa_cons (pe_op op_add (pv 1) (pe_int)) (pa_cons (pe_int) pa_nil)))) (fun _ _ => rfl)))
      (pss_one (ps_ret (pe_lc (own := [("k", 4)]) (g := gName 4) rfl nd (pi_range1 rfl (f_range KX G c) (pa_cons (pv 2) pa_nil)) (blkOk_by (N := ["script", "base", "many", "top", "k"]) (sc := defScope s_law_sizes_by) (by decide +kernel)) (fun _ _ _ _ _ => pg_name (i := 4) nd rfl (Or.inl rfl)) (fun _ _ _ _ _ => pts_nil) (fun _ _ _ _ _ => pe_op op_add (pe_int) (pe_call G_law_drawn (hr.mono (by decide : 1 ≤ 1)) rfl (g_law_drawn KX G c) k_law_drawn b_law_drawn .nil pass0 (pa_cons (pv 0) (pa_cons (pe_op op_add (pe_op op_add (pv 1) (pe_int)) (pv 4)) (pa_cons (pv 3) pa_nil)))))))))
theorem sc_is_size : FnScope ["number"] ["number"] (defScope s_is_size) := ⟨rfl, rfl, rfl, by decide +kernel, rfl, by decide +kernel, by decide +kernel⟩
theorem ok_is_size {P : Program} {w : World} {base : Heap} {h : Heap} {mg : Str → Option Value} {K : PySem.W.Frag} (KX : K.In h) (G : h.Ns mainGlobals mg) (c : He.SaysD fa fn K) (xs : XS K xl) : OkF P w K mg base CX0 1 (He.fAd K d_is_size.at_) ["number"] (sp_is_size K) := by
  obtain ⟨fd, F⟩ := c.def_ 2 (d := d_is_size) rfl
  have nd := sc_is_size.nd
  refine ⟨fd, F.ok sc_is_size (len_is_size (K := K)) (fun cdv A outer s H vs Q E hr hsp => ⟨t_is_size K E, PSs.nox ?_, pure_is_size vs H Q E hsp⟩), F.bindsN (fun _ _ _ _ _ _ us hl => match us, hl with | [_], _ => rfl), F.kp⟩
  exact pss_one (ps_ret (pe_and (pe_cmpR op_le (pe_int) (pv 0) (nomark _)) (pe_one (pe_cmpR op_le (pv 0) (pe_glob rfl (c_MOST_SIZE KX G c).choose_spec ⟨_, rfl⟩) (nomark _)))))
theorem sc_Wall_init : FnScope ["self", "sizes", "size"] ["self", "sizes"] (defScope s_Wall_init) := ⟨rfl, rfl, rfl, by decide +kernel, rfl, by decide +kernel, by decide +kernel⟩
theorem ok_Wall_init {P : Program} {w : World} {base : Heap} {h : Heap} {mg : Str → Option Value} {K : PySem.W.Frag} (KX : K.In h) (G : h.Ns mainGlobals mg) (c : He.SaysD fa fn K) (xs : XS K xl) : OkF P w K mg base (L2N.CX P w) 2 (He.fAd K d_Wall_init.at_) ["self", "sizes"] (sp_Wall_init K) := by
  obtain ⟨fd, F⟩ := c.def_ 3 (d := d_Wall_init) rfl
  obtain ⟨fd_is_size, G_is_size, b_is_size, k_is_size⟩ := ok_is_size (P := P) (w := w) (base := base) KX G c xs
  have nd := sc_Wall_init.nd
  refine ⟨fd, F.ok sc_Wall_init (len_Wall_init (K := K)) (fun cdv A outer s H vs Q E hr hsp => ⟨t_Wall_init K E, id ?_, pure_Wall_init (tW c) vs H Q E hsp⟩), F.bindsN (fun _ _ _ _ _ _ us hl => match us, hl with | [_, _], _ => rfl), F.kp⟩
  exact pss_cons (ps_if (PW.pt (pw_or (pt_cmpR op_lt (pe_callB call_len_seq (by rfl) (f_len KX G c) (by decide +kernel) (pa_cons (pv 1) pa_nil)) (pe_int) (nomark _)) (pw_or1 (pt_cmpR op_gt (pe_callB call_len_seq (by rfl) (f_len KX G c) (by decide +kernel) (pa_cons (pv 1) pa_nil)) (pe_glob rfl (c_MOST_BOXES KX G c).choose_spec ⟨_, rfl⟩) (nomark _)))))
        (pss_one (L2N.ps_raise rfl (L2N.takes_of rfl rfl rfl rfl) (L2N.pmk_own PySem.F.excBase_ValueError (x_NoWall c).1 (g_NoWall KX G c) (x_NoWall c).2.1 (raises_own (x_NoWall c).2.2.1 (x_NoWall c).2.2.2) (by exact rfl))))
        (pss_nil))
      (pss_cons (ps_forP (passes_of rfl) rfl (pi_list (pv 1)) (pg_name (i := 2) nd rfl (Or.inl rfl))
        (pss_one (ps_if (pt_not (pt_val (pe_call G_is_size (hr.mono (by decide : 1 ≤ 1)) rfl (g_is_size KX G c) k_is_size b_is_size .nil pass0 (pa_cons (pv 2) pa_nil))))
        (pss_one (L2N.ps_raise rfl (L2N.takes_of rfl rfl rfl rfl) (L2N.pmk_own PySem.F.excBase_ValueError (x_NoWall c).1 (g_NoWall KX G c) (x_NoWall c).2.1 (raises_own (x_NoWall c).2.2.1 (x_NoWall c).2.2.2) (by exact rfl))))
        (pss_nil))))
      (pss_cons (ps_fld (pv 0) (pe_callTy call_list_of (by rfl) (f_list KX G c) (by decide +kernel) (pa_cons (pv 1) pa_nil)) rfl)
      (pss_cons (ps_fld (pv 0) (pe_lc (own := [("size", 2)]) (g := gName 2) rfl nd (pi_list (pv 1)) (blkOk_by (N := ["self", "sizes", "size"]) (sc := defScope s_Wall_init) (by decide +kernel)) (fun _ _ _ _ _ => pg_name (i := 2) nd rfl (Or.inl rfl)) (fun _ _ _ _ _ => pts_nil) (fun _ _ _ _ _ => pe_non)) rfl)
      (pss_cons (ps_fld (pv 0) (pe_lst pa_nil) rfl)
      (pss_one (ps_fld (pv 0) (pe_int) rfl))))))
theorem sc_least_box : FnScope ["sizes", "free", "size", "found", "box"] ["sizes", "free", "size"] (defScope s_least_box) := ⟨rfl, rfl, rfl, by decide +kernel, rfl, by decide +kernel, by decide +kernel⟩
theorem ok_least_box {P : Program} {w : World} {base : Heap} {h : Heap} {mg : Str → Option Value} {K : PySem.W.Frag} (KX : K.In h) (G : h.Ns mainGlobals mg) (c : He.SaysD fa fn K) (xs : XS K xl) : OkF P w K mg base CX0 1 (He.fAd K d_least_box.at_) ["sizes", "free", "size"] (sp_least_box K) := by
  obtain ⟨fd, F⟩ := c.def_ 4 (d := d_least_box) rfl
  have nd := sc_least_box.nd
  refine ⟨fd, F.ok sc_least_box (len_least_box (K := K)) (fun cdv A outer s H vs Q E hr hsp => ⟨t_least_box K E, PSs.nox ?_, pure_least_box vs H Q E hsp⟩), F.bindsN (fun _ _ _ _ _ _ us hl => match us, hl with | [_, _, _], _ => rfl), F.kp⟩
  exact pss_cons (ps_set (i := 3) nd rfl (Or.inl rfl) (pe_non))
      (pss_cons (ps_forP (PassesOwn.never) rfl (pi_list (pv 1)) (pg_name (i := 4) nd rfl (Or.inl rfl))
        (pss_one (ps_if (PW.pt (pw_and (pt_cmpR op_ge (pe_ix ix_list (pv 0) (pv 4) (fun _ _ => rfl)) (pv 2) (nomark _)) (pw_and1 (PW.pt (pw_or (pt_cmpR op_isN (pv 3) (pe_non) (nomark _)) (pw_or1 (pt_cmpR op_lt (pe_ix ix_list (pv 0) (pv 4) (fun _ _ => rfl)) (pe_ix ix_list (pv 0) (pv 3) (fun _ _ => rfl)) (nomark _))))))))
        (pss_one (ps_set (i := 3) nd rfl (Or.inl rfl) (pv 4)))
        (pss_nil))))
      (pss_one (ps_ret (pv 3))))
theorem sc_Wall_free : FnScope ["self", "box"] ["self"] (defScope s_Wall_free) := ⟨rfl, rfl, rfl, by decide +kernel, rfl, by decide +kernel, by decide +kernel⟩
theorem ok_Wall_free {P : Program} {w : World} {base : Heap} {h : Heap} {mg : Str → Option Value} {K : PySem.W.Frag} (KX : K.In h) (G : h.Ns mainGlobals mg) (c : He.SaysD fa fn K) (xs : XS K xl) : OkF P w K mg base CX0 1 (He.fAd K d_Wall_free.at_) ["self"] (sp_Wall_free K) := by
  obtain ⟨fd, F⟩ := c.def_ 5 (d := d_Wall_free) rfl
  have nd := sc_Wall_free.nd
  refine ⟨fd, F.ok sc_Wall_free (len_Wall_free (K := K)) (fun cdv A outer s H vs Q E hr hsp => ⟨t_Wall_free K E, PSs.nox ?_, pure_Wall_free (tW c) vs H Q E hsp⟩), F.bindsN (fun _ _ _ _ _ _ us hl => match us, hl with | [_], _ => rfl), F.kp⟩
  exact pss_one (ps_ret (pe_lc (own := [("box", 1)]) (g := gName 1) rfl nd (pi_range1 rfl (f_range KX G c) (pa_cons (pe_callB call_len_seq (by rfl) (f_len KX G c) (by decide +kernel) (pa_cons (pe_fld (pv 0) rfl) pa_nil)) pa_nil)) (blkOk_by (N := ["self", "box"]) (sc := defScope s_Wall_free) (by decide +kernel)) (fun _ _ _ _ _ => pg_name (i := 1) nd rfl (Or.inl rfl)) (fun _ _ _ _ _ => pts_one (pt_cmpR op_isN (pe_ix ix_list (pe_fld (pv 0) rfl) (pv 1) (fun _ _ => rfl)) (pe_non) (nomark _))) (fun _ _ _ _ _ => pv 1)))
theorem sc_Wall_come : FnScope ["self", "size", "nights", "box"] ["self", "size", "nights"] (defScope s_Wall_come) := ⟨rfl, rfl, rfl, by decide +kernel, rfl, by decide +kernel, by decide +kernel⟩
theorem ok_Wall_come {P : Program} {w : World} {base : Heap} {h : Heap} {mg : Str → Option Value} {K : PySem.W.Frag} (KX : K.In h) (G : h.Ns mainGlobals mg) (c : He.SaysD fa fn K) (xs : XS K xl) : OkF P w K mg base (L2.CX P w) 2 (He.fAd K d_Wall_come.at_) ["self", "size", "nights"] (sp_Wall_come K) := by
  obtain ⟨fd, F⟩ := c.def_ 6 (d := d_Wall_come) rfl
  obtain ⟨fd_least_box, G_least_box, b_least_box, k_least_box⟩ := ok_least_box (P := P) (w := w) (base := base) KX G c xs
  obtain ⟨fd_Wall_free, G_Wall_free, b_Wall_free, k_Wall_free⟩ := ok_Wall_free (P := P) (w := w) (base := base) KX G c xs
  obtain ⟨fd_is_size, G_is_size, b_is_size, k_is_size⟩ := ok_is_size (P := P) (w := w) (base := base) KX G c xs
  have nd := sc_Wall_come.nd
  refine ⟨fd, F.ok sc_Wall_come (len_Wall_come (K := K)) (fun cdv A outer s H vs Q E hr hsp => ⟨t_Wall_come K E, id ?_, pure_Wall_come (tW c) vs H Q E hsp⟩), F.bindsN (fun _ _ _ _ _ _ us hl => match us, hl with | [_, _, _], _ => rfl), F.kp⟩
  exact pss_cons (ps_if (pt_not (pt_val (pe_call G_is_size (hr.mono (by decide : 1 ≤ 1)) rfl (g_is_size KX G c) k_is_size b_is_size .nil pass0 (pa_cons (pv 1) pa_nil))))
        (pss_one (ps_raise rfl (takes_of rfl rfl rfl rfl) (pmk_own PySem.F.excBase_ValueError (x_NoSize c).1 (g_NoSize KX G c) (x_NoSize c).2.1 (raises_own (x_NoSize c).2.2.1 (x_NoSize c).2.2.2) (by exact rfl))))
        (pss_nil))
      (pss_cons (ps_if (PW.pt (pw_or (pt_cmpR op_lt (pv 2) (pe_int) (nomark _)) (pw_or1 (pt_cmpR op_gt (pv 2) (pe_glob rfl (c_MOST_SIZE KX G c).choose_spec ⟨_, rfl⟩) (nomark _)))))
        (pss_one (ps_raise rfl (takes_of rfl rfl rfl rfl) (pmk_own PySem.F.excBase_ValueError (x_NoNights c).1 (g_NoNights KX G c) (x_NoNights c).2.1 (raises_own (x_NoNights c).2.2.1 (x_NoNights c).2.2.2) (by exact rfl))))
        (pss_nil))
      (pss_cons (ps_set (i := 3) nd rfl (Or.inl rfl) (pe_call G_least_box (hr.mono (by decide : 1 ≤ 1)) rfl (g_least_box KX G c) k_least_box b_least_box .nil pass0 (pa_cons (pe_fld (pv 0) rfl) (pa_cons (pe_meth0 (pv 0) (clW c) (m_Wall_free c) G_Wall_free (hr.mono (by decide : 1 ≤ 1)) b_Wall_free .nil pass0 ) (pa_cons (pv 1) pa_nil)))))
      (pss_cons (ps_if (pt_cmpR op_isN (pv 3) (pe_non) (nomark _))
        (pss_one (ps_raise rfl (takes_of rfl rfl rfl rfl) (pmk_own PySem.F.excBase_ValueError (x_NoBox c).1 (g_NoBox KX G c) (x_NoBox c).2.1 (raises_own (x_NoBox c).2.2.1 (x_NoBox c).2.2.2) (by exact rfl))))
        (pss_nil))
      (pss_cons (ps_expr (pe_bm PySem.F.plainAttrs_list PySem.F.slot_list_append PySem.F.type_list_append mt_append (pe_fld (pv 0) rfl) (pa_cons (pe_tup (pa_cons (pv 1) (pa_cons (pe_op op_add (pe_fld (pv 0) rfl) (pv 2)) pa_nil))) pa_nil)))
      (pss_cons (ps_asg (pe_op op_sub (pe_callB call_len_seq (by rfl) (f_len KX G c) (by decide +kernel) (pa_cons (pe_fld (pv 0) rfl) pa_nil)) (pe_int)) (pg_sub (pe_fld (pv 0) rfl) (pv 3) set_list))
      (pss_one (ps_ret (pe_op op_sub (pe_callB call_len_seq (by rfl) (f_len KX G c) (by decide +kernel) (pa_cons (pe_fld (pv 0) rfl) pa_nil)) (pe_int)))))))))
theorem sc_room_for_k15 : FnScope ["wall", "size", "held", "found", "queue", "back", "ends", "least", "moves", "box"] ["wall", "size"] (defScope s_room_for_k15) := ⟨rfl, rfl, rfl, by decide +kernel, rfl, by decide +kernel, by decide +kernel⟩
theorem ok_room_for_k15 {P : Program} {w : World} {base : Heap} {h : Heap} {mg : Str → Option Value} {K : PySem.W.Frag} (KX : K.In h) (G : h.Ns mainGlobals mg) (c : He.SaysD fa fn K) (xs : XS K xl) : OkF P w K mg base (L2.CX P w) 2 (He.fAd K d_room_for_k15.at_) ["wall", "size"] (sp_room_for_k15 K) := by
  obtain ⟨fd, F⟩ := c.def_ 7 (d := d_room_for_k15) rfl
  obtain ⟨fd_is_size, G_is_size, b_is_size, k_is_size⟩ := ok_is_size (P := P) (w := w) (base := base) KX G c xs
  have nd := sc_room_for_k15.nd
  refine ⟨fd, F.ok sc_room_for_k15 (len_room_for_k15 (K := K)) (fun cdv A outer s H vs Q E hr hsp => ⟨t_room_for_k15 K E, id ?_, pure_room_for_k15 vs H Q E hsp⟩), F.bindsN (fun _ _ _ _ _ _ us hl => match us, hl with | [_, _], _ => rfl), F.kp⟩
  exact pss_cons (ps_if (pt_not (pt_val (pe_call G_is_size (hr.mono (by decide : 1 ≤ 1)) rfl (g_is_size KX G c) k_is_size b_is_size .nil pass0 (pa_cons (pv 1) pa_nil))))
        (pss_one (ps_raise rfl (takes_of rfl rfl rfl rfl) (pmk_own PySem.F.excBase_ValueError (x_NoSize c).1 (g_NoSize KX G c) (x_NoSize c).2.1 (raises_own (x_NoSize c).2.2.1 (x_NoSize c).2.2.2) (by exact rfl))))
        (pss_nil))
      (pss_never)
theorem sc_Wall_see : FnScope ["self", "parcel"] ["self", "parcel"] (defScope s_Wall_see) := ⟨rfl, rfl, rfl, by decide +kernel, rfl, by decide +kernel, by decide +kernel⟩
theorem ok_Wall_see {P : Program} {w : World} {base : Heap} {h : Heap} {mg : Str → Option Value} {K : PySem.W.Frag} (KX : K.In h) (G : h.Ns mainGlobals mg) (c : He.SaysD fa fn K) (xs : XS K xl) : OkF P w K mg base (L2.CX P w) 1 (He.fAd K d_Wall_see.at_) ["self", "parcel"] (sp_Wall_see K) := by
  obtain ⟨fd, F⟩ := c.def_ 8 (d := d_Wall_see) rfl
  have nd := sc_Wall_see.nd
  refine ⟨fd, F.ok sc_Wall_see (len_Wall_see (K := K)) (fun cdv A outer s H vs Q E hr hsp => ⟨t_Wall_see K E, id ?_, pure_Wall_see (tW c) vs H Q E hsp⟩), F.bindsN (fun _ _ _ _ _ _ us hl => match us, hl with | [_, _], _ => rfl), F.kp⟩
  exact pss_one (ps_if (PW.pt (pw_or (pt_cmpR op_isN (pv 1) (pe_non) (nomark _)) (pw_or1 (pt_cmpR op_notInN (pv 1) (pe_fld (pv 0) rfl) (by rfl)))))
        (pss_one (ps_raise rfl (takes_of rfl rfl rfl rfl) (pmk_own PySem.F.excBase_ValueError (x_NoParcel c).1 (g_NoParcel KX G c) (x_NoParcel c).2.1 (raises_own (x_NoParcel c).2.2.1 (x_NoParcel c).2.2.2) (by exact rfl))))
        (pss_nil))
theorem sc_Wall_fetch : FnScope ["self", "parcel", "box"] ["self", "parcel"] (defScope s_Wall_fetch) := ⟨rfl, rfl, rfl, by decide +kernel, rfl, by decide +kernel, by decide +kernel⟩
theorem ok_Wall_fetch {P : Program} {w : World} {base : Heap} {h : Heap} {mg : Str → Option Value} {K : PySem.W.Frag} (KX : K.In h) (G : h.Ns mainGlobals mg) (c : He.SaysD fa fn K) (xs : XS K xl) : OkF P w K mg base (L2.CX P w) 2 (He.fAd K d_Wall_fetch.at_) ["self", "parcel"] (sp_Wall_fetch K) := by
  obtain ⟨fd, F⟩ := c.def_ 9 (d := d_Wall_fetch) rfl
  obtain ⟨fd_Wall_see, G_Wall_see, b_Wall_see, k_Wall_see⟩ := ok_Wall_see (P := P) (w := w) (base := base) KX G c xs
  have nd := sc_Wall_fetch.nd
  refine ⟨fd, F.ok sc_Wall_fetch (len_Wall_fetch (K := K)) (fun cdv A outer s H vs Q E hr hsp => ⟨t_Wall_fetch K E, id ?_, pure_Wall_fetch (tW c) vs H Q E hsp⟩), F.bindsN (fun _ _ _ _ _ _ us hl => match us, hl with | [_, _], _ => rfl), F.kp⟩
  exact pss_cons (ps_expr (pe_meth (pv 0) (clW c) (m_Wall_see c) G_Wall_see (hr.mono (by decide : 1 ≤ 1)) b_Wall_see .nil (passes_call (takes_of rfl rfl rfl rfl) (fun _ _ _ _ h => h)) (pa_cons (pv 1) pa_nil)))
      (pss_cons (ps_set (i := 2) nd rfl (Or.inl rfl) (pe_bm PySem.F.plainAttrs_list PySem.F.slot_list_index PySem.F.type_list_index mt_index (pe_fld (pv 0) rfl) (pa_cons (pv 1) pa_nil)))
      (pss_cons (ps_asg (pe_non) (pg_sub (pe_fld (pv 0) rfl) (pv 2) set_list))
      (pss_one (ps_ret (pv 2)))))
theorem sc_read : FnScope ["text", "sign"] ["text"] (defScope s_read) := ⟨rfl, rfl, rfl, by decide +kernel, rfl, by decide +kernel, by decide +kernel⟩
theorem ok_read {P : Program} {w : World} {base : Heap} {h : Heap} {mg : Str → Option Value} {K : PySem.W.Frag} (KX : K.In h) (G : h.Ns mainGlobals mg) (c : He.SaysD fa fn K) (xs : XS K xl) : OkF P w K mg base (L2.CX P w) 4 (He.fAd K d_read.at_) ["text"] (sp_read K) := by
  obtain ⟨fd, F⟩ := c.def_ 10 (d := d_read) rfl
  obtain ⟨fd_Wall_init, G_Wall_init, b_Wall_init, k_Wall_init⟩ := ok_Wall_init (P := P) (w := w) (base := base) KX G c xs
  have nd := sc_read.nd
  refine ⟨fd, F.ok sc_read (len_read (K := K)) (fun cdv A outer s H vs Q E hr hsp => ⟨t_read K E, id ?_, pure_read xs (by decide +kernel) vs H Q E hsp⟩), F.bindsN (fun _ _ _ _ _ _ us hl => match us, hl with | [_], _ => rfl), F.kp⟩
  exact pss_cons (ps_if (pt_cmpR op_ne (pe_slice sl_str (pv 0) po_none (po_some (pe_int))) (pe_str) (nomark _))
        (pss_one (ps_raise rfl (takes_of rfl rfl rfl rfl) (pmk_own PySem.F.excBase_ValueError (x_NoNote c).1 (g_NoNote KX G c) (x_NoNote c).2.1 (raises_own (x_NoNote c).2.2.1 (x_NoNote c).2.2.2) (by exact rfl))))
        (pss_nil))
      (pss_cons (ps_forP (passes_of rfl) rfl (pi_str (pe_slice sl_str (pv 0) (po_some (pe_int)) po_none)) (pg_name (i := 1) nd rfl (Or.inl rfl))
        (pss_one (ps_if (pt_cmpR op_notIn_sign (pv 1) (pe_glob rfl (c_FIGURES KX G c).choose_spec ⟨_, rfl⟩) (by rfl))
        (pss_one (ps_raise rfl (takes_of rfl rfl rfl rfl) (pmk_own PySem.F.excBase_ValueError (x_NoNote c).1 (g_NoNote KX G c) (x_NoNote c).2.1 (raises_own (x_NoNote c).2.2.1 (x_NoNote c).2.2.2) (by exact rfl))))
        (pss_nil))))
      (pss_one (L2H.ps_try_onlyX (tb := fun W => tRet (tMakeS (He.ga K "Wall") (sp_Wall_init K) (WE W) (tCons (tLc (iStr (tSl rSlS (tVar 0) (tPart (tC (.int 5))) tNoPart)) (gName 1) tYes (tCB rIntStr (tCons (tVar 1) tNil)) [1]) tNil))) (ts := fun a cls d => tRaise E (He.ga K "NoNote")) (Wout := wE E) rfl rfl ⟨rfl, by decide, .inl (g_NoWall KX G c)⟩ (fun hd => L2H.passesAt_of rfl hd) (takes_of rfl rfl rfl rfl) (fun W pn xe tk tkp hpo => pss_one (ps_ret (pe_makeS (mkW c) G_Wall_init (hr.mono (by decide : 3 ≤ 3)) rfl (g_Wall KX G c) b_Wall_init (fun σ => L2N.passAt tk σ) (pa_cons (pe_lc (own := [("sign", 1)]) (g := gName 1) rfl nd (pi_str (pe_slice sl_str (pv 0) (po_some (pe_int)) po_none)) (blkOk_by (N := ["text", "sign"]) (sc := defScope s_read) (by decide +kernel)) (fun _ _ _ _ _ => pg_name (i := 1) nd rfl (Or.inl rfl)) (fun _ _ _ _ _ => pts_nil) (fun _ _ _ _ _ => pe_callTy call_int_str (by rfl) (f_int KX G c) (by decide +kernel) (pa_cons (pv 1) pa_nil))) pa_nil)))) (fun a oe cls d pn hz hf tk2 hot => pss_one (L2H.ps_raiseH hot tk2 (L2N.pmk_own PySem.F.excBase_ValueError (x_NoNote c).1 (g_NoNote KX G c) (x_NoNote c).2.1 (raises_own (x_NoNote c).2.2.1 (x_NoNote c).2.2.2) (by exact rfl)))))))
theorem sc_law_call_k15 : FnScope ["way", "side", "many"] ["way", "side", "many"] (defScope s_law_call_k15) := ⟨rfl, rfl, rfl, by decide +kernel, rfl, by decide +kernel, by decide +kernel⟩
theorem ok_law_call_k15 {P : Program} {w : World} {base : Heap} {h : Heap} {mg : Str → Option Value} {K : PySem.W.Frag} (KX : K.In h) (G : h.Ns mainGlobals mg) (c : He.SaysD fa fn K) (xs : XS K xl) : OkF P w K mg base (L2.CX P w) 5 (He.fAd K d_law_call_k15.at_) ["way", "side", "many"] (sp_law_call_k15 K) := by
  obtain ⟨fd, F⟩ := c.def_ 11 (d := d_law_call_k15) rfl
  obtain ⟨fd_Wall_init, G_Wall_init, b_Wall_init, k_Wall_init⟩ := ok_Wall_init (P := P) (w := w) (base := base) KX G c xs
  obtain ⟨fd_room_for_k15, G_room_for_k15, b_room_for_k15, k_room_for_k15⟩ := ok_room_for_k15 (P := P) (w := w) (base := base) KX G c xs
  obtain ⟨fd_Wall_come, G_Wall_come, b_Wall_come, k_Wall_come⟩ := ok_Wall_come (P := P) (w := w) (base := base) KX G c xs
  obtain ⟨fd_Wall_fetch, G_Wall_fetch, b_Wall_fetch, k_Wall_fetch⟩ := ok_Wall_fetch (P := P) (w := w) (base := base) KX G c xs
  obtain ⟨fd_read, G_read, b_read, k_read⟩ := ok_read (P := P) (w := w) (base := base) KX G c xs
  have nd := sc_law_call_k15.nd
  refine ⟨fd, F.ok sc_law_call_k15 (len_law_call_k15 (K := K)) (fun cdv A outer s H vs Q E hr hsp => ⟨t_law_call_k15 K E, id ?_, pure_law_call_k15 vs H Q E hsp⟩), F.bindsN (fun _ _ _ _ _ _ us hl => match us, hl with | [_, _, _], _ => rfl), F.kp⟩
  exact pss_one (ps_if (pt_cmpR op_eq (pv 0) (pe_int) (nomark _))
        (pss_one (ps_expr (pe_make (mkW c) G_Wall_init (hr.mono (by decide : 3 ≤ 4)) rfl (g_Wall KX G c) b_Wall_init .nil (passesN (passes_call (takes_of rfl rfl rfl rfl) (fun _ _ _ _ h => h))) (pa_cons (pe_lst pa_nil) pa_nil))))
        (pss_one (ps_if (pt_cmpR op_eq (pv 0) (pe_int) (nomark _))
        (pss_one (ps_expr (pe_call G_room_for_k15 (hr.mono (by decide : 2 ≤ 4)) rfl (g_room_for KX G c) k_room_for_k15 b_room_for_k15 .nil (passes_call (takes_of rfl rfl rfl rfl) (fun _ _ _ _ h => h)) (pa_cons (pv 1) (pa_cons (pe_int) pa_nil)))))
        (pss_one (ps_if (pt_cmpR op_eq (pv 0) (pe_int) (nomark _))
        (pss_one (ps_expr (pe_meth (pv 1) (clW c) (m_Wall_come c) G_Wall_come (hr.mono (by decide : 2 ≤ 4)) b_Wall_come .nil (passes_call (takes_of rfl rfl rfl rfl) (fun _ _ _ _ h => h)) (pa_cons (pe_int) (pa_cons (pe_int) pa_nil)))))
        (pss_one (ps_if (pt_cmpR op_eq (pv 0) (pe_int) (nomark _))
        (pss_one (ps_expr (pe_meth (pv 1) (clW c) (m_Wall_come c) G_Wall_come (hr.mono (by decide : 2 ≤ 4)) b_Wall_come .nil (passes_call (takes_of rfl rfl rfl rfl) (fun _ _ _ _ h => h)) (pa_cons (pe_int) (pa_cons (pe_int) pa_nil)))))
        (pss_one (ps_if (pt_cmpR op_eq (pv 0) (pe_int) (nomark _))
        (pss_one (ps_expr (pe_meth (pv 1) (clW c) (m_Wall_fetch c) G_Wall_fetch (hr.mono (by decide : 2 ≤ 4)) b_Wall_fetch .nil (passes_call (takes_of rfl rfl rfl rfl) (fun _ _ _ _ h => h)) (pa_cons (pv 2) pa_nil))))
        (pss_one (ps_expr (pe_call G_read (hr.mono (by decide : 4 ≤ 4)) rfl (g_read KX G c) k_read b_read .nil (passes_call (takes_of rfl rfl rfl rfl) (fun _ _ _ _ h => h)) (pa_cons (pe_op op_add_str (pe_str) (pe_callTy call_str_int (by rfl) (f_str KX G c) (by decide +kernel) (pa_cons (pv 2) pa_nil))) pa_nil)))))))))))))
theorem sc_law_marks_k15 : FnScope ["e", "marks"] ["e"] (defScope s_law_marks_k15) := ⟨rfl, rfl, rfl, by decide +kernel, rfl, by decide +kernel, by decide +kernel⟩
theorem ok_law_marks_k15 {P : Program} {w : World} {base : Heap} {h : Heap} {mg : Str → Option Value} {K : PySem.W.Frag} (KX : K.In h) (G : h.Ns mainGlobals mg) (c : He.SaysD fa fn K) (xs : XS K xl) : OkE P w K mg base 1 (He.fAd K d_law_marks_k15.at_) ["e"] (sp_law_marks_k15 K) := by
  obtain ⟨fd, F⟩ := c.def_ 12 (d := d_law_marks_k15) rfl
  have nd := sc_law_marks_k15.nd
  refine ⟨fd, fnE_of F sc_law_marks_k15 (len_law_marks_k15 (K := K)) (fun cdv A outer s H vs Q E a oe cls d hz hf hr hsp => ⟨t_law_marks_k15 K a cls d E, PSs.nox ?_, pure_law_marks_k15 xs (by decide +kernel) a cls d vs H Q E hsp⟩), F.bindsN (fun _ _ _ _ _ _ us hl => match us, hl with | [_], _ => rfl), F.kp⟩
  exact pss_cons (ps_set (i := 1) nd rfl (Or.inl rfl) (pe_lst (pa_cons (pe_callB (call_isP hz hf (show (a, oe) ∈ [(a, oe)] from List.mem_singleton.mpr rfl)) (by rfl) (f_isinstance KX G c) (by decide +kernel) (pa_cons (pv 0) (pa_cons (pe_glob rfl (g_NoWall KX G c) rfl) pa_nil))) (pa_cons (pe_callB (call_isP hz hf (show (a, oe) ∈ [(a, oe)] from List.mem_singleton.mpr rfl)) (by rfl) (f_isinstance KX G c) (by decide +kernel) (pa_cons (pv 0) (pa_cons (pe_glob rfl (g_NoSize KX G c) rfl) pa_nil))) (pa_cons (pe_callB (call_isP hz hf (show (a, oe) ∈ [(a, oe)] from List.mem_singleton.mpr rfl)) (by rfl) (f_isinstance KX G c) (by decide +kernel) (pa_cons (pv 0) (pa_cons (pe_glob rfl (g_NoNights KX G c) rfl) pa_nil))) (pa_cons (pe_callB (call_isP hz hf (show (a, oe) ∈ [(a, oe)] from List.mem_singleton.mpr rfl)) (by rfl) (f_isinstance KX G c) (by decide +kernel) (pa_cons (pv 0) (pa_cons (pe_glob rfl (g_NoBox KX G c) rfl) pa_nil))) pa_nil))))))
      (pss_one (ps_ret (pe_op op_cat (pv 1) (pe_lst (pa_cons (pe_callB (call_isP hz hf (show (a, oe) ∈ [(a, oe)] from List.mem_singleton.mpr rfl)) (by rfl) (f_isinstance KX G c) (by decide +kernel) (pa_cons (pv 0) (pa_cons (pe_glob rfl (g_NoParcel KX G c) rfl) pa_nil))) (pa_cons (pe_callB (call_isP hz hf (show (a, oe) ∈ [(a, oe)] from List.mem_singleton.mpr rfl)) (by rfl) (f_isinstance KX G c) (by decide +kernel) (pa_cons (pv 0) (pa_cons (pe_glob rfl (g_NoNote KX G c) rfl) pa_nil))) (pa_cons (pe_callB (call_isP hz hf (show (a, oe) ∈ [(a, oe)] from List.mem_singleton.mpr rfl)) (by rfl) (f_isinstance KX G c) (by decide +kernel) (pa_cons (pv 0) (pa_cons (pe_bltn (by rfl) (f_ValueError KX G c) (by decide +kernel) rfl) pa_nil))) pa_nil)))))))
theorem sc_law_k15 : FnScope ["script", "sizes", "side", "size", "way", "found", "e", "k"] ["script"] (defScope s_law_k15) := ⟨rfl, rfl, rfl, by decide +kernel, rfl, by decide +kernel, by decide +kernel⟩
theorem ok_law_k15 {P : Program} {w : World} {base : Heap} {h : Heap} {mg : Str → Option Value} {K : PySem.W.Frag} (KX : K.In h) (G : h.Ns mainGlobals mg) (c : He.SaysD fa fn K) (xs : XS K xl) {fd : FuncData} (F : FunD K d_law_k15.name d_law_k15.qual d_law_k15.params d_law_k15.body d_law_k15.scope [] [] (He.fAd K d_law_k15.at_) fd) : FnOk P w K mg base CX0 6 (He.fAd K d_law_k15.at_) fd ["script"] (sp_law_k15 K) := by
  obtain ⟨fd_law_call_k15, G_law_call_k15, b_law_call_k15, k_law_call_k15⟩ := ok_law_call_k15 (P := P) (w := w) (base := base) KX G c xs
  obtain ⟨fd_law_marks_k15, G_law_marks_k15, b_law_marks_k15, k_law_marks_k15⟩ := ok_law_marks_k15 (P := P) (w := w) (base := base) KX G c xs
  obtain ⟨fd_law_drawn, G_law_drawn, b_law_drawn, k_law_drawn⟩ := ok_law_drawn (P := P) (w := w) (base := base) KX G c xs
  obtain ⟨fd_Wall_come, G_Wall_come, b_Wall_come, k_Wall_come⟩ := ok_Wall_come (P := P) (w := w) (base := base) KX G c xs
  obtain ⟨fd_Wall_init, G_Wall_init, b_Wall_init, k_Wall_init⟩ := ok_Wall_init (P := P) (w := w) (base := base) KX G c xs
  obtain ⟨fd_law_sizes_by, G_law_sizes_by, b_law_sizes_by, k_law_sizes_by⟩ := ok_law_sizes_by (P := P) (w := w) (base := base) KX G c xs
  have nd := sc_law_k15.nd
  refine F.ok sc_law_k15 (len_law_k15 (K := K)) (fun cdv A outer s H vs Q E hr hsp => ⟨t_law_k15 K E, PSs.nox ?_, pure_law_k15 (tW c) xs (by decide +kernel) vs H Q E hsp⟩)
  exact pss_cons (ps_set (i := 1) nd rfl (Or.inl rfl) (pe_call G_law_sizes_by (hr.mono (by decide : 2 ≤ 5)) rfl (g_law_sizes_by KX G c) k_law_sizes_by b_law_sizes_by .nil pass0 (pa_cons (pv 0) (pa_cons (pe_int) pa_nil))))
      (pss_cons (ps_set (i := 2) nd rfl (Or.inl rfl) (pe_make (mkW c) G_Wall_init (hr.mono (by decide : 3 ≤ 5)) rfl (g_Wall KX G c) b_Wall_init .nil (passesN passL) (pa_cons (pe_callTy call_list_of (by rfl) (f_list KX G c) (by decide +kernel) (pa_cons (pv 1) pa_nil)) pa_nil)))
      (pss_cons (ps_forP (PassesOwn.never) rfl (pi_list (pe_callB cr_sortedI (by rfl) (f_sorted KX G c) (by decide +kernel) (pa_cons (pv 1) pa_nil))) (pg_name (i := 3) nd rfl (Or.inl rfl))
        (pss_one (ps_expr (pe_meth (pv 2) (clW c) (m_Wall_come c) G_Wall_come (hr.mono (by decide : 2 ≤ 5)) b_Wall_come .nil passL (pa_cons (pv 3) (pa_cons (pe_int) pa_nil))))))
      (pss_cons (ps_set (i := 4) nd rfl (Or.inr rfl) (pe_call G_law_drawn (hr.mono (by decide : 1 ≤ 5)) rfl (g_law_drawn KX G c) k_law_drawn b_law_drawn .nil pass0 (pa_cons (pv 0) (pa_cons (pe_int) (pa_cons (pe_int) pa_nil)))))
      (pss_cons (ps_set (i := 5) nd rfl (Or.inl rfl) (pe_lst pa_nil))
      (pss_cons (ps_try_as (i := 6) (tb := fun W => tDrop (tCallS (sp_law_call_k15 K) (WE W) (tCons (tVar 4) (tCons (tVar 2) (tCons (tCB (rLenSeq K) (tCons (tVar 1) tNil)) tNil))))) (ts := fun a cls d => tAsg (tCall (sp_law_marks_k15 K a cls d) [] E0 (tCons (tVar 6) tNil)) (gName 5)) (Wout := wNone) rfl rfl nd rfl rfl ⟨rfl, by decide, .inl (g_WallError KX G c)⟩ takes0 (fun W pn xe tk hpo => pss_one (ps_expr (pe_callS G_law_call_k15 (hr.mono (by decide : 5 ≤ 5)) rfl (g_law_call KX G c) k_law_call_k15 b_law_call_k15 (fun σ => passAt tk σ) (pa_cons (pv 4) (pa_cons (pv 2) (pa_cons (pe_callB call_len_seq (by rfl) (f_len KX G c) (by decide +kernel) (pa_cons (pv 1) pa_nil)) pa_nil)))))) (fun a oe cls d pn hz hf => pss_one (ps_set (i := 5) nd rfl (Or.inl rfl) (pe_callE hz hf G_law_marks_k15 (L2H.roomH_of (hr.mono (by decide : 1 ≤ 5))) rfl (g_law_marks KX G c) k_law_marks_k15 b_law_marks_k15 (pa_cons (pv 6) pa_nil)))))
      (pss_one (ps_ret (pe_cmpR (op_eqDI hr.units) (pv 5) (pe_lc (own := [("k", 7)]) (g := gName 7) rfl nd (pi_range1 rfl (f_range KX G c) (pa_cons (pe_int) pa_nil)) (blkOk_by (N := ["script", "sizes", "side", "size", "way", "found", "e", "k"]) (sc := defScope s_law_k15) (by decide +kernel)) (fun _ _ _ _ _ => pg_name (i := 7) nd rfl (Or.inl rfl)) (fun _ _ _ _ _ => pts_nil) (fun _ _ _ _ _ => pe_or (pe_cmpR op_eq (pv 7) (pv 4) (nomark _)) (pe_one (pe_cmpR op_eq (pv 7) (pe_int) (nomark _))))) (nomark _)))))))))
def exb (K : PySem.W.Frag) : Bool := xsB K xl
abbrev hk : PySem.W.Hook := He.hookX 4 fa fn [] [] exb
def ob (s : PySem.W.SharedT) : He.AlX := He.obsX 4 fa fn [] [] exb (HandSHeadRun.getT s)
theorem ob_eq (s : PySem.W.SharedT) : ob s = hk.obs s.abs := He.obsX_eq (HandSHeadRun.getT_eq s)
theorem run (w : World) : HandSHeadRun.RunEq R (PySem.W.view R.prog [26]) hk ob 4000 ["_wall", "__name__", "WallError", "NoWall", "NoSize", "NoNights", "NoBox", "NoParcel", "NoNote", "MOST_BOXES", "MOST_SIZE", "is_size", "least_box", "Wall", "reach", "room_for", "FIGURES", "read", "_law_drawn", "_law_sizes_by", "_law_marks", "_law_call"] w := by
  intro os
  kernel_rfl
theorem facts {P : Program} {w : World} {K : PySem.W.Frag} {h : Heap} {mg : Str → Option Value} {f : Addr} (KX : K.In h) (G : h.Ns mainGlobals mg) (hfa : mg ("law" : Str) = some (.ref f)) (c : He.SaysD fa fn K) (xs : XS K xl) :
    ∃ fd : FuncData, (∀ (s : Shared) (v : Value), BindsTo s fd ⟨[v], []⟩ [("script", v)]) ∧ ∀ base : Heap, K.In base → base.Ns mainGlobals mg → FnOk P w K mg base CX0 6 f fd ["script"] (sp_law_k15 K) := by
  obtain ⟨fd, F⟩ := c.def_ 13 (d := d_law_k15) rfl
  have e := hfa.symm.trans (g_law KX G c)
  cases e
  have b := FunD.bindsA (ps := ["script"]) F fun _ _ _ _ _ _ us hl => match us, hl with | [_], _ => rfl
  exact ⟨fd, fun s v => b s [v] rfl, fun base _ _ => ok_law_k15 KX G c xs F⟩
end Pw
open PySem PySem.W PySem.Calls PyProof.Rows
theorem PySem.Challenge.cw_parcelwall_k15_refusals_apart_holds : PySem.Challenge.rw_parcelwall_k15_refusals_apart.Holds := by
  w_on; o_law
  refine HandSHeadRun.head_any (r := OpenLaw.row PySem.Challenge.rw_parcelwall_k15_refusals_apart) (q := view (OpenLaw.row PySem.Challenge.rw_parcelwall_k15_refusals_apart).prog [26]) (H := Pw.hk) (ob := Pw.ob) (M := 4000) (loose := ["_wall", "__name__", "WallError", "NoWall", "NoSize", "NoNights", "NoBox", "NoParcel", "NoNote", "MOST_BOXES", "MOST_SIZE", "is_size", "least_box", "Wall", "reach", "room_for", "FIGURES", "read", "_law_drawn", "_law_sizes_by", "_law_marks", "_law_call"]) (d := HandSHeadRun.topDef (OpenLaw.row PySem.Challenge.rw_parcelwall_k15_refusals_apart).prog 26) (kwd := []) Pw.ob_eq
    (by kernel_rfl) (fun s => by kernel_rfl) Pw.run (by kernel_rfl) (by kernel_rfl) (by kernel_rfl) (by rfl) (by first | assumption | decide +kernel) (by decide +kernel) ⟨rfl, rfl, rfl, rfl, rfl, by decide +kernel⟩ ?hw ?hc
  case hw => w_witness2
  case hc =>
    refine L2.walk_ofE (l := PySem.Challenge.rw_parcelwall_k15_refusals_apart) (n := 63) (k := 6) (x := "script") (CX := L2.CX0) rfl (by decide) (by kernel_rfl) ⟨rfl, by decide, by decide⟩ ?F (fun _ _ _ _ z => z)
    intro w mg fa h Y G hmg0
    obtain ⟨K, KX, sx⟩ := Y
    have hmg : mg ("law" : PySem.Str) = some (.ref fa) := by
      have e : (HandSHeadRun.topDef (OpenLaw.row PySem.Challenge.rw_parcelwall_k15_refusals_apart).prog 26).name = ("law" : PySem.Str) := by kernel_rfl
      rw [← e]
      exact hmg0
    obtain ⟨fd, hb, hF⟩ := Pw.facts (P := (PySem.Challenge.rw_parcelwall_k15_refusals_apart).prog) (w := w) KX G hmg sx.t.d ⟨sx.more⟩
    exact ⟨K, fd, Pw.sp_law_k15 K, KX, hb, fun H a ns hl _ hS => ⟨a, ns, rfl, hS, hl, fun _ => rfl⟩, hF⟩
