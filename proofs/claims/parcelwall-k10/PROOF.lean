import PyProof.Rows.All
import Wide.All
import OpenK.AllK
import Wide.FinOn
import KE.KStateDown
import HandS.ForMost
import HandS.ForExc
import HandS.Defaults
import HandS.TryMany
import HandS.SortRule
import HandS.SortInts
import HandS.SetFor
import HandS.More
import HandS.IsInst
import HandS.ExcIs
import HandS.Zip
import HandS.Evl
import HandS.Head0
import HandS.Head1
import HandS.Head2
import HandS.HeadEnd
import HandS.HeadHook1
import HandS.HeadHook2
import HandS.HeadHook3
import HandS.HeadHook4
import HandS.Conv
import HandS.Walk
import HandS.Codes
import HandS.SuiteRaise
import KE.KMinKey
import KE.KDictCopyH
import PySem.Challenge.RW_parcelwall_k10_whole_the_fewest_moves
set_option Elab.async false
set_option linter.all false
set_option maxRecDepth 100000
set_option maxHeartbeats 4000000
open PySem PySem.Spec PyProof.Rows L2
namespace Pw
/-! ### readings by short names -/
abbrev rAddI : R2 := rI0 fun i j => .int (i + j)
abbrev rSubI : R2 := rI0 fun i j => .int (i - j)
abbrev rMulI : R2 := rI CMul fun i j => .int (i * j)
abbrev rModP : R2 := rI (fun _ j => 0 < j) fun i j => .int (i % j)
abbrev rModN : R2 := rI (fun _ j => j ≠ 0) fun i j => .int (i.fmod j)
abbrev rDivP : R2 := rI CDiv fun i j => .int (i / j)
abbrev rPow : R2 := rI CPow fun i j => .int (i ^ j.toNat)
abbrev rNeg : V → Hp → VK → Prop := rU fun i => .int (-i)
abbrev rLt : R2 := rI0 fun i j => .bl (decide (i < j))
abbrev rLe : R2 := rI0 fun i j => .bl (decide (i ≤ j))
abbrev rGt : R2 := rI0 fun i j => .bl (decide (j < i))
abbrev rGe : R2 := rI0 fun i j => .bl (decide (j ≤ i))
abbrev rAddS : R2 := fun x y H Q => ∃ i j, x = .str i ∧ y = .str j ∧ i.length + j.length ≤ sizeLine ∧ Q (.str (i ++ j)) H
abbrev rIsNone : R2 := fun x y H Q => y = .non ∧ Q (.bl (decide (x = .non))) H
abbrev rNotNone : R2 := fun x y H Q => y = .non ∧ Q (.bl (!decide (x = .non))) H
abbrev rInSign : R2 := fun x y H Q => ∃ (c : Nat) (z : Str), x = .str ⟨#[c]⟩ ∧ y = .str z ∧ Q (.bl (decide (c ∈ z.cps.toList))) H
abbrev rNotInSign : R2 := fun x y H Q => ∃ (c : Nat) (z : Str), x = .str ⟨#[c]⟩ ∧ y = .str z ∧ Q (.bl (!decide (c ∈ z.cps.toList))) H
abbrev rLenSeq (K : PySem.W.Frag) : List V → Hp → VK → Prop := fun xs H Q => ∃ p ys, xs = [.ref p] ∧ (SqL K H p ys ∨ SqT K H p ys) ∧ Q (.int ys.length) H
abbrev rListOf (K : PySem.W.Frag) : List V → Hp → VK → Prop := fun xs H Q => ∃ p ys, xs = [.ref p] ∧ (SqL K H p ys ∨ SqT K H p ys) ∧ ∀ l, H l = none → Q (.ref l) (upd H l (.lst ys))
abbrev rLenStr : List V → Hp → VK → Prop := fun xs H Q => ∃ z, xs = [.str z] ∧ z.length ≤ sizeLine ∧ Q (.int z.length) H
abbrev rMax2 : List V → Hp → VK → Prop := fun xs H Q => ∃ i j, xs = [.int i, .int j] ∧ Q (.int (if j > i then j else i)) H
abbrev rMin2 : List V → Hp → VK → Prop := fun xs H Q => ∃ i j, xs = [.int i, .int j] ∧ Q (.int (if j < i then j else i)) H
abbrev rInsert : V → List V → Hp → VK → Prop := fun x vs H Q => ∃ (l : Addr) (xs : List V) (i : Int) (y : V), x = .ref l ∧ vs = [.int i, y] ∧ H l = some (.lst xs) ∧ xs.length < sizeLine ∧ 0 ≤ i ∧ i < 2 ^ 63 ∧ Q .non (upd H l (.lst (xs.take i.toNat ++ [y] ++ xs.drop i.toNat)))
abbrev rStrInt : List V → Hp → VK → Prop := fun xs H Q => ∃ i, xs = [.int i] ∧ i.natAbs.log2 < 1920 ∧ Q (.str (toString i)) H
abbrev rIntStr : List V → Hp → VK → Prop := fun xs H Q => ∃ a n, xs = [.str a] ∧ PySem.intText? a = some n ∧ a.length ≤ 640 ∧ Q (.int n) H
abbrev rJoin (K : PySem.W.Frag) : V → List V → Hp → VK → Prop := fun x xs H Q => ∃ a p, ∃ ys : List Str, x = .str a ∧ xs = [.ref p] ∧ (SqL K H p (ys.map V.str) ∨ SqT K H p (ys.map V.str)) ∧ (ys.map (·.length)).sum + ys.length * a.length ≤ 16777216 ∧ Q (.str (Txt.join a ys)) H
abbrev tRaise (E : XK) (C : Addr) : TS := fun _ _ H => E (.ref C) none H
/-! ### rules: a method's call, an instance made, within a try -/
/-- o.m(e, ..) within a try: what it raises is wished for at the slots as they stand -/
def tMethS (C : Addr) (m : Str) (sp : Sp) (E : L2.St → XK) (ta : TE) (t : TA) : TE := fun σ H Q => ta σ H fun x H1 => ∃ a dx fs, x = .ref a ∧ H1 a = some (.ins C dx fs) ∧ fs.lookup m = none ∧ t σ H1 fun vs H2 => sp (x :: vs) H2 Q (E σ)
theorem pe_methS {X : Cx} {CX : CXT} {k : Nat} {f C : Addr} {fd : FuncData} {ps : List Str} {sp : Sp} {E : L2.St → XK} {m : Str} {pos apos : Pos} {e o : Expr} {es : List Expr} {ta : TE} {t : TA} {pl : Sem Bool} (he : PE X o ta) (c : Cls X.K C) (hm : Meth X.K C m f)
    (F : FnOk X.prog X.w X.K X.mg X.base CX k f fd ps sp) (hr : Room k X.A) (hb : Binds X.K fd ps []) (hx : ∀ σ, PassesAt CX X σ (E σ)) (ha : PA X (e :: es) t)
    (hst : starEach (e :: es) X.env = (false, eval e X.env) :: starEach es X.env := by rfl) (hpl : (backTo pos (starEach es X.env)).any (·.1) = false := by rfl)
    (ht : eval (.Call (.Attribute o m apos) (e :: es) [] pos) X.env = (do
      let ov ← eval o X.env
      standAt apos.atName
      let (f, first) ← holding [ov] (getMethod ov m pl)
      callWith pos f first (backTo pos (starEach (e :: es) X.env)) (backToKw pos (keywordEach [] X.env))) := by rfl) :
    PE X (.Call (.Attribute o m apos) (e :: es) [] pos) (tMethS C m sp E ta t) := by
  refine ⟨fun pins s σ H Q I h => ?_⟩
  refine PySem.W.methodCall_KW (pl := pl) (thn (he.run pins s σ H _ I h) fun u s1 ⟨x, H1, I1, rx, a, dx, fs, ex, ea, l, q⟩ => ?_) ht
  subst ex
  obtain rfl : u = Value.ref a := rx
  refine getmeth_ok I1 ea c hm l ?_
  refine PySem.W.callWith_K (first := [.ref a]) (h₀ := X.base) I.ok.mod.kin hm.kp (thn (ha.run pos pins s1 σ H1 _ I1 q) fun us s2 ⟨vs, H2, I2, r, q2⟩ => ⟨I2.kIn, ?_⟩) hst hpl
  exact run_fnS (us := .ref a :: us) (vs := .ref a :: vs) F hr hb (hx σ) I2 (.cons rfl r) q2
/-! ### small words -/
theorem ifD {c A B : Prop} [Decidable c] (h1 : c → A) (h2 : ¬ c → B) : if decide c = true then A else B := by
  by_cases h : c
  · rw [decide_eq_true h, if_pos rfl]; exact h1 h
  · rw [decide_eq_false h, if_neg Bool.false_ne_true]; exact h2 h
theorem ifN {c A B : Prop} [Decidable c] (h1 : ¬ c → A) (h2 : c → B) : if (!decide c) = true then A else B := by
  by_cases h : c
  · rw [decide_eq_true h]; exact iteF (h2 h)
  · rw [decide_eq_false h]; exact iteT (h1 h)
theorem ifB {b : Bool} {A B : Prop} (h1 : b = true → A) (h2 : b = false → B) : if b = true then A else B := by
  cases b with
  | true => exact iteT (h1 rfl)
  | false => exact iteF (h2 rfl)
theorem ifNB {b : Bool} {A B : Prop} (h1 : b = false → A) (h2 : b = true → B) : if (!b) = true then A else B := by
  cases b with
  | true => exact iteF (h2 rfl)
  | false => exact iteT (h1 rfl)
theorem ifIs {b : Bool} {A B : Prop} (h : b = true) (a : A) : if b = true then A else B := by rw [h]; exact iteT a
theorem ifNo {b : Bool} {A B : Prop} (h : b = false) (a : B) : if b = true then A else B := by rw [h]; exact iteF a
/-! ### heaps -/
theorem updOld {H : Hp} {a p : Addr} {o u : HO} (h : H a = some o) (hp : H p = none) : upd H p u a = some o := by rw [upd_ne (ne_of_none h hp)]; exact h
theorem updNe {H : Hp} {a p : Addr} {o u : HO} (h : H a = some o) (hp : a ≠ p) : upd H p u a = some o := by rw [upd_ne hp]; exact h
theorem updFree {H : Hp} {p q : Addr} {o : HO} (h : upd H p o q = none) : H q = none := by
  by_cases e : q = p
  · subst e; rw [upd_same] at h; cases h
  · rw [upd_ne e] at h; exact h
theorem updFreeNe {H : Hp} {p q : Addr} {o : HO} (h : upd H p o q = none) : q ≠ p := fun e => by
  subst e; rw [upd_same] at h; cases h
theorem sameNew {H0 H : Hp} {p : Addr} {o : HO} (s : Same H0 H) (hp : H p = none) : Same H0 (upd H p o) := fun b u e => updOld (s b u e) hp
theorem sameMut {H0 H : Hp} {p : Addr} {o : HO} (s : Same H0 H) (hp : H0 p = none) : Same H0 (upd H p o) := fun b u e => by
  rw [upd_ne (ne_of_none e hp)]; exact s b u e
theorem sameGet {H H' : Hp} {a : Addr} {o : HO} (s : Same H H') (h : H a = some o) : H' a = some o := s a o h
/-! ### places in a list -/
theorem atI_of {xs : List V} {z : Int} {j : Nat} {v : V} (e : z = (j : Int)) (h : xs[j]? = some v) : atI xs z = some v := at_of e h
theorem mapGet {α : Type} {f : α → V} {xs : List α} {i : Nat} {v : V} (h : (xs.map f)[i]? = some v) : ∃ x, xs[i]? = some x ∧ v = f x := by
  rw [List.getElem?_map] at h
  cases e : xs[i]? with
  | none => rw [e] at h; cases h
  | some x => rw [e] at h; exact ⟨x, rfl, (Option.some.inj h).symm⟩
theorem getMap {α : Type} {f : α → V} {xs : List α} {i : Nat} {x : α} (h : xs[i]? = some x) : (xs.map f)[i]? = some (f x) := by
  rw [List.getElem?_map, h]; rfl
theorem atMap {α : Type} {f : α → V} {xs : List α} (d : α) {z : Int} (h0 : 0 ≤ z) (h1 : z < xs.length) : atI (xs.map f) z = some (f (xs.getD z.toNat d)) := by
  obtain ⟨x, hx⟩ : ∃ x, xs[z.toNat]? = some x := ⟨xs[z.toNat]'(by omega), List.getElem?_eq_getElem (by omega)⟩
  have e : xs.getD z.toNat d = x := by rw [List.getD_eq_getElem?_getD, hx]; rfl
  rw [e]
  exact at_of (j := z.toNat) (by omega) (getMap hx)
theorem atInt {xs : List Int} {z : Int} (h0 : 0 ≤ z) (h1 : z < xs.length) : atI (xs.map V.int) z = some (V.int (xs.getD z.toNat 0)) := atMap 0 h0 h1
theorem takeMore {α : Type} : ∀ {l : List α} {i : Nat} {x : α}, l[i]? = some x → l.take (i + 1) = l.take i ++ [x]
  | [], i, x, h => by simp at h
  | a :: l, 0, x, h => by
    have e : a = x := Option.some.inj h
    subst e; rfl
  | a :: l, i + 1, x, h => by
    have ih := takeMore (l := l) (i := i) (x := x) h
    show a :: l.take (i + 1) = a :: l.take i ++ [x]
    rw [ih]; rfl
theorem szLe {n : Nat} (h : n ≤ 100000) : n ≤ sizeLine := Nat.le_trans h (by decide)
theorem szLt {n : Nat} (h : n < 100000) : n < sizeLine := Nat.lt_of_lt_of_le h (by decide)
theorem getLt {α : Type} {xs : List α} {i : Nat} {x : α} (h : xs[i]? = some x) : i < xs.length := (List.getElem?_eq_some_iff.mp h).1
theorem getOf {α : Type} {xs : List α} {i : Nat} (h : i < xs.length) : ∃ x, xs[i]? = some x := ⟨xs[i], List.getElem?_eq_getElem h⟩
/-! ### a def of the text that holds its promise -/
def OkF (P : Program) (w : World) (K : PySem.W.Frag) (mg : Str → Option Value) (base : Heap) (CX : CXT) (k : Nat) (f : Addr) (ps : List Str) (sp : Sp) : Prop :=
  ∃ fd : FuncData, FnOk P w K mg base CX k f fd ps sp ∧ Binds K fd ps [] ∧ PySem.W.keepIn K (.ref f) = true
end Pw
namespace Pw
/-! ### the wall's class -/
structure TW (K : PySem.W.Frag) : Prop where
  cl : Cls K (He.ga K "Wall")
  nb : NoAttr K (He.ga K "Wall") "boxes"
  ni : NoAttr K (He.ga K "Wall") "inside"
  np : NoAttr K (He.ga K "Wall") "parcels"
  nt : NoAttr K (He.ga K "Wall") "today"
end Pw
namespace Pw
/-! ### loops behind a word that does not open by itself -/
@[irreducible] def ForG (J : It) (g : TG) (tb : TS) (D : Ends) (σ : L2.St) (H1 : Hp) : Prop := ∃ W : Nat → Nat → L2.St → Hp → Prop, (∃ m, W 0 m σ H1) ∧ ∀ i m σ H, W i m σ H →
  (J.stop i H ∧ D.nx σ H) ∨ (J.go i H ∧ ∃ N : L2.St → Hp → Prop, (∀ σ' H', N σ' H' → ∃ m', m' < m ∧ W (i + 1) m' σ' H') ∧ ∀ x H', J.yld i H x H' → g x σ H' fun σ2 H2 => tb { D with nx := N, ct := N, bk := D.nx } σ2 H2)
def tForP (wi : TI) (g : TG) (tb : TS) : TS := fun D σ H => wi σ H fun J H1 => ForG J g tb D σ H1
theorem tForP_eq (wi : TI) (g : TG) (tb : TS) : tForP wi g tb = tFor wi g tb := by
  funext D σ H
  unfold tForP tFor ForG
  rfl
theorem ps_forP {X : Cx} {tg iter : Expr} {body : List Stmt} {wi : TI} {g : TG} {tb : TS} {pos : Pos} (hp : PassesOwn (model X.prog X.w) X.A X.env X.xe) (hc : X.calm = true) (hi : PI X tg iter wi) (hg : PG X tg g) (hb : PSs X body tb)
    (hs : ∀ x, foldedSetIterable iter X.env x = pure x := by intro _; rfl) : PS X (.For tg iter body [] pos) (tForP wi g tb) := by
  rw [tForP_eq]
  exact ps_for hp hc hi hg hb hs
@[irreducible] def WhileG (tc : TT) (tb : TS) (D : Ends) (σ : L2.St) (H : Hp) : Prop := tWhile tc tb D σ H
def tWhileP (tc : TT) (tb : TS) : TS := fun D σ H => WhileG tc tb D σ H
theorem tWhileP_eq (tc : TT) (tb : TS) : tWhileP tc tb = tWhile tc tb := by
  funext D σ H
  unfold tWhileP WhileG
  rfl
theorem ps_whileP {X : Cx} {pos : Pos} {c : Expr} {body : List Stmt} {tc : TT} {tb : TS} (hp : PassesOwn (model X.prog X.w) X.A X.env X.xe) (hc : PT X c tc) (hb : PSs X body tb) : PS X (.While c body [] pos) (tWhileP tc tb) := by
  rw [tWhileP_eq]
  exact ps_while hp hc hb
section
variable {K : PySem.W.Frag} {g : TG} {tb : TS} {D : Ends} {σ : L2.St} {H : Hp}
theorem forList {a : Addr} {xs : List V} (Pv : Nat → L2.St → Hp → Prop) (h0 : Pv 0 σ H) (hl : ∀ i σ H, i ≤ xs.length → Pv i σ H → SqL K H a xs)
    (hs : ∀ i x σ H, xs[i]? = some x → Pv i σ H → g x σ H fun σ2 H2 => tb { D with nx := Pv (i + 1), ct := Pv (i + 1), bk := D.nx } σ2 H2) (hd : ∀ σ H, Pv xs.length σ H → D.nx σ H) : ForG (Itl K a) g tb D σ H := by
  unfold ForG
  exact for_list Pv h0 hl hs hd
theorem forTup {a : Addr} {xs : List V} (Pv : Nat → L2.St → Hp → Prop) (h0 : Pv 0 σ H) (hl : ∀ i σ H, i ≤ xs.length → Pv i σ H → SqT K H a xs)
    (hs : ∀ i x σ H, xs[i]? = some x → Pv i σ H → g x σ H fun σ2 H2 => tb { D with nx := Pv (i + 1), ct := Pv (i + 1), bk := D.nx } σ2 H2) (hd : ∀ σ H, Pv xs.length σ H → D.nx σ H) : ForG (Itt K a) g tb D σ H := by
  unfold ForG
  exact for_tup Pv h0 hl hs hd
theorem forRange {lo : Int} {n : Nat} (Pv : Nat → L2.St → Hp → Prop) (h0 : Pv 0 σ H)
    (hs : ∀ i σ H, i < n → Pv i σ H → g (.int (lo + i)) σ H fun σ2 H2 => tb { D with nx := Pv (i + 1), ct := Pv (i + 1), bk := D.nx } σ2 H2) (hd : ∀ σ H, Pv n σ H → D.nx σ H) : ForG (Itr lo n) g tb D σ H := by
  unfold ForG
  exact for_range Pv h0 hs hd
end
/-! ### comprehensions whose elements are known values -/
section
variable {K : PySem.W.Frag} {tt : TT} {te : TE} {vs : List Nat} {j : Nat} {σ : L2.St} {H1 : Hp} {D : Addr} {Qd : Hp → Prop}
theorem filterTake {α β : Type} {ns : List α} {p : α → Bool} {f : α → β} {i : Nat} {n : α} (h : ns[i]? = some n) : ((ns.take (i + 1)).filter p).map f = ((ns.take i).filter p).map f ++ (if p n = true then [f n] else []) := by
  rw [takeMore h, List.filter_append, List.map_append]
  congr 1
  by_cases c : p n = true
  · rw [if_pos c]; simp [c]
  · rw [if_neg c]; simp [c]
/-- [f(n) for n in ns if p(n)] -/
theorem lcMap {α : Type} {inj : α → V} {a : Addr} {ns : List α} (p : α → Bool) (f : α → V) (hD : H1 D = none) (hx : SqL K H1 a (ns.map inj)) (hlen : ns.length ≤ 50000) (hw : ∀ x, wipe ((wipe σ vs).set j (some x)) vs = wipe σ vs)
    (ht : ∀ (i : Nat) (n : α) H', ns[i]? = some n → Same H1 H' → ∀ T : Bool → Hp → Prop, (∀ H'', Same H' H'' → T (p n) H'') → tt ((wipe σ vs).set j (some (inj n))) H' T)
    (he : ∀ (i : Nat) (n : α) H', ns[i]? = some n → p n = true → Same H1 H' → ∀ Qv : VK, (∀ H'', Same H' H'' → Qv (f n) H'') → te ((wipe σ vs).set j (some (inj n))) H' Qv)
    (hd : ∀ H', Same H1 H' → H' D = some (.lst ((ns.filter p).map f)) → Qd H') :
    ∃ W : Nat → Nat → Hp → Prop, (∃ m, W 0 m (upd H1 D (.lst []))) ∧ ∀ i m H, W i m H →
      ((Itl K a).stop i H ∧ Qd H) ∨ ((Itl K a).go i H ∧ ∃ Nx : Hp → Prop, (∀ H', Nx H' → ∃ m', m' < m ∧ W (i + 1) m' H') ∧ ∀ x H', (Itl K a).yld i H x H' → gName j x (wipe σ vs) H' fun σ2 H2 => wipe σ2 vs = wipe σ vs ∧ tt σ2 H2 fun b H3 =>
        if b = true then te σ2 H3 fun y H4 => ∃ acc, H4 D = some (.lst acc) ∧ acc.length < sizeLine ∧ Nx (upd H4 D (.lst (acc ++ [y]))) else Nx H3) := by
  refine lc_list (K := K) (a := a) (xs := ns.map inj) (fun i H' => Same H1 H' ∧ H' D = some (.lst (((ns.take i).filter p).map f))) ⟨sameNew (Same.refl _) hD, upd_same⟩ (fun i H' _ q => q.1.seq hx) ?_ ?_
  · rintro i x H' hi ⟨s, hD'⟩
    obtain ⟨n, hn, rfl⟩ := mapGet hi
    refine ⟨hw _, ?_⟩
    refine ht i n H' hn s _ fun H3 s3 => ?_
    have e := filterTake (p := p) (f := f) hn
    refine ifB (fun c => ?_) (fun c => ?_)
    · refine he i n H3 hn c (s.trans s3) _ fun H4 s4 => ?_
      rw [if_pos c] at e
      refine ⟨_, s4 _ _ (s3 _ _ hD'), ?_, sameMut (s.trans (s3.trans s4)) hD, ?_⟩
      · have q1 : (((ns.take i).filter p).map f).length ≤ ns.length := by
          rw [List.length_map]
          exact Nat.le_trans (List.length_filter_le _ _) (by rw [List.length_take]; omega)
        exact szLt (by omega)
      · rw [e]; exact upd_same
    · rw [if_neg (by rw [c]; exact Bool.false_ne_true), List.append_nil] at e
      refine ⟨s.trans s3, ?_⟩
      rw [e]; exact s3 _ _ hD'
  · rintro H' ⟨s, hD'⟩
    rw [List.length_map, List.take_length] at hD'
    exact hd H' s hD'
/-- [f(i) for i in range(n) if p(i)] -/
theorem lcRng {lo : Int} {n : Nat} (p : Nat → Bool) (f : Nat → V) (hD : H1 D = none) (hlen : n ≤ 50000) (hw : ∀ x, wipe ((wipe σ vs).set j (some x)) vs = wipe σ vs)
    (ht : ∀ (i : Nat) H', i < n → Same H1 H' → ∀ T : Bool → Hp → Prop, (∀ H'', Same H' H'' → T (p i) H'') → tt ((wipe σ vs).set j (some (.int (lo + i)))) H' T)
    (he : ∀ (i : Nat) H', i < n → p i = true → Same H1 H' → ∀ Qv : VK, (∀ H'', Same H' H'' → Qv (f i) H'') → te ((wipe σ vs).set j (some (.int (lo + i)))) H' Qv)
    (hd : ∀ H', Same H1 H' → H' D = some (.lst (((List.range n).filter p).map f)) → Qd H') :
    ∃ W : Nat → Nat → Hp → Prop, (∃ m, W 0 m (upd H1 D (.lst []))) ∧ ∀ i m H, W i m H →
      ((Itr lo n).stop i H ∧ Qd H) ∨ ((Itr lo n).go i H ∧ ∃ Nx : Hp → Prop, (∀ H', Nx H' → ∃ m', m' < m ∧ W (i + 1) m' H') ∧ ∀ x H', (Itr lo n).yld i H x H' → gName j x (wipe σ vs) H' fun σ2 H2 => wipe σ2 vs = wipe σ vs ∧ tt σ2 H2 fun b H3 =>
        if b = true then te σ2 H3 fun y H4 => ∃ acc, H4 D = some (.lst acc) ∧ acc.length < sizeLine ∧ Nx (upd H4 D (.lst (acc ++ [y]))) else Nx H3) := by
  refine lc_range (lo := lo) (n := n) (fun i H' => Same H1 H' ∧ H' D = some (.lst (((List.range i).filter p).map f))) ⟨sameNew (Same.refl _) hD, upd_same⟩ ?_ ?_
  · rintro i H' hi ⟨s, hD'⟩
    refine ⟨hw _, ?_⟩
    refine ht i H' hi s _ fun H3 s3 => ?_
    have e : ((List.range (i + 1)).filter p).map f = ((List.range i).filter p).map f ++ (if p i = true then [f i] else []) := by
      rw [List.range_succ, List.filter_append, List.map_append]
      congr 1
      by_cases c : p i = true
      · rw [if_pos c]; simp [c]
      · rw [if_neg c]; simp [c]
    refine ifB (fun c => ?_) (fun c => ?_)
    · refine he i H3 hi c (s.trans s3) _ fun H4 s4 => ?_
      rw [if_pos c] at e
      refine ⟨_, s4 _ _ (s3 _ _ hD'), ?_, sameMut (s.trans (s3.trans s4)) hD, ?_⟩
      · have q1 : (((List.range i).filter p).map f).length ≤ i := by
          rw [List.length_map]
          exact Nat.le_trans (List.length_filter_le _ _) (by rw [List.length_range]; omega)
        exact szLt (by omega)
      · rw [e]; exact upd_same
    · rw [if_neg (by rw [c]; exact Bool.false_ne_true), List.append_nil] at e
      refine ⟨s.trans s3, ?_⟩
      rw [e]; exact s3 _ _ hD'
  · rintro H' ⟨s, hD'⟩
    exact hd H' s hD'
end
theorem filterAll {α : Type} (l : List α) : l.filter (fun _ => true) = l := by simp
/-- a new list is handed back -/
def RetNew (H : Hp) (Q : VK) (xs : List V) : Prop := ∀ H' p, Same H H' → H p = none → H' p = some (.lst xs) → Q (.ref p) H'
theorem RetNew.go {H H1 H' : Hp} {Q : VK} {xs : List V} {p : Addr} (k : RetNew H Q xs) (s : Same H H1) (s1 : Same H1 H') (hp : H1 p = none) (h : H' p = some (.lst xs)) : Q (.ref p) H' := k H' p (s.trans s1) (s.free hp) h
/-! ### the wall in the heap -/
def wf (l1 l2 l3 : Addr) (d : Int) : List (Str × V) := [("boxes", .ref l1), ("inside", .ref l2), ("parcels", .ref l3), ("today", .int d)]
theorem lk_here {k : Str} {v : V} {r : List (Str × V)} : List.lookup k ((k, v) :: r) = some v := by
  have e : (k == k) = true := beq_self_eq_true k
  simp only [List.lookup, e]
theorem lk_past {k g : Str} {v : V} {r : List (Str × V)} (h : (k == g) = false) : List.lookup k ((g, v) :: r) = List.lookup k r := by
  simp only [List.lookup, h]
theorem put_here {f : Str} {v x : V} {r : List (Str × V)} : putF f v ((f, x) :: r) = (f, v) :: r := if_pos rfl
theorem put_past {f g : Str} {v x : V} {r : List (Str × V)} (h : ¬ g = f) : putF f v ((g, x) :: r) = (g, x) :: putF f v r := if_neg h
section
variable {l1 l2 l3 : Addr} {d y : Int}
theorem wf_boxes : (wf l1 l2 l3 d).lookup ("boxes" : Str) = some (.ref l1) := lk_here
theorem wf_inside : (wf l1 l2 l3 d).lookup ("inside" : Str) = some (.ref l2) := (lk_past (by decide +kernel)).trans lk_here
theorem wf_parcels : (wf l1 l2 l3 d).lookup ("parcels" : Str) = some (.ref l3) := (lk_past (by decide +kernel)).trans ((lk_past (by decide +kernel)).trans lk_here)
theorem wf_today : (wf l1 l2 l3 d).lookup ("today" : Str) = some (.int d) := (lk_past (by decide +kernel)).trans ((lk_past (by decide +kernel)).trans ((lk_past (by decide +kernel)).trans lk_here))
theorem wf_none {m : Str} (h1 : (m == ("boxes" : Str)) = false) (h2 : (m == ("inside" : Str)) = false) (h3 : (m == ("parcels" : Str)) = false) (h4 : (m == ("today" : Str)) = false) : (wf l1 l2 l3 d).lookup m = none :=
  (lk_past h1).trans ((lk_past h2).trans ((lk_past h3).trans ((lk_past h4).trans rfl)))
theorem wf_sizes : (wf l1 l2 l3 d).lookup ("sizes" : Str) = none := wf_none (by decide +kernel) (by decide +kernel) (by decide +kernel) (by decide +kernel)
theorem wf_held : (wf l1 l2 l3 d).lookup ("held" : Str) = none := wf_none (by decide +kernel) (by decide +kernel) (by decide +kernel) (by decide +kernel)
theorem wf_day : (wf l1 l2 l3 d).lookup ("day" : Str) = none := wf_none (by decide +kernel) (by decide +kernel) (by decide +kernel) (by decide +kernel)
theorem wf_free : (wf l1 l2 l3 d).lookup ("free" : Str) = none := wf_none (by decide +kernel) (by decide +kernel) (by decide +kernel) (by decide +kernel)
theorem wf_see : (wf l1 l2 l3 d).lookup ("see" : Str) = none := wf_none (by decide +kernel) (by decide +kernel) (by decide +kernel) (by decide +kernel)
theorem wf_size_of : (wf l1 l2 l3 d).lookup ("size_of" : Str) = none := wf_none (by decide +kernel) (by decide +kernel) (by decide +kernel) (by decide +kernel)
theorem wf_left : (wf l1 l2 l3 d).lookup ("left" : Str) = none := wf_none (by decide +kernel) (by decide +kernel) (by decide +kernel) (by decide +kernel)
theorem wf_come : (wf l1 l2 l3 d).lookup ("come" : Str) = none := wf_none (by decide +kernel) (by decide +kernel) (by decide +kernel) (by decide +kernel)
theorem wf_fetch : (wf l1 l2 l3 d).lookup ("fetch" : Str) = none := wf_none (by decide +kernel) (by decide +kernel) (by decide +kernel) (by decide +kernel)
theorem wf_night : (wf l1 l2 l3 d).lookup ("night" : Str) = none := wf_none (by decide +kernel) (by decide +kernel) (by decide +kernel) (by decide +kernel)
theorem wf_move : (wf l1 l2 l3 d).lookup ("move" : Str) = none := wf_none (by decide +kernel) (by decide +kernel) (by decide +kernel) (by decide +kernel)
theorem wf_put : putF "today" (.int y) (wf l1 l2 l3 d) = wf l1 l2 l3 y := (put_past (by decide +kernel)).trans (congrArg _ ((put_past (by decide +kernel)).trans (congrArg _ ((put_past (by decide +kernel)).trans (congrArg _ put_here)))))
theorem wf_new : putF "today" (.int d) (putF "parcels" (.ref l3) (putF "inside" (.ref l2) (putF "boxes" (.ref l1) []))) = wf l1 l2 l3 d := by
  have e1 : putF "boxes" (.ref l1) [] = [(("boxes" : Str), V.ref l1)] := rfl
  have e2 : putF "inside" (.ref l2) [(("boxes" : Str), V.ref l1)] = [(("boxes" : Str), V.ref l1), ("inside", .ref l2)] := (put_past (by decide +kernel)).trans rfl
  have e3 : putF "parcels" (.ref l3) [(("boxes" : Str), V.ref l1), ("inside", .ref l2)] = [(("boxes" : Str), V.ref l1), ("inside", .ref l2), ("parcels", .ref l3)] := (put_past (by decide +kernel)).trans (congrArg _ ((put_past (by decide +kernel)).trans rfl))
  have e4 : putF "today" (.int d) [(("boxes" : Str), V.ref l1), ("inside", .ref l2), ("parcels", .ref l3)] = [(("boxes" : Str), V.ref l1), ("inside", .ref l2), ("parcels", .ref l3), ("today", .int d)] := (put_past (by decide +kernel)).trans (congrArg _ ((put_past (by decide +kernel)).trans (congrArg _ ((put_past (by decide +kernel)).trans rfl))))
  rw [e1, e2, e3, e4]; rfl
end
def optV : Option Nat → V
  | none => .non
  | some n => .int n
structure WS where
  w : Addr
  dx : Addr
  l1 : Addr
  l2 : Addr
  l3 : Addr
  sizes : List Int
  inside : List (Option Nat)
  parcels : List (Int × Int)
  today : Int
/-- a wall stands at s.w -/
structure WallAt (K : PySem.W.Frag) (H : Hp) (s : WS) : Prop where
  ob : H s.w = some (.ins (He.ga K "Wall") s.dx (wf s.l1 s.l2 s.l3 s.today))
  bx : H s.l1 = some (.lst (s.sizes.map V.int))
  is : H s.l2 = some (.lst (s.inside.map optV))
  ps : ∃ ts : List Addr, H s.l3 = some (.lst (ts.map V.ref)) ∧ ts.length = s.parcels.length ∧ ∀ (j : Nat) (t : Addr), ts[j]? = some t → H t = some (.tup [.int (s.parcels.getD j (0, 0)).1, .int (s.parcels.getD j (0, 0)).2])
  n12 : s.l1 ≠ s.l2
  n13 : s.l1 ≠ s.l3
  n23 : s.l2 ≠ s.l3
  len : s.inside.length = s.sizes.length
  l8 : s.sizes.length ≤ 8
  pl : s.parcels.length ≤ 1000
  nb : ∀ (j n : Nat), s.inside[j]? = some (some n) → n < s.parcels.length
theorem WallAt.mono {K : PySem.W.Frag} {H H' : Hp} {s : WS} (h : WallAt K H s) (e : Same H H') : WallAt K H' s :=
  ⟨e _ _ h.ob, e _ _ h.bx, e _ _ h.is, let ⟨ts, h1, h2, h3⟩ := h.ps; ⟨ts, e _ _ h1, h2, fun j t q => e _ _ (h3 j t q)⟩, h.n12, h.n13, h.n23, h.len, h.l8, h.pl, h.nb⟩
/-- all but the wall's own changing parts stands as it was -/
def Frm (s : WS) (H H' : Hp) : Prop := ∀ b o, H b = some o → b ≠ s.w → b ≠ s.l2 → b ≠ s.l3 → H' b = some o
/-- lists of sizes that make a wall; parcels' sizes -/
def OkW (ns : List Int) : Prop := 1 ≤ ns.length ∧ ns.length ≤ 8 ∧ ∀ x ∈ ns, 1 ≤ x ∧ x ≤ 9
def OkP (ns : List Int) : Prop := ∀ x ∈ ns, 1 ≤ x ∧ x ≤ 9
end Pw
namespace Pw
theorem putL {f : Str} {v : V} : ∀ {fs : List (Str × V)} {n : Nat}, fs.length ≤ n → (putF f v fs).length ≤ n + 1
  | [], n, h => by show 1 ≤ n + 1; omega
  | (g, x) :: r, n, h => by
    show (if g = f then (g, v) :: r else (g, x) :: putF f v r).length ≤ n + 1
    have h : r.length + 1 ≤ n := h
    by_cases c : g = f
    · rw [if_pos c]; show r.length + 1 ≤ n + 1; omega
    · rw [if_neg c]
      have ih := putL (f := f) (v := v) (fs := r) (n := n - 1) (by omega)
      show (putF f v r).length + 1 ≤ n + 1
      omega
theorem putL0 {f : Str} {v : V} : (putF f v []).length < 1000 := Nat.lt_of_le_of_lt (putL (Nat.le_refl 0)) (by decide)
theorem putL1 {f g : Str} {v u : V} : (putF f v (putF g u [])).length < 1000 := Nat.lt_of_le_of_lt (putL (putL (Nat.le_refl 0))) (by decide)
theorem putL2 {f g k : Str} {v u w : V} : (putF f v (putF g u (putF k w []))).length < 1000 := Nat.lt_of_le_of_lt (putL (putL (putL (Nat.le_refl 0)))) (by decide)
theorem wfL {l1 l2 l3 : Addr} {d : Int} : (wf l1 l2 l3 d).length < 1000 := by show 4 < 1000; decide
end Pw
namespace Pw
section
variable {K : PySem.W.Frag}
theorem kit_ii : PySem.W.kitOne K (.type "int") (.type "int") = some true := kit_ty (by decide +kernel)
theorem kit_ib : PySem.W.kitOne K (.type "int") (.type "bool") = some false := kit_ty (by decide +kernel)
theorem kit_il : PySem.W.kitOne K (.type "int") (.type "list") = some false := kit_ty (by decide +kernel)
theorem kit_is : PySem.W.kitOne K (.type "int") (.type "str") = some false := kit_ty (by decide +kernel)
theorem kit_ll : PySem.W.kitOne K (.type "list") (.type "list") = some true := kit_ty (by decide +kernel)
theorem kit_ls : PySem.W.kitOne K (.type "list") (.type "str") = some false := kit_ty (by decide +kernel)
theorem kit_ss : PySem.W.kitOne K (.type "str") (.type "str") = some true := kit_ty (by decide +kernel)
theorem kit_sl : PySem.W.kitOne K (.type "str") (.type "list") = some false := kit_ty (by decide +kernel)
theorem kit_tt : PySem.W.kitOne K (.type "tuple") (.type "tuple") = some true := kit_ty (by decide +kernel)
theorem kit_ns : PySem.W.kitOne K (.type "NoneType") (.type "str") = some false := kit_ty (by decide +kernel)
theorem kit_nl : PySem.W.kitOne K (.type "NoneType") (.type "list") = some false := kit_ty (by decide +kernel)
end
end Pw
namespace Pw
theorem leI {a b : Int} (h : a ≤ b) : a ≤ b := h
theorem ltI {a b : Int} (h : a < b) : a < b := h
theorem leN {a b : Nat} (h : a ≤ b) : a ≤ b := h
theorem ltN {a b : Nat} (h : a < b) : a < b := h
end Pw
namespace Pw
/-- a word at which the walk stops -/
structure Stop (P : Prop) : Prop where
  out : P
theorem insInt {xs : List Int} {n : Nat} {v : Int} : (xs.map V.int).take n ++ [V.int v] ++ (xs.map V.int).drop n = (xs.take n ++ [v] ++ xs.drop n).map V.int := by
  simp
theorem setInt {xs : List Int} {n : Nat} {v : Int} : (xs.map V.int).set n (V.int v) = (xs.set n v).map V.int := by
  rw [List.map_set]
theorem appInt {xs : List Int} {v : Int} : xs.map V.int ++ [V.int v] = (xs ++ [v]).map V.int := by
  simp
theorem getDlt {xs : List Int} {i : Nat} (hi : i < xs.length) : xs.getD i 0 = xs[i] := by rw [List.getD_eq_getElem?_getD, List.getElem?_eq_getElem hi]; rfl
theorem okGet {xs : List Int} (h : OkP xs) {i : Nat} (hi : i < xs.length) : 1 ≤ xs.getD i 0 ∧ xs.getD i 0 ≤ 9 := by
  rw [getDlt hi]
  exact h _ (List.getElem_mem hi)
theorem okSnoc {xs : List Int} {v : Int} (h : OkP xs) (h1 : 1 ≤ v ∧ v ≤ 9) : OkP (xs ++ [v]) := fun x hx => by
  rcases List.mem_append.mp hx with q | q
  · exact h x q
  · rw [List.mem_singleton.mp q]; exact h1
theorem okIns {xs : List Int} {v : Int} {n : Nat} (h : OkP xs) (h1 : 1 ≤ v ∧ v ≤ 9) : OkP (xs.take n ++ [v] ++ xs.drop n) := fun x hx => by
  rcases List.mem_append.mp hx with q | q
  · rcases List.mem_append.mp q with q | q
    · exact h x (List.mem_of_mem_take q)
    · rw [List.mem_singleton.mp q]; exact h1
  · exact h x (List.mem_of_mem_drop q)
theorem okSet {xs : List Int} {v : Int} {n : Nat} (h : OkP xs) (h1 : 1 ≤ v ∧ v ≤ 9) : OkP (xs.set n v) := fun x hx => by
  rcases List.mem_or_eq_of_mem_set hx with q | q
  · exact h x q
  · rw [q]; exact h1
theorem ixN_of {n : Nat} {i : Int} (h0 : 0 ≤ i) (h1 : i < n) : ixN n i = some i.toNat := by
  unfold ixN; rw [if_pos h0, if_pos h1]
end Pw
namespace Pw
/-! ### a statement, then the rest, with a word between them -/
@[irreducible] def CutG (t u : TS) (D : Ends) (σ : L2.St) (H : Hp) : Prop := Evl.tCut t u D σ H
def tCutP (t u : TS) : TS := fun D σ H => CutG t u D σ H
theorem tCutP_eq (t u : TS) : tCutP t u = Evl.tCut t u := by
  funext D σ H
  unfold tCutP CutG
  rfl
theorem pss_cutP {X : Cx} {st : Stmt} {rest : List Stmt} {t u : TS} (h1 : PS X st t) (h2 : PSs X rest u) : PSs X (st :: rest) (tCutP t u) := by
  rw [tCutP_eq]
  exact Evl.pss_cut h1 h2
theorem cut {t u : TS} {D : Ends} {σ : L2.St} {H : Hp} (Mid : L2.St → Hp → Prop) (h1 : t { D with nx := Mid } σ H) (h2 : ∀ σ' H', Mid σ' H' → u D σ' H') : CutG t u D σ H := by
  unfold CutG
  exact ⟨Mid, h1, h2⟩
end Pw
namespace Pw
theorem wallI {K : PySem.W.Frag} {H : Hp} {s : WS} (h : WallAt K H s) : WallAt K H s := h
end Pw
namespace Pw
theorem ifDT {c A B : Prop} [Decidable c] (h : c) (a : A) : if decide c = true then A else B := ifIs (decide_eq_true h) a
theorem ifDF {c A B : Prop} [Decidable c] (h : ¬ c) (b : B) : if decide c = true then A else B := ifNo (decide_eq_false h) b
theorem ifNT {c A B : Prop} [Decidable c] (h : ¬ c) (a : A) : if (!decide c) = true then A else B := ifIs (by rw [decide_eq_false h]; rfl) a
theorem ifNF {c A B : Prop} [Decidable c] (h : c) (b : B) : if (!decide c) = true then A else B := ifNo (by rw [decide_eq_true h]; rfl) b
end Pw
namespace Pw
theorem intEq {a b : Int} (h : a = b) : V.int a = V.int b := congrArg V.int h
theorem intNe {a b : Int} (h : a ≠ b) : ¬ V.int a = V.int b := fun e => h (V.int.inj e)
end Pw
namespace Pw
/-! ### rules at which the walk stops -/
@[irreducible] def rEqDI (K : PySem.W.Frag) : R2 := rEqD K
@[irreducible] def rNeDI (K : PySem.W.Frag) : R2 := rNeD K
@[irreducible] def rSortPO (K : PySem.W.Frag) : List V → Hp → VK → Prop := rSortedPO K
theorem op_eqDI {X : Cx} (hu : X.A.units + 64 < cLine) : OpR X (compareOp .Eq) (rEqDI X.K) := by unfold rEqDI; exact op_eqD hu
theorem op_neDI {X : Cx} (hu : X.A.units + 64 < cLine) : OpR X (compareOp .NotEq) (rNeDI X.K) := by unfold rNeDI; exact op_neD hu
theorem cr_sortPO {X : Cx} : CallR X (.builtin "sorted") (rSortPO X.K) := by unfold rSortPO; exact cr_sortedPO
end Pw
namespace Pw
/-! ### errors caught: what the classes say -/
def excCB (K : PySem.W.Frag) (D : Addr) : Bool :=
  He.eqO (PySem.W.findIn K (.ref D) "__getattribute__") (some (some (.builtin "BaseException.__getattribute__"))) && (He.eqO (PySem.W.findIn K (.ref D) "__getattr__") (some none) && (decide (PySem.W.subIn K (.ref D) (.type "BaseException") = some true) &&
  (PySem.W.hasDictIn K D && (He.eqO (PySem.W.findIn K (.ref D) "__class__") (some (some (.builtin "object.__class__"))) && (He.eqO (PySem.W.specialIn K (.builtin "object.__class__") "__get__") (some (some (.builtin "getset_descriptor.__get__"))) &&
  (decide (PySem.W.takesIn K (.builtin "object.__class__") = some true) && decide (PySem.W.mroIn K D (.type "object") = some true)))))))
theorem excC_of {K : PySem.W.Frag} {D : Addr} (h : excCB K D = true) : ExcC K D := by
  obtain ⟨h1, h⟩ := He.ba h
  obtain ⟨h2, h⟩ := He.ba h
  obtain ⟨h3, h⟩ := He.ba h
  obtain ⟨h4, h⟩ := He.ba h
  obtain ⟨h5, h⟩ := He.ba h
  obtain ⟨h6, h⟩ := He.ba h
  obtain ⟨h7, h8⟩ := He.ba h
  exact ⟨He.eqO_ok h1, He.eqO_ok h2, of_decide_eq_true h3, h4, He.eqO_ok h5, He.eqO_ok h6, of_decide_eq_true h7, of_decide_eq_true h8⟩
/-- whether an error of the class x is one of the class y -/
def isSub (x y : Str) : Bool := x == y || y == ("WallError" : Str)
def xsB (K : PySem.W.Frag) (l : List Str) : Bool := l.all fun x => excCB K (He.ga K x) && (decide (PySem.W.kitOne K (.ref (He.ga K x)) (.type "ValueError") = some true) &&
  l.all fun y => decide (PySem.W.kitOne K (.ref (He.ga K x)) (.ref (He.ga K y)) = some (isSub x y)) && decide (PySem.W.exmOne K (.ref (He.ga K x)) (.ref (He.ga K y)) = some (isSub x y)))
structure XS (K : PySem.W.Frag) (l : List Str) : Prop where
  b : xsB K l = true
namespace XS
variable {K : PySem.W.Frag} {l m : List Str}
theorem one (h : XS K l) {x : Str} (hx : x ∈ l) : ExcC K (He.ga K x) ∧ PySem.W.kitOne K (.ref (He.ga K x)) (.type "ValueError") = some true := by
  have q := List.all_eq_true.mp h.b x hx
  obtain ⟨h1, h2⟩ := He.ba q
  obtain ⟨h2, _⟩ := He.ba h2
  exact ⟨excC_of h1, of_decide_eq_true h2⟩
theorem two (h : XS K l) {x y : Str} (hx : x ∈ l) (hy : y ∈ l) : PySem.W.kitOne K (.ref (He.ga K x)) (.ref (He.ga K y)) = some (isSub x y) ∧ PySem.W.exmOne K (.ref (He.ga K x)) (.ref (He.ga K y)) = some (isSub x y) := by
  have q := List.all_eq_true.mp h.b x hx
  obtain ⟨_, q⟩ := He.ba q
  obtain ⟨_, q⟩ := He.ba q
  have q := List.all_eq_true.mp q y hy
  obtain ⟨h1, h2⟩ := He.ba q
  exact ⟨of_decide_eq_true h1, of_decide_eq_true h2⟩
theorem c (h : XS K l) {x : Str} (hx : x ∈ l) : ExcC K (He.ga K x) := (h.one hx).1
theorem v (h : XS K l) {x : Str} (hx : x ∈ l) : PySem.W.kitOne K (.ref (He.ga K x)) (.type "ValueError") = some true := (h.one hx).2
theorem kit (h : XS K l) {x y : Str} {b : Bool} (hx : x ∈ l) (hy : y ∈ l) (e : isSub x y = b) : PySem.W.kitOne K (.ref (He.ga K x)) (.ref (He.ga K y)) = some b := by rw [← e]; exact (h.two hx hy).1
theorem exm (h : XS K l) {x y : Str} {b : Bool} (hx : x ∈ l) (hy : y ∈ l) (e : isSub x y = b) : PySem.W.exmOne K (.ref (He.ga K x)) (.ref (He.ga K y)) = some b := by rw [← e]; exact (h.two hx hy).2
end XS
/-- isinstance(e, c), e the error that the suite holds, of the class cls -/
def rIsX (K : PySem.W.Frag) (cls : Value) (d : Option Addr) (a : Addr) : List V → Hp → VK → Prop := fun xs H Q => ∃ (D : Addr) (c : V) (cv : Value) (b : Bool), cls = .ref D ∧ d = none ∧ ExcC K D ∧ xs = [.ref a, c] ∧ (∀ u, RelV c u → u = cv) ∧ PySem.W.kitOne K (.ref D) cv = some b ∧ Q (.bl b) H
theorem call_isX {X : Cx} {a : Addr} {cls : Value} {d : Option Addr} {oe : Obj} {pn : List (Addr × Obj)} (hz : Zc cls d oe) (hf : ∃ vs, oe.data = .fields vs) : CallR (X.suite a ((a, oe) :: pn)) (.builtin "isinstance") (rIsX X.K cls d a) := by
  intro pins s σ H xs us Q I r h
  obtain ⟨D, c, cv, b, rfl, rfl, C, h⟩ := h
  exact call_isE C hz hf pins s σ H xs us Q I r ⟨c, cv, b, h⟩
def tTryAs (K : PySem.W.Frag) (c : Value) (i : Nat) (tb : WX → TS) (ts : Addr → Value → Option Addr → TS) (Wout : WX) : TS := fun D σ H => tb (wAs K c i ts Wout D) D σ H
def tTryOnly (K : PySem.W.Frag) (c : Value) (tb : WX → TS) (ts : Addr → Value → Option Addr → TS) (Wout : WX) : TS := fun D σ H => tb (wOnly K c ts Wout D) D σ H
def tTryMany (K : PySem.W.Frag) (l : List (Value × (Addr → Value → Option Addr → TS))) (tb : WX → TS) (Wout : WX) : TS := fun D σ H => tb (wMany K Wout D l) D σ H
abbrev wNone : WX := fun _ _ _ _ => False
abbrev wE (E : XK) : WX := fun cls d _ H => E cls d H
/-- C(e, ..) within a try -/
def tMakeS (C : Addr) (sp : Sp) (E : L2.St → XK) (t : TA) : TE := fun σ H Q => t σ H fun vs H1 => ∀ x dx, H1 x = none → H1 dx = none → dx ≠ x → sp (.ref x :: vs) (upd (upd H1 dx (.own x)) x (.ins C dx [])) (fun v H2 => v = .non ∧ Q (.ref x) H2) (E σ)
end Pw
namespace Pw
section
variable {X : Cx} {CX : CXT} {lv : Nat} {fI C : Addr} {gd : FuncData} {prs : List Str} {pr : Sp} {E : XK}
theorem makeAt {pins : List (Addr × Obj)} {σ : L2.St} {H : Hp} {st : Shared} {Q : VK} {us : List Value} {vs : List V} (M : Mk X.K C fI)
    (F : FnOk X.prog X.w X.K X.mg X.base CX lv fI gd prs pr) (room : Room (lv + 1) X.A) (bb : Binds X.K gd prs [])
    (pass : PassesAt CX X σ E) (I : Inv X pins σ H st) (rv : Vals vs us)
    (want : ∀ x dx, H x = none → H dx = none → dx ≠ x → pr (.ref x :: vs) (upd (upd H dx (.own x)) x (.ins C dx [])) (fun v H2 => v = .non ∧ Q (.ref x) H2) E) :
    wpAny (model X.prog X.w) X.A (call (.ref C) us) (EP X pins σ Q) X.xe st := by
  have want1 := want (st.heap.objs.size + 1) st.heap.objs.size (I.hok.fresh (Nat.le_succ _)) (I.hok.fresh (Nat.le_refl _))
    (Nat.ne_of_lt (Nat.lt_succ_self _))
  have J := Inv.made (C := C) I
  have rv1 : Vals (V.ref (st.heap.objs.size + 1) :: vs) (Value.ref (st.heap.objs.size + 1) :: us) := .cons rfl rv
  have len1 : (Value.ref (st.heap.objs.size + 1) :: us).length = prs.length :=
    rv1.length.symm.trans (F.len _ _ _ _ want1)
  have bb1 := bb _ (Value.ref (st.heap.objs.size + 1) :: us) J.kIn (by rw [List.append_nil]; exact len1)
  rw [List.append_nil] at bb1
  refine wpAny_call (make_map (f := fI) I.kIn M.makes M.init (beq_iff_eq.mp M.fn) ?_)
  refine codeAny_mono (F.run _ X.stack _ _ ⟨Value.ref (st.heap.objs.size + 1) :: us, []⟩ (Value.ref (st.heap.objs.size + 1) :: us) _ _ E
    (room.make C us []) (J.env0.make C us []) bb1 rv1 want1) fun res s2 got => ?_
  cases res with
  | error e => exact pass pins _ _ e s2 J got
  | ok fl =>
    cases fl with
    | ret u =>
      obtain ⟨v, H2, J2, ru, ev, q2⟩ := J.after got
      subst ev
      exact ⟨ru, ⟨V.ref (st.heap.objs.size + 1), H2, J2, rfl, q2⟩⟩
    | next => exact got.elim
    | brk => exact got.elim
    | cont => exact got.elim
theorem pe_makeS {EE : L2.St → XK} {x : Str} {p pos : Pos} {e : Expr} {es : List Expr} {t : TA} (M : Mk X.K C fI)
    (F : FnOk X.prog X.w X.K X.mg X.base CX lv fI gd prs pr) (room : Room (lv + 1) X.A) (hg : Gl X x) (hm : X.mg x = some (.ref C)) (bb : Binds X.K gd prs [])
    (pass : ∀ σ, PassesAt CX X σ (EE σ)) (ha : PA X (e :: es) t) (hdb : (x == ("__debug__" : Str)) = false := by decide)
    (he : starEach (e :: es) X.env = (false, eval e X.env) :: starEach es X.env := by rfl)
    (hpl : (backTo pos (starEach es X.env)).any (·.1) = false := by rfl) :
    PE X (.Call (.Name x p) (e :: es) [] pos) (tMakeS C pr EE t) := by
  refine ⟨fun pins s σ H Q I h => wpAny_Call_Name_kw (ld_glob I hg hm ?_ hdb)⟩
  refine PySem.W.callWith_K (h₀ := X.base) I.ok.mod.kin M.kp ?_ he hpl
  exact thn (ha.run pos pins s σ H _ I h) fun us s1 ⟨vs, H1, I1, r, q⟩ => ⟨I1.kIn, makeAt M F room bb (pass σ) I1 r q⟩
/-- o.m() within a try -/
theorem pe_methS0 {m : Str} {pos apos : Pos} {o : Expr} {ta : TE} {f : Addr} {fd : FuncData} {ps : List Str} {sp : Sp} {EE : L2.St → XK} {pl : Sem Bool} (he : PE X o ta) (c : Cls X.K C) (hm : Meth X.K C m f)
    (F : FnOk X.prog X.w X.K X.mg X.base CX lv f fd ps sp) (hr : Room lv X.A) (hb : Binds X.K fd ps []) (hx : ∀ σ, PassesAt CX X σ (EE σ))
    (ht : eval (.Call (.Attribute o m apos) [] [] pos) X.env = (do
      let ov ← eval o X.env
      standAt apos.atName
      let (f, first) ← holding [ov] (getMethod ov m pl)
      callWith pos f first (backTo pos (starEach [] X.env)) (backToKw pos (keywordEach [] X.env))) := by rfl) :
    PE X (.Call (.Attribute o m apos) [] [] pos) (tMethS C m sp EE ta tNil) := by
  refine ⟨fun pins s σ H Q I h => ?_⟩
  refine PySem.W.methodCall_KW (pl := pl) (thn (he.run pins s σ H _ I h) fun u s1 ⟨x, H1, I1, rx, a, dx, fs, ex, ea, l, q⟩ => ?_) ht
  subst ex
  obtain rfl : u = Value.ref a := rx
  refine getmeth_ok I1 ea c hm l ?_
  exact PySem.W.callWith_K0 (first := [.ref a]) I1.kIn hm.kp (run_fnS (us := [.ref a]) (vs := [.ref a]) F hr hb (hx σ) I1 (.cons rfl .nil) q)
end
end Pw
namespace Pw
theorem relRef {a : Addr} : ∀ u, RelV (V.ref a) u → u = Value.ref a := fun _ h => h
theorem relTy {t : String} : ∀ u, RelV (V.ty t) u → u = Value.type t := fun _ h => h
theorem qRefl {Q : VK} {H : Hp} {x : V} (h : Q (.bl true) H) : Q (.bl (decide (x = x))) H := by rw [decide_eq_true rfl]; exact h
theorem qDec {Q : VK} {H : Hp} {p : Prop} [Decidable p] (hp : p) (h : Q (.bl true) H) : Q (.bl (decide p)) H := by rw [decide_eq_true hp]; exact h
theorem inAll {l n : List Str} (h : (n.all fun x => l.contains x) = true) {x : Str} (hx : x ∈ n) : x ∈ l := List.contains_iff_mem.mp (List.all_eq_true.mp h x hx)
theorem listInt {H : Hp} {p : Addr} {ns : List Nat} (h : H p = some (.lst (ns.map fun i : Nat => V.int (i : Int)))) : H p = some (.lst ((ns.map fun i : Nat => (i : Int)).map V.int)) := by rw [h, List.map_map]; rfl
theorem repOpt {ns : List Int} : ns.map (fun _ => V.non) = (List.replicate ns.length (none : Option Nat)).map optV := by
  rw [List.map_replicate]
  induction ns with
  | nil => rfl
  | cons x r ih => rw [List.map_cons, List.length_cons, List.replicate_succ, ih]; rfl
theorem freeLen (l : List (Option Nat)) : ((List.range l.length).filter fun i => (l.getD i none).isNone).length ≤ l.length := by
  have h := List.length_filter_le (fun i => (l.getD i none).isNone) (List.range l.length)
  rw [List.length_range] at h; exact h
end Pw
namespace Pw
theorem intNon {i : Int} : ¬ V.int i = V.non := fun h => by cases h
theorem strNe {a b : Str} (h : a ≠ b) : ¬ V.str a = V.str b := fun e => h (V.str.inj e)
end Pw
namespace Pw
abbrev rInN (K : PySem.W.Frag) : R2 := fun x y H Q => ∃ p xs, y = .ref p ∧ (SqL K H p xs ∨ SqT K H p xs) ∧ flatV x = true ∧ xs.all flatV = true ∧ Q (.bl (!inV x xs)) H
theorem op_notInN {X : Cx} : OpR X (compareOp .NotIn) (rInN X.K) := op_notIn_seq
end Pw
namespace Pw
theorem cmulL {i j : Int} (h : -(2 ^ 64) < i ∧ i < 2 ^ 64) : CMul i j := .inl h
theorem cmulR {i j : Int} (h : -(2 ^ 64) < j ∧ j < 2 ^ 64) : CMul i j := .inr h
theorem cpow109 : CPow 10 9 := ⟨by decide, by decide, by decide⟩
end Pw
namespace Pw
theorem cxN_to {P : Program} {w : World} {outer : List Env} {H : Hp} {s s' : Shared} {E : XK} {u : Value} (c : L2N.CX P w outer H s E u s') : L2.CX P w outer H s E u s' := by
  obtain ⟨a, B, H', cls, d, e, fl, r⟩ := c
  exact ⟨a, B, H', cls, d, e, L2H.flyingZ_imp (fun _ z => z.zc) fl, r⟩
theorem passesN {X : Cx} {E : XK} (h : Passes (L2.CX X.prog X.w) X E) : Passes (L2N.CX X.prog X.w) X E := fun pins σ H s e s' I c => h pins σ H s e s' I (cxN_to c)
theorem passAtN {X : Cx} {W : WX} (tk : L2.Takes X W) (σ : L2.St) : PassesAt (L2N.CX X.prog X.w) X σ (WE W σ) := fun pins H s e s' I c => L2.passAt tk σ pins H s e s' I (cxN_to c)
end Pw
namespace Pw
theorem whileI {tc : TT} {tb : TS} {D : Ends} {σ : L2.St} {H : Hp} (Pv : Nat → L2.St → Hp → Prop) (h0 : ∃ m, Pv m σ H)
    (hs : ∀ m σ H, Pv m σ H → tc σ H fun b H1 => if b = true then ∃ N : L2.St → Hp → Prop, (∀ σ' H', N σ' H' → ∃ m', m' < m ∧ Pv m' σ' H') ∧ tb { D with nx := N, ct := N, bk := D.nx } σ H1 else D.nx σ H1) : WhileG tc tb D σ H := by
  unfold WhileG
  exact ⟨Pv, h0, hs⟩
end Pw
namespace Pw
abbrev rInY (K : PySem.W.Frag) : R2 := fun x y H Q => ∃ p xs, y = .ref p ∧ (SqL K H p xs ∨ SqT K H p xs) ∧ flatV x = true ∧ xs.all flatV = true ∧ Q (.bl (inV x xs)) H
theorem op_inY {X : Cx} : OpR X (compareOp .In) (rInY X.K) := op_in_seq
end Pw
local macro_rules | `(tactic| walk_at "arith") => `(tactic| first | omega | (simp only [List.length_map, List.length_append, List.length_cons, List.length_nil, List.length_take, List.length_replicate, List.length_range, Int.zero_add, Int.toNat_natCast] at *; omega))
local macro_rules | `(tactic| walk_at "same") => `(tactic| first
  | assumption
  | exact Same.refl _
  | (refine Pw.sameNew ?_ ?_; (walk_at "same"); (walk_at "free"))
  | (refine Pw.sameMut ?_ ?_; (walk_at "same"); (walk_at "free"))
  | (refine Same.trans (H1 := ?mid) ?s1 ?s2; (case s2 => assumption); (case s1 => walk_at "same")))
local macro_rules | `(tactic| walk_at "free") => `(tactic| first
  | assumption
  | (refine Pw.updFree (p := ?pp) (o := ?oo) ?f; (case f => assumption))
  | (refine Same.free (H' := ?mid) ?s ?f; (case f => assumption); (case s => walk_at "same")))
local macro_rules | `(tactic| walk_at "ne") => `(tactic| first
  | assumption
  | (apply Ne.symm; assumption)
  | (refine ne_of_none (H := ?hh) (o := ?oo) ?h1 ?h2; (case h2 => assumption); (case h1 => walk_at "heap"))
  | (apply Ne.symm; refine ne_of_none (H := ?hh) ?h1 ?h2; (case h2 => assumption); (case h1 => walk_at "heap")))
local macro_rules | `(tactic| walk_at "heap") => `(tactic| first
  | assumption
  | exact upd_same
  | (refine Pw.updOld (o := ?oo) ?h ?f; (case h => walk_at "heap"); (case f => walk_at "free"))
  | (refine Pw.updNe (o := ?oo) ?h ?n; (case h => walk_at "heap"); (case n => walk_at "ne"))
  | (refine Pw.sameGet (H := ?hh) (o := ?oo) ?s ?h; (case s => assumption); (case h => walk_at "heap")))
local macro_rules | `(tactic| walk_at "sq") => `(tactic| first
  | assumption
  | (refine Same.seq (H := ?hh) (xs := ?xx) ?s ?h; (case h => assumption); (case s => walk_at "same"))
  | (refine SqL.of (xs := ?xx) ?h; (case h => walk_at "heap"))
  | (refine SqT.of (xs := ?xx) ?h; (case h => walk_at "heap")))
local macro_rules | `(tactic| walk_at "wall") => `(tactic| first
  | assumption
  | (refine Pw.WallAt.mono (H := ?hh) ?h ?s; (case h => assumption); (case s => walk_at "same")))
local macro_rules | `(tactic| walk_at "leaf") => `(tactic| first
  | with_reducible rfl
  | with_reducible exact Pw.kit_ii
  | with_reducible exact Pw.relRef
  | with_reducible exact Pw.relTy
  | with_reducible exact Pw.kit_ib
  | with_reducible exact Pw.kit_ll
  | with_reducible exact Pw.kit_tt
  | with_reducible exact Pw.kit_ss
  | with_reducible exact Pw.kit_il
  | with_reducible exact Pw.kit_is
  | with_reducible exact Pw.kit_ls
  | with_reducible exact Pw.kit_sl
  | with_reducible exact Pw.kit_ns
  | with_reducible exact Pw.kit_nl
  | with_reducible assumption
  | (with_reducible refine Pw.leI ?_; (first | walk_at "arith" | exact Pw.szLe (by walk_at "arith") | exact Pw.szLt (by walk_at "arith") | decide))
  | (with_reducible refine Pw.ltI ?_; (first | walk_at "arith" | exact Pw.szLe (by walk_at "arith") | exact Pw.szLt (by walk_at "arith") | decide))
  | (with_reducible refine Pw.leN ?_; (first | walk_at "arith" | exact Pw.szLe (by walk_at "arith") | exact Pw.szLt (by walk_at "arith") | decide))
  | (with_reducible refine Pw.ltN ?_; (first | walk_at "arith" | exact Pw.szLe (by walk_at "arith") | exact Pw.szLt (by walk_at "arith") | decide))
  | rfl
  | assumption
  | with_reducible exact Pw.wf_boxes
  | with_reducible exact Pw.wf_inside
  | with_reducible exact Pw.wf_parcels
  | with_reducible exact Pw.wf_today
  | with_reducible exact Pw.wf_sizes
  | with_reducible exact Pw.wf_held
  | with_reducible exact Pw.wf_day
  | with_reducible exact Pw.wf_free
  | with_reducible exact Pw.wf_see
  | with_reducible exact Pw.wf_size_of
  | with_reducible exact Pw.wf_left
  | with_reducible exact Pw.wf_come
  | with_reducible exact Pw.wf_fetch
  | with_reducible exact Pw.wf_night
  | with_reducible exact Pw.wf_move
  | exact ClsV.ty _
  | exact ClsV.own _
  | with_reducible exact TyX.base (TyOf.int _)
  | with_reducible exact TyX.base (TyOf.bl _)
  | with_reducible exact TyX.base (TyOf.str _)
  | with_reducible exact TyX.base TyOf.non
  | (refine TyX.base (TyOf.lst (xs := ?xx) ?q); (case q => walk_at "heap"))
  | (refine TyX.base (TyOf.tup (xs := ?xx) ?q); (case q => walk_at "heap"))
  | with_reducible exact Pw.putL0
  | with_reducible exact Pw.putL1
  | with_reducible exact Pw.putL2
  | with_reducible exact Pw.wfL
  | walk_at "sq"
  | walk_at "heap"
  | walk_at "arith"
  | (with_reducible refine Pw.wallI ?h; (case h => walk_at "wall"))
  | (refine Or.inl ?q; (case q => walk_at "sq"))
  | (refine Or.inr ?q; (case q => walk_at "sq"))
  | (refine Exists.intro ?ww ?q; (case q => walk_at "sq"))
  | (refine Or.inl (And.intro rfl (Exists.intro ?ww ?q)); (case q => walk_at "sq"))
  | (refine Or.inl (And.intro ?r (Exists.intro ?ww ?q)); (case r => rfl); (case q => walk_at "sq"))
  | exact Pw.atInt (by walk_at "arith") (by walk_at "arith")
  | with_reducible exact Pw.cpow109
  | (with_reducible refine Pw.cmulL ?_; decide)
  | (with_reducible refine Pw.cmulR ?_; decide)
  | decide)
local macro_rules | `(tactic| walk_at "sure") => `(tactic| first | with_reducible assumption | with_reducible rfl | with_reducible exact Pw.intNon | (with_reducible refine Pw.strNe ?_; decide +kernel) | (with_reducible refine Pw.intEq ?_; walk_at "arith") | (with_reducible refine Pw.intNe ?_; walk_at "arith") | walk_at "arith")
local macro_rules | `(tactic| walk_at "if") => `(tactic| first
  | (with_reducible refine Pw.ifDT ?c ?_; (case c => walk_at "sure"))
  | (with_reducible refine Pw.ifDF ?c ?_; (case c => walk_at "sure"))
  | (with_reducible refine Pw.ifNT ?c ?_; (case c => walk_at "sure"))
  | (with_reducible refine Pw.ifNF ?c ?_; (case c => walk_at "sure")))
local macro_rules | `(tactic| walk_at "go") => `(tactic| repeat (first | apply Exists.intro | (refine And.intro ?l ?_; (case l => walk_at "leaf")) | walk_at "if"))
namespace Pw
/-- what the law draws -/
def drawn (ns : List Int) (k many : Int) : Int :=
  let cell := if 0 < (ns.length : Int) then ns.getD (k.fmod ns.length).toNat 0 else 7
  let s1 := (cell * 48271 + (k + 1) * 7919 + ns.length) % 2147483647
  let s2 := (s1 * s1 + k * 16807 + 11) % 2147483647
  (s2 * 48271 % 2147483647 / 16).fmod many
theorem drawn_in (ns : List Int) (k : Int) {many : Int} (h : 0 < many) : 0 ≤ drawn ns k many ∧ drawn ns k many < many := by
  unfold drawn
  exact ⟨Int.fmod_nonneg_of_pos _ h, Int.fmod_lt_of_pos _ h⟩
def sp_law_drawn (K : PySem.W.Frag) : Sp := fun vs H Q _ => ∃ (a : Addr) (ns : List Int) (k many : Int), vs = [.ref a, .int k, .int many] ∧ SqL K H a (ns.map V.int) ∧ ns.length ≤ 63 ∧ 0 < many ∧
  (0 ≤ drawn ns k many → drawn ns k many < many → Q (.int (drawn ns k many)) H)
theorem len_law_drawn {K : PySem.W.Frag} : ∀ vs H Q E, sp_law_drawn K vs H Q E → vs.length = 3 := by
  rintro vs H Q E ⟨_, _, _, _, rfl, _⟩
  rfl
def t_law_drawn (K : PySem.W.Frag) (E : XK) : TS :=
  tSeq (tAsg (tC (.int 7)) (gName 3))
    (tSeq (tIfS (tTest (tOp rGt (tCB (rLenSeq K) (tCons (tVar 0) tNil)) (tC (.int 0)))) (tAsg (tOp (rIxL K) (tVar 0) (tOp rModN (tVar 1) (tCB (rLenSeq K) (tCons (tVar 0) tNil)))) (gName 3)) (tNext))
    (tSeq (tAsg (tOp rModP (tOp rAddI (tOp rAddI (tOp rMulI (tVar 3) (tC (.int 48271))) (tOp rMulI (tOp rAddI (tVar 1) (tC (.int 1))) (tC (.int 7919)))) (tCB (rLenSeq K) (tCons (tVar 0) tNil))) (tC (.int 2147483647))) (gName 4))
    (tSeq (tAsg (tOp rModP (tOp rAddI (tOp rAddI (tOp rMulI (tVar 4) (tVar 4)) (tOp rMulI (tVar 1) (tC (.int 16807)))) (tC (.int 11))) (tC (.int 2147483647))) (gName 4))
    (tRet (tOp rModN (tOp rDivP (tOp rModP (tOp rMulI (tVar 4) (tC (.int 48271))) (tC (.int 2147483647))) (tC (.int 16))) (tVar 2))))))
theorem pure_law_drawn {K : PySem.W.Frag} (vs : List V) (H : Hp) (Q : VK) (E : XK) (h : sp_law_drawn K vs H Q E) : t_law_drawn K E { nx := fun _ H' => Q .non H', rt := Q } (start ["script", "k", "many", "cell", "stir"] vs) H := by
  obtain ⟨a, ns, k, many, rfl, hS, hl, hm, q⟩ := h
  have hd := drawn_in ns k hm
  have q := q hd.1 hd.2
  have fin : ∀ cell : Int, cell = (if 0 < (ns.length : Int) then ns.getD (k.fmod ns.length).toNat 0 else 7) → ∀ σ : L2.St, σ = [some (.ref a), some (.int k), some (.int many), some (.int cell), none] →
      (tSeq (tAsg (tOp rModP (tOp rAddI (tOp rAddI (tOp rMulI (tVar 3) (tC (.int 48271))) (tOp rMulI (tOp rAddI (tVar 1) (tC (.int 1))) (tC (.int 7919)))) (tCB (rLenSeq K) (tCons (tVar 0) tNil))) (tC (.int 2147483647))) (gName 4))
    (tSeq (tAsg (tOp rModP (tOp rAddI (tOp rAddI (tOp rMulI (tVar 4) (tVar 4)) (tOp rMulI (tVar 1) (tC (.int 16807)))) (tC (.int 11))) (tC (.int 2147483647))) (gName 4))
    (tRet (tOp rModN (tOp rDivP (tOp rModP (tOp rMulI (tVar 4) (tC (.int 48271))) (tC (.int 2147483647))) (tC (.int 16))) (tVar 2))))) { nx := fun _ H' => Q .non H', rt := Q } σ H := by
    intro cell ec σ es
    subst es
    have b1 := Int.emod_nonneg (cell * 48271 + (k + 1) * 7919 + ((ns.map V.int).length : Int)) (show (2147483647 : Int) ≠ 0 by decide)
    have b2 := Int.emod_lt_of_pos (cell * 48271 + (k + 1) * 7919 + ((ns.map V.int).length : Int)) (show (0 : Int) < 2147483647 by decide)
    walk_at "go"
    refine ⟨.inl ⟨by omega, by omega⟩, ?_⟩
    walk_at "go"
    refine ⟨⟨by decide, by decide⟩, ?_⟩
    walk_at "go"
    have e : drawn ns k many = ((((cell * 48271 + (k + 1) * 7919 + ns.length) % 2147483647 * ((cell * 48271 + (k + 1) * 7919 + ns.length) % 2147483647) + k * 16807 + 11) % 2147483647) * 48271 % 2147483647 / 16).fmod many := by
      unfold drawn; rw [← ec]
    rw [e] at q
    rw [List.length_map]
    exact q
  unfold t_law_drawn
  walk_at "go"
  refine ifD (fun h1 => ?_) (fun h1 => ?_)
  · walk_at "go"
    rw [List.length_map] at h1 ⊢
    have f1 := Int.fmod_nonneg_of_pos k h1
    have f2 := Int.fmod_lt_of_pos k h1
    refine ⟨atInt f1 f2, ?_⟩
    refine fin _ ?_ _ rfl
    rw [if_pos h1]
  · refine fin 7 ?_ _ rfl
    rw [List.length_map] at h1
    rw [if_neg h1]
end Pw
namespace Pw
/-! ### data that is compared as a whole -/
structure PlD (n : Nat) (d : PyData) : Prop where
  c : d.canLay0 = true
  dp : d.depth ≤ n
theorem plInt (i : Int) : PlD 0 (.int i) := ⟨by simp [PyData.canLay0], by simp [PyData.depth]⟩
theorem plBool (b : Bool) : PlD 0 (.bool b) := ⟨by simp [PyData.canLay0], by simp [PyData.depth]⟩
theorem plStr (x : Str) (h : PyData.strOk x = true) : PlD 0 (.str x) := ⟨by simp [PyData.canLay0, h], by simp [PyData.depth]⟩
theorem plNone : PlD 0 .none := ⟨by simp [PyData.canLay0], by simp [PyData.depth]⟩
theorem PlD.up {n m : Nat} {d : PyData} (h : PlD n d) (hm : n ≤ m) : PlD m d := ⟨h.c, Nat.le_trans h.dp hm⟩
theorem plAll {n : Nat} : ∀ {ds : List PyData}, (∀ d ∈ ds, PlD n d) → PyData.canLayAll0 ds = true ∧ PyData.depthAll ds ≤ n
  | [], _ => ⟨by simp [PyData.canLayAll0], by simp [PyData.depthAll]⟩
  | d :: r, h => by
    have a := h d List.mem_cons_self
    have b := plAll (ds := r) fun x hx => h x (List.mem_cons_of_mem _ hx)
    refine ⟨?_, ?_⟩
    · simp only [PyData.canLayAll0, a.c, b.1, Bool.and_self]
    · have a2 := a.dp
      simp only [PyData.depthAll]
      omega
theorem plList {n : Nat} {ds : List PyData} (h : ∀ d ∈ ds, PlD n d) : PlD (n + 1) (.list ds) := by
  have q := plAll h
  exact ⟨by simp only [PyData.canLay0]; exact q.1, by simp only [PyData.depth]; omega⟩
theorem plTup {n : Nat} {ds : List PyData} (h : ∀ d ∈ ds, PlD n d) : PlD (n + 1) (.tuple ds) := by
  have q := plAll h
  exact ⟨by simp only [PyData.canLay0]; exact q.1, by simp only [PyData.depth]; omega⟩
theorem PlD.ok {n : Nat} {d : PyData} (h : PlD n d) (hn : n ≤ 64) : SeqAt.shaped d = true := by
  unfold SeqAt.shaped
  rw [h.c, decide_eq_true (Nat.le_trans h.dp hn)]; rfl
theorem PlD.eq {n : Nat} {d : PyData} (h : PlD n d) : PyData.eqv d d = true := SeqAt.eqv_refl d h.c
theorem dpAllMap {α : Type} {K : PySem.W.Frag} {H : Hp} {f : α → V} {g : α → PyData} (h : ∀ x, Dp K H (f x) (g x)) : ∀ xs : List α, DpAll K H (xs.map f) (xs.map g)
  | [] => .nil
  | x :: r => .cons (h x) (dpAllMap h r)
theorem dpInts {K : PySem.W.Frag} {H : Hp} {a : Addr} {ns : List Int} (h : SqL K H a (ns.map V.int)) : Dp K H (.ref a) (.list (ns.map PyData.int)) := .lst h (dpAllMap (fun x => .int x) ns)
theorem plInts (ns : List Int) : PlD 1 (.list (ns.map PyData.int)) := plList fun d hd => by
  obtain ⟨x, _, rfl⟩ := List.mem_map.mp hd
  exact plInt x
theorem plMem1 {n : Nat} {a : PyData} (h : PlD n a) : ∀ d ∈ [a], PlD n d := fun d hd => by
  rw [List.mem_singleton.mp hd]; exact h
theorem plCons {n : Nat} {a : PyData} {r : List PyData} (h : PlD n a) (h2 : ∀ d ∈ r, PlD n d) : ∀ d ∈ a :: r, PlD n d := fun d hd => by
  rcases List.mem_cons.mp hd with e | e
  · rw [e]; exact h
  · exact h2 d e
theorem plNil {n : Nat} : ∀ d ∈ ([] : List PyData), PlD n d := fun d hd => by cases hd
/-- two lists of ints in a list -/
theorem dpTwo {K : PySem.W.Frag} {H : Hp} {l a b : Addr} {xs ys : List Int} (h : SqL K H l [.ref a, .ref b]) (ha : SqL K H a (xs.map V.int)) (hb : SqL K H b (ys.map V.int)) :
    Dp K H (.ref l) (.list [.list (xs.map PyData.int), .list (ys.map PyData.int)]) := .lst h (.cons (dpInts ha) (.cons (dpInts hb) .nil))
theorem plTwo (xs ys : List Int) : PlD 2 (.list [.list (xs.map PyData.int), .list (ys.map PyData.int)]) := plList (plCons (plInts xs) (plCons (plInts ys) plNil))
/-- != of two such -/
theorem neTwo {K : PySem.W.Frag} {H : Hp} {l l' a b a' b' : Addr} {xs ys : List Int} {Q : VK} (h : SqL K H l [.ref a, .ref b]) (ha : SqL K H a (xs.map V.int)) (hb : SqL K H b (ys.map V.int))
    (h' : SqL K H l' [.ref a', .ref b']) (ha' : SqL K H a' (xs.map V.int)) (hb' : SqL K H b' (ys.map V.int)) (k : Q (.bl false) H) : rNeDI K (.ref l) (.ref l') H Q := by
  unfold rNeDI
  exact ⟨_, _, dpTwo h ha hb, dpTwo h' ha' hb', (plTwo xs ys).ok (by decide), (plTwo xs ys).ok (by decide), by rw [(plTwo xs ys).eq]; exact k⟩
theorem eqTwo {K : PySem.W.Frag} {H : Hp} {l l' a b a' b' : Addr} {xs ys : List Int} {Q : VK} (h : SqL K H l [.ref a, .ref b]) (ha : SqL K H a (xs.map V.int)) (hb : SqL K H b (ys.map V.int))
    (h' : SqL K H l' [.ref a', .ref b']) (ha' : SqL K H a' (xs.map V.int)) (hb' : SqL K H b' (ys.map V.int)) (k : Q (.bl true) H) : rEqDI K (.ref l) (.ref l') H Q := by
  unfold rEqDI
  exact ⟨_, _, dpTwo h ha hb, dpTwo h' ha' hb', (plTwo xs ys).ok (by decide), (plTwo xs ys).ok (by decide), by rw [(plTwo xs ys).eq]; exact k⟩
end Pw
namespace Pw
section
variable {K : PySem.W.Frag} {H : Hp} {x y : V} {d : PyData} {n : Nat} {Q : VK}
theorem eqSame (h : Dp K H x d) (h' : Dp K H y d) (pl : PlD n d) (k : Q (.bl true) H) (hn : n ≤ 64 := by decide) : rEqDI K x y H Q := by
  unfold rEqDI
  exact ⟨_, _, h, h', pl.ok hn, pl.ok hn, by rw [pl.eq]; exact k⟩
theorem neSame (h : Dp K H x d) (h' : Dp K H y d) (pl : PlD n d) (k : Q (.bl false) H) (hn : n ≤ 64 := by decide) : rNeDI K x y H Q := by
  unfold rNeDI
  exact ⟨_, _, h, h', pl.ok hn, pl.ok hn, by rw [pl.eq]; exact k⟩
theorem dpBools {a : Addr} (bs : List Bool) (h : SqL K H a (bs.map V.bl)) : Dp K H (.ref a) (.list (bs.map PyData.bool)) := .lst h (dpAllMap (fun x => .bl x) bs)
theorem plBools (bs : List Bool) : PlD 1 (.list (bs.map PyData.bool)) := plList fun d hd => by
  obtain ⟨x, _, rfl⟩ := List.mem_map.mp hd
  exact plBool x
theorem dpPair {p : Addr} {u v : V} {du dv : PyData} (h : H p = some (.tup [u, v])) (hu : Dp K H u du) (hv : Dp K H v dv) : Dp K H (.ref p) (.tuple [du, dv]) := .tup (SqT.of h) (.cons hu (.cons hv .nil))
theorem plPair {du dv : PyData} (hu : PlD n du) (hv : PlD n dv) : PlD (n + 1) (.tuple [du, dv]) := plTup (plCons hu (plCons hv plNil))
theorem dpNil {p : Addr} (h : SqL K H p []) : Dp K H (.ref p) (.list []) := .lst h .nil
theorem plNilL : PlD 1 (.list []) := plList plNil
end
theorem WallAt.lstUpd {K : PySem.W.Frag} {H : Hp} {s : WS} {a : Addr} {xs ys : List V} (h : WallAt K H s) (ha : H a = some (.lst xs)) (n1 : a ≠ s.l1) (n2 : a ≠ s.l2) (n3 : a ≠ s.l3) : WallAt K (upd H a (.lst ys)) s :=
  ⟨by rw [upd_ne (ne_of h.ob ha (by intro q; cases q))]; exact h.ob, by rw [upd_ne (Ne.symm n1)]; exact h.bx, by rw [upd_ne (Ne.symm n2)]; exact h.is,
   let ⟨ts, h1, h2, h3⟩ := h.ps; ⟨ts, by rw [upd_ne (Ne.symm n3)]; exact h1, h2, fun j t q => by rw [upd_ne (ne_of (h3 j t q) ha (by intro q; cases q))]; exact h3 j t q⟩, h.n12, h.n13, h.n23, h.len, h.l8, h.pl, h.nb⟩
end Pw
namespace Pw
/-! ### lists of pairs of ints -/
def pairAt (H : Hp) (v : V) : Int × Int := match v with
  | .ref t => (match H t with
    | some (.tup [.int i, .int j]) => (i, j)
    | _ => (0, 0))
  | _ => (0, 0)
theorem pairAt_of {H : Hp} {t : Addr} {i j : Int} (h : H t = some (.tup [.int i, .int j])) : pairAt H (.ref t) = (i, j) := by
  unfold pairAt
  simp only [h]
def IsPair (H : Hp) (y : V) : Prop := ∃ (t : Addr) (i j : Int), y = V.ref t ∧ H t = some (.tup [.int i, .int j])
theorem IsPair.at_ {H : Hp} {y : V} (h : IsPair H y) : ∃ t, y = V.ref t ∧ H t = some (.tup [.int (pairAt H y).1, .int (pairAt H y).2]) := by
  obtain ⟨t, i, j, rfl, e⟩ := h
  exact ⟨t, rfl, by rw [pairAt_of e]; exact e⟩
theorem IsPair.keep {H H' : Hp} {y : V} (h : IsPair H y) (s : ∀ t i j, H t = some (.tup [.int i, .int j]) → H' t = some (.tup [.int i, .int j])) : IsPair H' y ∧ pairAt H' y = pairAt H y := by
  obtain ⟨t, i, j, rfl, e⟩ := h
  exact ⟨⟨t, i, j, rfl, s _ _ _ e⟩, by rw [pairAt_of e, pairAt_of (s _ _ _ e)]⟩
/-- a list of pairs stands at p -/
structure PairL (H : Hp) (p : Addr) (ps : List (Int × Int)) : Prop where
  ex : ∃ ys : List V, H p = some (.lst ys) ∧ (∀ y ∈ ys, IsPair H y) ∧ ys.map (pairAt H) = ps
theorem mapKeep {H H' : Hp} {ys : List V} (h : ∀ y ∈ ys, IsPair H y) (s : ∀ t i j, H t = some (.tup [.int i, .int j]) → H' t = some (.tup [.int i, .int j])) : (∀ y ∈ ys, IsPair H' y) ∧ ys.map (pairAt H') = ys.map (pairAt H) :=
  ⟨fun y hy => ((h y hy).keep s).1, List.map_congr_left fun y hy => ((h y hy).keep s).2⟩
theorem PairL.mono {H H' : Hp} {p : Addr} {ps : List (Int × Int)} (h : PairL H p ps) (s : Same H H') : PairL H' p ps := by
  obtain ⟨ys, h1, h2, h3⟩ := h.ex
  have q := mapKeep (H' := H') h2 fun t i j e => s _ _ e
  exact ⟨ys, s _ _ h1, q.1, by rw [q.2, h3]⟩
theorem PairL.at_ {H : Hp} {p : Addr} {ps : List (Int × Int)} (h : PairL H p ps) {z : Int} (h0 : 0 ≤ z) (h1 : z < ps.length) :
    ∃ ys t, H p = some (.lst ys) ∧ atI ys z = some (V.ref t) ∧ H t = some (.tup [.int (ps.getD z.toNat (0, 0)).1, .int (ps.getD z.toNat (0, 0)).2]) := by
  obtain ⟨ys, e1, e2, e3⟩ := h.ex
  have hl : ys.length = ps.length := by rw [← e3, List.length_map]
  have hz : z.toNat < ys.length := by omega
  obtain ⟨t, ht, hh⟩ := (e2 ys[z.toNat] (List.getElem_mem hz)).at_
  refine ⟨ys, t, e1, at_of (j := z.toNat) (by omega) (by rw [List.getElem?_eq_getElem hz, ht]), ?_⟩
  have e : ps.getD z.toNat (0, 0) = pairAt H ys[z.toNat] := by
    rw [← e3, List.getD_eq_getElem?_getD, List.getElem?_map, List.getElem?_eq_getElem hz]; rfl
  rw [e]; exact hh
theorem PairL.len {H : Hp} {p : Addr} {ps : List (Int × Int)} (h : PairL H p ps) : ∃ ys, H p = some (.lst ys) ∧ ys.length = ps.length := by
  obtain ⟨ys, e1, _, e3⟩ := h.ex
  exact ⟨ys, e1, by rw [← e3, List.length_map]⟩
theorem PairL.nil {H : Hp} {p : Addr} (h : H p = some (.lst [])) : PairL H p [] := ⟨[], h, fun y hy => (by cases hy), rfl⟩
theorem PairL.snoc {H : Hp} {D t : Addr} {ps : List (Int × Int)} {i j : Int} (h : PairL H D ps) (ht : H t = some (.tup [.int i, .int j])) :
    ∃ ys, H D = some (.lst ys) ∧ ys.length = ps.length ∧ PairL (upd H D (.lst (ys ++ [V.ref t]))) D (ps ++ [(i, j)]) := by
  obtain ⟨ys, e1, e2, e3⟩ := h.ex
  refine ⟨ys, e1, by rw [← e3, List.length_map], ?_⟩
  have s : ∀ (t' : Addr) (i j : Int), H t' = some (.tup [.int i, .int j]) → upd H D (.lst (ys ++ [V.ref t])) t' = some (.tup [.int i, .int j]) := fun t' i j e => by
    rw [upd_ne (ne_of e e1 (by intro q; cases q))]; exact e
  have q := mapKeep (H' := upd H D (.lst (ys ++ [V.ref t]))) e2 s
  refine ⟨ys ++ [V.ref t], upd_same, fun y hy => ?_, ?_⟩
  · rcases List.mem_append.mp hy with z | z
    · exact q.1 y z
    · rw [List.mem_singleton.mp z]; exact ⟨t, i, j, rfl, s _ _ _ ht⟩
  · rw [List.map_append, q.2, e3]
    show ps ++ [pairAt _ (V.ref t)] = _
    rw [pairAt_of (s _ _ _ ht)]
def LexLe (p q : Int × Int) : Prop := p.1 < q.1 ∨ (p.1 = q.1 ∧ p.2 ≤ q.2)
/-- sorted(ps) -/
theorem sortedPairs {K : PySem.W.Frag} {H : Hp} {Q : VK} {a : Addr} {ps : List (Int × Int)} (h : PairL H a ps)
    (k : ∀ (ps' : List (Int × Int)) (p : Addr) (H' : Hp), ps'.Perm ps → ps'.Pairwise LexLe → Same H H' → H p = none → PairL H' p ps' → Q (.ref p) H') : rSortPO K [.ref a] H Q := by
  unfold rSortPO
  obtain ⟨ys, e1, e2, e3⟩ := h.ex
  refine ⟨a, ys, pairAt H, rfl, SqL.of e1, fun x hx => (e2 x hx).at_, fun zs p hs hst hp => ?_⟩
  have hperm : zs.Perm ys := hst.perm
  have s : Same H (upd H p (.lst zs)) := sameNew (Same.refl _) hp
  have hz : ∀ y ∈ zs, IsPair H y := fun y hy => e2 y (hperm.mem_iff.mp hy)
  have q := mapKeep (H' := upd H p (.lst zs)) hz fun t i j e => s _ _ e
  refine k (zs.map (pairAt H)) p _ (by rw [← e3]; exact hperm.map _) ?_ s hp ⟨zs, upd_same, q.1, q.2⟩
  rw [List.pairwise_map]
  refine List.Pairwise.imp (fun {x y} hxy => ?_) hs
  have := SrtO.lexB_no.mp hxy
  unfold LexLe
  omega
section
variable {K : PySem.W.Frag} {tt : TT} {te : TE} {vs : List Nat} {j : Nat} {σ : L2.St} {H1 : Hp} {D : Addr} {Qd : Hp → Prop}
/-- [(f(i), g(i)) for i in range(n) if p(i)] -/
theorem lcPairs {lo : Int} {n : Nat} (p : Nat → Bool) (f g : Nat → Int) (hD : H1 D = none) (hlen : n ≤ 50000) (hw : ∀ x, wipe ((wipe σ vs).set j (some x)) vs = wipe σ vs)
    (ht : ∀ (i : Nat) H', i < n → Same H1 H' → ∀ T : Bool → Hp → Prop, (∀ H'', Same H' H'' → T (p i) H'') → tt ((wipe σ vs).set j (some (.int (lo + i)))) H' T)
    (he : ∀ (i : Nat) H', i < n → p i = true → Same H1 H' → ∀ Qv : VK, (∀ t H'', Same H' H'' → H'' t = some (.tup [.int (f i), .int (g i)]) → Qv (.ref t) H'') → te ((wipe σ vs).set j (some (.int (lo + i)))) H' Qv)
    (hd : ∀ H', Same H1 H' → PairL H' D (((List.range n).filter p).map fun i => (f i, g i)) → Qd H') :
    ∃ W : Nat → Nat → Hp → Prop, (∃ m, W 0 m (upd H1 D (.lst []))) ∧ ∀ i m H, W i m H →
      ((Itr lo n).stop i H ∧ Qd H) ∨ ((Itr lo n).go i H ∧ ∃ Nx : Hp → Prop, (∀ H', Nx H' → ∃ m', m' < m ∧ W (i + 1) m' H') ∧ ∀ x H', (Itr lo n).yld i H x H' → gName j x (wipe σ vs) H' fun σ2 H2 => wipe σ2 vs = wipe σ vs ∧ tt σ2 H2 fun b H3 =>
        if b = true then te σ2 H3 fun y H4 => ∃ acc, H4 D = some (.lst acc) ∧ acc.length < sizeLine ∧ Nx (upd H4 D (.lst (acc ++ [y]))) else Nx H3) := by
  refine lc_range (lo := lo) (n := n) (fun i H' => Same H1 H' ∧ PairL H' D (((List.range i).filter p).map fun i => (f i, g i))) ⟨sameNew (Same.refl _) hD, PairL.nil upd_same⟩ ?_ ?_
  · rintro i H' hi ⟨s, hL⟩
    refine ⟨hw _, ?_⟩
    refine ht i H' hi s _ fun H3 s3 => ?_
    have e : ((List.range (i + 1)).filter p).map (fun i => (f i, g i)) = ((List.range i).filter p).map (fun i => (f i, g i)) ++ (if p i = true then [(f i, g i)] else []) := by
      rw [List.range_succ, List.filter_append, List.map_append]
      congr 1
      by_cases c : p i = true
      · rw [if_pos c]; simp [c]
      · rw [if_neg c]; simp [c]
    refine ifB (fun c => ?_) (fun c => ?_)
    · refine he i H3 hi c (s.trans s3) _ fun t H4 s4 ht4 => ?_
      rw [if_pos c] at e
      obtain ⟨ys, y1, y2, y3⟩ := (hL.mono (s3.trans s4)).snoc ht4
      refine ⟨ys, y1, ?_, sameMut (s.trans (s3.trans s4)) hD, by rw [e]; exact y3⟩
      have q1 : (((List.range i).filter p).map fun i => (f i, g i)).length ≤ i := by
        rw [List.length_map]
        exact Nat.le_trans (List.length_filter_le _ _) (by rw [List.length_range]; omega)
      exact szLt (by omega)
    · rw [if_neg (by rw [c]; exact Bool.false_ne_true), List.append_nil] at e
      exact ⟨s.trans s3, by rw [e]; exact hL.mono s3⟩
  · rintro H' ⟨s, hL⟩
    exact hd H' s hL
end
/-! ### how many are as great -/
def cntGe (xs : List Int) (s : Int) : Nat := (xs.filter fun x => decide (s ≤ x)).length
theorem cntGe_cons (x : Int) (xs : List Int) (s : Int) : cntGe (x :: xs) s = (if s ≤ x then 1 else 0) + cntGe xs s := by
  unfold cntGe
  by_cases h : s ≤ x
  · simp [h]; omega
  · simp [h]
theorem cntGe_perm {xs ys : List Int} (h : xs.Perm ys) (s : Int) : cntGe xs s = cntGe ys s := (h.filter _).length_eq
theorem cntGe_zero {xs : List Int} {s : Int} (h : ∀ y ∈ xs, y < s) : cntGe xs s = 0 := by
  induction xs with
  | nil => rfl
  | cons x r ih =>
    rw [cntGe_cons, if_neg (by have := h x List.mem_cons_self; omega), ih fun y hy => h y (List.mem_cons_of_mem _ hy)]
theorem cntGe_le (xs : List Int) (s : Int) : cntGe xs s ≤ xs.length := List.length_filter_le _ _
theorem cntGe_all {xs : List Int} {s : Int} (h : ∀ y ∈ xs, s ≤ y) : cntGe xs s = xs.length := by
  induction xs with
  | nil => rfl
  | cons x r ih =>
    rw [cntGe_cons, if_pos (h x List.mem_cons_self), ih fun y hy => h y (List.mem_cons_of_mem _ hy), List.length_cons]; omega
/-- in a falling list the first of those as great as s -/
theorem desc_cnt : ∀ {A : List Int} {s : Int}, A.Pairwise (fun x y => y ≤ x) → ∀ (k : Nat) (hk : k < A.length), s ≤ A[k] ↔ k < cntGe A s
  | [], _, _, k, hk => absurd hk (Nat.not_lt_zero _)
  | x :: r, s, h, k, hk => by
    obtain ⟨h1, h2⟩ := List.pairwise_cons.mp h
    rw [cntGe_cons]
    by_cases c : s ≤ x
    · rw [if_pos c]
      cases k with
      | zero => show s ≤ x ↔ _; exact ⟨fun _ => by omega, fun _ => c⟩
      | succ k =>
        have hk' : k < r.length := Nat.lt_of_succ_lt_succ hk
        have ih := desc_cnt (s := s) h2 k hk'
        show s ≤ r[k] ↔ _
        rw [ih]; omega
    · rw [if_neg c, cntGe_zero (fun y hy => by have := h1 y hy; omega)]
      constructor
      · intro q
        cases k with
        | zero => exact absurd q c
        | succ k =>
          have := h1 _ (List.getElem_mem (Nat.lt_of_succ_lt_succ hk))
          have q : s ≤ r[k]'(Nat.lt_of_succ_lt_succ hk) := q
          omega
      · intro q; omega
theorem fallen_le {A B : List Int} (hA : A.Pairwise fun x y => y ≤ x) (hB : B.Pairwise fun x y => y ≤ x) (h : ∀ s, 1 ≤ s → s ≤ 9 → cntGe A s ≤ cntGe B s) (hr : ∀ x ∈ A, 1 ≤ x ∧ x ≤ 9) (k : Nat) (hk : k < A.length) :
    ∃ hk' : k < B.length, A[k] ≤ B[k] := by
  have hs := hr _ (List.getElem_mem hk)
  have c1 := (desc_cnt (s := A[k]) hA k hk).mp (Int.le_refl _)
  have c2 := h A[k] hs.1 hs.2
  have c3 := cntGe_le B A[k]
  have hk' : k < B.length := by omega
  exact ⟨hk', (desc_cnt hB k hk').mpr (by omega)⟩
/-! ### a fitting -/
def Boxes (sizes parcels fs : List Int) : Prop := fs.length = parcels.length ∧ (∀ k < parcels.length, 0 ≤ fs.getD k 0 ∧ fs.getD k 0 < sizes.length ∧ parcels.getD k 0 ≤ sizes.getD (fs.getD k 0).toNat 0) ∧ fs.Nodup
def Many (sizes parcels : List Int) (s : Int) : Prop := 1 ≤ s ∧ s ≤ 9 ∧ cntGe sizes s < cntGe parcels s
/-- the falling order of xs, with the places -/
structure Fall (xs : List Int) (ps : List (Int × Int)) : Prop where
  perm : ps.Perm ((List.range xs.length).map fun i => (0 - xs.getD i 0, (i : Int)))
  srt : ps.Pairwise LexLe
namespace Fall
variable {xs : List Int} {ps : List (Int × Int)} (F : Fall xs ps)
include F
theorem len : ps.length = xs.length := by rw [F.perm.length_eq]; simp
theorem item {j : Nat} (hj : j < ps.length) : ∃ i : Nat, i < xs.length ∧ (ps.getD j (0, 0)).2 = (i : Int) ∧ (ps.getD j (0, 0)).1 = 0 - xs.getD i 0 := by
  have e : ps.getD j (0, 0) = ps[j] := by rw [List.getD_eq_getElem?_getD, List.getElem?_eq_getElem hj]; rfl
  have m := F.perm.mem_iff.mp (List.getElem_mem hj)
  obtain ⟨i, hi, q⟩ := List.mem_map.mp m
  exact ⟨i, List.mem_range.mp hi, by rw [e, ← q], by rw [e, ← q]⟩
theorem places : (ps.map (·.2)).Perm ((List.range xs.length).map fun i : Nat => (i : Int)) := by
  have q := F.perm.map (·.2)
  rw [List.map_map] at q
  exact q
theorem nodup : (ps.map (·.2)).Nodup := by
  refine F.places.nodup_iff.mpr ?_
  refine List.Pairwise.map _ (R := (· ≠ ·)) (fun a b h e => h (by omega)) List.nodup_range
theorem vals : (ps.map fun p => 0 - p.1).Perm xs := by
  have q := F.perm.map (fun p => 0 - p.1)
  rw [List.map_map] at q
  have e : (List.range xs.length).map ((fun p : Int × Int => 0 - p.1) ∘ fun i => (0 - xs.getD i 0, (i : Int))) = xs := by
    refine List.ext_getElem (by simp) fun i h1 h2 => ?_
    rw [List.getElem_map, List.getElem_range]
    show 0 - (0 - xs.getD i 0) = _
    rw [getDlt h2]; omega
  rw [e] at q
  exact q
theorem falls : (ps.map fun p => 0 - p.1).Pairwise fun x y => y ≤ x := by
  rw [List.pairwise_map]
  exact F.srt.imp fun {x y} h => by unfold LexLe at h; omega
end Fall
/-- what the two orders tell: the k-th greatest parcel goes into the k-th greatest box -/
theorem fall_fits {sizes parcels : List Int} {po pf : List (Int × Int)} (O : Fall parcels po) (F : Fall sizes pf) (okp : OkP parcels) (h : ∀ s, 1 ≤ s → s ≤ 9 → cntGe parcels s ≤ cntGe sizes s) {j : Nat} (hj : j < po.length) :
    ∃ (i b : Nat), i < parcels.length ∧ b < sizes.length ∧ j < pf.length ∧ (po.getD j (0, 0)).2 = (i : Int) ∧ (pf.getD j (0, 0)).2 = (b : Int) ∧ parcels.getD i 0 ≤ sizes.getD b 0 := by
  obtain ⟨i, hi, e1, e2⟩ := O.item hj
  obtain ⟨hk, hle⟩ := fallen_le O.falls F.falls (fun s h1 h2 => by rw [cntGe_perm O.vals, cntGe_perm F.vals]; exact h s h1 h2) (fun x hx => okp x (O.vals.mem_iff.mp hx)) j (by rw [List.length_map]; exact hj)
  have hj2 : j < pf.length := by rw [List.length_map] at hk; exact hk
  obtain ⟨b, hb, f1, f2⟩ := F.item hj2
  refine ⟨i, b, hi, hb, hj2, e1, f1, ?_⟩
  rw [List.getElem_map, List.getElem_map] at hle
  have e : po.getD j (0, 0) = po[j] := by rw [List.getD_eq_getElem?_getD, List.getElem?_eq_getElem hj]; rfl
  have f : pf.getD j (0, 0) = pf[j] := by rw [List.getD_eq_getElem?_getD, List.getElem?_eq_getElem hj2]; rfl
  rw [e] at e2
  rw [f] at f2
  omega
/-- the boxes found so far -/
def Found (po pf : List (Int × Int)) (n i : Nat) (fs : List Int) : Prop := fs.length = n ∧ ∀ j < i, fs.getD (po.getD j (0, 0)).2.toNat 0 = (pf.getD j (0, 0)).2
theorem found_set {xs : List Int} {po pf : List (Int × Int)} (O : Fall xs po) {i : Nat} {fs : List Int} (hi : i < po.length) (h : Found po pf xs.length i fs) : Found po pf xs.length (i + 1) (fs.set (po.getD i (0, 0)).2.toNat (pf.getD i (0, 0)).2) := by
  obtain ⟨hl, ha⟩ := h
  obtain ⟨a, ha1, ha2, _⟩ := O.item hi
  refine ⟨by rw [List.length_set]; exact hl, fun j hj => ?_⟩
  obtain ⟨b, hb1, hb2, _⟩ := O.item (j := j) (by omega)
  by_cases c : j = i
  · subst c
    rw [List.getD_eq_getElem?_getD, List.getElem?_set_self (by rw [ha2]; omega)]; rfl
  · have ne : (po.getD i (0, 0)).2.toNat ≠ (po.getD j (0, 0)).2.toNat := fun e => by
      have nd := O.nodup
      have hj' : j < (po.map (·.2)).length := by rw [List.length_map]; omega
      have hi' : i < (po.map (·.2)).length := by rw [List.length_map]; omega
      have q : (po.map (·.2))[i] = (po.map (·.2))[j] := by
        rw [List.getElem_map, List.getElem_map]
        have e1 : po.getD i (0, 0) = po[i] := by rw [List.getD_eq_getElem?_getD, List.getElem?_eq_getElem hi]; rfl
        have e2 : po.getD j (0, 0) = po[j]'(by omega) := by rw [List.getD_eq_getElem?_getD, List.getElem?_eq_getElem (by omega)]; rfl
        rw [← e1, ← e2]; omega
      exact c ((List.getElem_inj nd).mp q).symm
    rw [List.getD_eq_getElem?_getD, List.getElem?_set_ne ne, ← List.getD_eq_getElem?_getD]
    exact ha j (by omega)
theorem found_boxes {sizes parcels : List Int} {po pf : List (Int × Int)} (O : Fall parcels po) (F : Fall sizes pf) (okp : OkP parcels) (h : ∀ s, 1 ≤ s → s ≤ 9 → cntGe parcels s ≤ cntGe sizes s) {fs : List Int} (hf : Found po pf parcels.length po.length fs) : Boxes sizes parcels fs := by
  obtain ⟨hl, ha⟩ := hf
  have key : ∀ k < parcels.length, ∃ j, j < po.length ∧ (po.getD j (0, 0)).2 = (k : Int) := fun k hk => by
    have m : ((k : Nat) : Int) ∈ po.map (·.2) := O.places.mem_iff.mpr (List.mem_map.mpr ⟨k, List.mem_range.mpr hk, rfl⟩)
    obtain ⟨j, hj, e⟩ := List.mem_iff_getElem.mp m
    rw [List.length_map] at hj
    rw [List.getElem_map] at e
    exact ⟨j, hj, by rw [List.getD_eq_getElem?_getD, List.getElem?_eq_getElem hj]; exact e⟩
  refine ⟨hl, fun k hk => ?_, ?_⟩
  · obtain ⟨j, hj, e⟩ := key k hk
    obtain ⟨i, b, hi, hb, hj2, e1, e2, e3⟩ := fall_fits O F okp h hj
    have q := ha j hj
    have : i = k := by omega
    subst this
    rw [e1] at q
    rw [show ((i : Nat) : Int).toNat = i from rfl] at q
    rw [q, e2]
    refine ⟨by omega, by omega, ?_⟩
    rw [show ((b : Nat) : Int).toNat = b from rfl]; exact e3
  · refine List.pairwise_iff_getElem.mpr fun k k' hk hk' hlt e => ?_
    obtain ⟨j, hj, e1⟩ := key k (by omega)
    obtain ⟨j', hj', e1'⟩ := key k' (by omega)
    obtain ⟨i, b, hi, hb, hj2, f1, f2, f3⟩ := fall_fits O F okp h hj
    obtain ⟨i', b', hi', hb', hj2', f1', f2', f3'⟩ := fall_fits O F okp h hj'
    have q := ha j hj
    have q' := ha j' hj'
    rw [e1, show ((k : Nat) : Int).toNat = k from rfl, getDlt hk] at q
    rw [e1', show ((k' : Nat) : Int).toNat = k' from rfl, getDlt hk'] at q'
    have eb : (pf.getD j (0, 0)).2 = (pf.getD j' (0, 0)).2 := by rw [← q, ← q', e]
    have nd := F.nodup
    have z : (pf.map (·.2))[j]'(by rw [List.length_map]; exact hj2) = (pf.map (·.2))[j']'(by rw [List.length_map]; exact hj2') := by
      rw [List.getElem_map, List.getElem_map]
      have x1 : pf.getD j (0, 0) = pf[j] := by rw [List.getD_eq_getElem?_getD, List.getElem?_eq_getElem hj2]; rfl
      have x2 : pf.getD j' (0, 0) = pf[j'] := by rw [List.getD_eq_getElem?_getD, List.getElem?_eq_getElem hj2']; rfl
      rw [← x1, ← x2]; exact eb
    have jj := (List.getElem_inj nd).mp z
    subst jj
    omega
end Pw
namespace Pw
/-- the box that a parcel of a size comes into: the least that holds it, the first of alike ones -/
def LB (sizes : List Int) (fs : List Nat) (size : Int) (b : Nat) : Prop := b ∈ fs ∧ size ≤ sizes.getD b 0 ∧ ∀ c ∈ fs, size ≤ sizes.getD c 0 → (sizes.getD b 0 < sizes.getD c 0 ∨ (sizes.getD b 0 = sizes.getD c 0 ∧ b ≤ c))
theorem LB.uniq {sizes : List Int} {fs : List Nat} {size : Int} {b c : Nat} (h : LB sizes fs size b) (h' : LB sizes fs size c) : b = c := by
  have h1 := h.2.2 c h'.1 h'.2.1
  have h2 := h'.2.2 b h.1 h.2.1
  omega
def freeL (inside : List (Option Nat)) : List Nat := (List.range inside.length).filter fun i => (inside.getD i none).isNone
theorem mem_free {l : List (Option Nat)} {b : Nat} : b ∈ freeL l ↔ b < l.length ∧ l.getD b none = none := by
  unfold freeL
  rw [List.mem_filter, List.mem_range, Option.isNone_iff_eq_none]
theorem free_lt (l : List (Option Nat)) : (freeL l).Pairwise (· < ·) := List.Pairwise.filter _ List.pairwise_lt_range
theorem free_len (l : List (Option Nat)) : (freeL l).length ≤ l.length := freeLen l
def WS.came (s : WS) (b : Nat) (size till : Int) : WS := { s with inside := s.inside.set b (some s.parcels.length), parcels := s.parcels ++ [(size, till)] }
theorem WallAt.came {K : PySem.W.Frag} {H : Hp} {s : WS} (A : WallAt K H s) {ts : List Addr} (h1 : H s.l3 = some (.lst (ts.map V.ref))) (h2 : ts.length = s.parcels.length)
    (h3 : ∀ (j : Nat) (t : Addr), ts[j]? = some t → H t = some (.tup [.int (s.parcels.getD j (0, 0)).1, .int (s.parcels.getD j (0, 0)).2])) {t : Addr} {size till : Int} (ht : H t = some (.tup [.int size, .int till])) {b : Nat} (hp : s.parcels.length < 1000) :
    WallAt K (upd (upd H s.l3 (.lst (ts.map V.ref ++ [V.ref t]))) s.l2 (.lst ((s.inside.set b (some s.parcels.length)).map optV))) (s.came b size till) := by
  have tne : ∀ {x : Addr} {u v : V}, H x = some (.tup [u, v]) → upd (upd H s.l3 (.lst (ts.map V.ref ++ [V.ref t]))) s.l2 (.lst ((s.inside.set b (some s.parcels.length)).map optV)) x = some (.tup [u, v]) := fun {x u v} e => by
    rw [upd_ne (ne_of e A.is (by intro q; cases q)), upd_ne (ne_of e h1 (by intro q; cases q))]; exact e
  refine ⟨?_, ?_, ?_, ⟨ts ++ [t], ?_, ?_, ?_⟩, A.n12, A.n13, A.n23, ?_, A.l8, ?_, ?_⟩
  · show upd _ s.l2 _ s.w = _
    rw [upd_ne (ne_of A.ob A.is (by intro q; cases q)), upd_ne (ne_of A.ob h1 (by intro q; cases q))]; exact A.ob
  · show upd _ s.l2 _ s.l1 = _
    rw [upd_ne A.n12, upd_ne A.n13]; exact A.bx
  · show upd _ s.l2 _ s.l2 = _
    exact upd_same
  · show upd _ s.l2 _ s.l3 = _
    rw [upd_ne (Ne.symm A.n23), upd_same, List.map_append]; rfl
  · show (ts ++ [t]).length = (s.parcels ++ [(size, till)]).length
    rw [List.length_append, List.length_append, h2]; rfl
  · intro j x hx
    show _ = some (HO.tup [.int ((s.parcels ++ [(size, till)]).getD j (0, 0)).1, .int ((s.parcels ++ [(size, till)]).getD j (0, 0)).2])
    rw [List.getD_eq_getElem?_getD]
    by_cases c : j < ts.length
    · rw [List.getElem?_append_left c] at hx
      rw [List.getElem?_append_left (by omega), ← List.getD_eq_getElem?_getD]
      exact tne (h3 j x hx)
    · have hj := getLt hx
      rw [List.length_append, List.length_singleton] at hj
      have e : j = ts.length := by omega
      subst e
      rw [List.getElem?_append_right (Nat.le_refl _), Nat.sub_self] at hx
      rw [List.getElem?_append_right (by omega), h2, Nat.sub_self]
      cases hx
      exact tne ht
  · show (s.inside.set b _).length = _
    rw [List.length_set]; exact A.len
  · show (s.parcels ++ [(size, till)]).length ≤ 1000
    rw [List.length_append, List.length_singleton]; omega
  · intro j n hn
    show n < (s.parcels ++ [(size, till)]).length
    have hn : (s.inside.set b (some s.parcels.length))[j]? = some (some n) := hn
    rw [List.length_append, List.length_singleton]
    rw [List.getElem?_set] at hn
    split at hn
    · split at hn
      · have : s.parcels.length = n := Option.some.inj (Option.some.inj hn)
        omega
      · cases hn
    · have := A.nb j n hn
      omega
theorem Frm.refl (s : WS) (H : Hp) : Frm s H H := fun _ _ e _ _ _ => e
theorem Frm.trans {s : WS} {H H1 H2 : Hp} (a : Frm s H H1) (b : Frm s H1 H2) : Frm s H H2 := fun x o e n1 n2 n3 => b x o (a x o e n1 n2 n3) n1 n2 n3
theorem Frm.same {s : WS} {H H1 : Hp} (a : Same H H1) : Frm s H H1 := fun x o e _ _ _ => a x o e
theorem setOpt {l : List (Option Nat)} {b n : Nat} : (l.map optV).set b (V.int (n : Int)) = (l.set b (some n)).map optV := by
  rw [List.map_set]; rfl
theorem setNon {l : List (Option Nat)} {b : Nat} : (l.map optV).set b V.non = (l.set b none).map optV := by
  rw [List.map_set]; rfl
end Pw
namespace Pw
theorem frmSame {s : WS} {H0 H1 H2 : Hp} (a : Same H0 H1) (f : Frm s H1 H2) (n1 : H0 s.w = none) (n2 : H0 s.l2 = none) (n3 : H0 s.l3 = none) : Same H0 H2 := fun x o e => f x o (a x o e) (ne_of_none e n1) (ne_of_none e n2) (ne_of_none e n3)
theorem lstNeW {K : PySem.W.Frag} {H : Hp} {s : WS} {a : Addr} {xs : List V} (A : WallAt K H s) (h : H a = some (.lst xs)) : a ≠ s.w := ne_of h A.ob (by intro q; cases q)
end Pw
namespace Pw
theorem WallAt.keep {K : PySem.W.Frag} {H H' : Hp} {s : WS} {as : List Addr} (A : WallAt K H s) (f : ∀ b o, H b = some o → b ∉ as → H' b = some o) (nw : s.w ∉ as) (n1 : s.l1 ∉ as) (n2 : s.l2 ∉ as) (n3 : s.l3 ∉ as)
    (nt : ∀ b u v, H b = some (.tup [u, v]) → b ∉ as) : WallAt K H' s :=
  ⟨f _ _ A.ob nw, f _ _ A.bx n1, f _ _ A.is n2, let ⟨ts, h1, h2, h3⟩ := A.ps; ⟨ts, f _ _ h1 n3, h2, fun j t q => f _ _ (h3 j t q) (nt _ _ _ (h3 j t q))⟩, A.n12, A.n13, A.n23, A.len, A.l8, A.pl, A.nb⟩
/-- the heap without some things -/
def hide (H : Hp) (as : List Addr) : Hp := fun x => if x ∈ as then none else H x
theorem hide_in {H : Hp} {as : List Addr} {x : Addr} (h : x ∈ as) : hide H as x = none := if_pos h
theorem hide_out {H : Hp} {as : List Addr} {x : Addr} (h : x ∉ as) : hide H as x = H x := if_neg h
theorem hide_same (H : Hp) (as : List Addr) : Same (hide H as) H := fun x o e => by
  unfold hide at e
  split at e
  · cases e
  · exact e
theorem sameHide {H0 H : Hp} {as : List Addr} (s : Same H0 H) (h : ∀ z ∈ as, H0 z = none) : Same H0 (hide H as) := fun x o e => by
  rw [hide_out (fun m => by rw [h x m] at e; cases e)]; exact s x o e
theorem notIn {H : Hp} {as : List Addr} {x : Addr} (h : ∀ z ∈ as, H z ≠ none) (hx : H x = none) : x ∉ as := fun m => h x m hx
theorem notIn2 {H : Hp} {as : List Addr} {x : Addr} {o : HO} (h : ∀ z ∈ as, H z = none) (hx : H x = some o) : x ∉ as := fun m => by rw [h x m] at hx; cases hx
theorem nilNot {x : Addr} : x ∉ ([] : List Addr) := by simp
theorem consNot {x a : Addr} {as : List Addr} (h : x ≠ a) (t : x ∉ as) : x ∉ a :: as := by simp [h, t]
theorem someNe {H : Hp} {x : Addr} {o : HO} (h : H x = some o) : H x ≠ none := by rw [h]; intro z; cases z
theorem PairL.upd_tup {H H' : Hp} {p : Addr} {ps : List (Int × Int)} {as : List Addr} (h : PairL H p ps) (f : ∀ b o, H b = some o → b ∉ as → H' b = some o) (hp : p ∉ as) (nt : ∀ b u v, H b = some (.tup [u, v]) → b ∉ as) : PairL H' p ps := by
  obtain ⟨ys, h1, h2, h3⟩ := h.ex
  have q := mapKeep (H' := H') h2 fun t i j e => f _ _ e (nt _ _ _ e)
  exact ⟨ys, f _ _ h1 hp, q.1, by rw [q.2, h3]⟩
end Pw
namespace Pw
theorem isNone_opt (x : Option Nat) : decide (optV x = V.non) = x.isNone := by
  cases x <;> simp [optV]
end Pw
namespace Pw
/-- all but some things stands as it was -/
def Kp (as : List Addr) (H H' : Hp) : Prop := ∀ b o, H b = some o → b ∉ as → H' b = some o
theorem Kp.ofSame {as : List Addr} {H H' : Hp} (s : Same H H') : Kp as H H' := fun b o e _ => s b o e
theorem Kp.ofFrm {s : WS} {H H' : Hp} (f : Frm s H H') : Kp [s.w, s.l2, s.l3] H H' := fun b o e n => f b o e (fun q => n (by simp [q])) (fun q => n (by simp [q])) (fun q => n (by simp [q]))
theorem Kp.trans {as : List Addr} {H H1 H2 : Hp} (f : Kp as H H1) (g : Kp as H1 H2) : Kp as H H2 := fun b o e n => g b o (f b o e n) n
theorem Kp.more {as bs : List Addr} {H H' : Hp} (f : Kp as H H') (h : ∀ z ∈ as, z ∈ bs) : Kp bs H H' := fun b o e n => f b o e fun m => n (h b m)
theorem Kp.toFrm {s : WS} {H H' : Hp} (f : Kp [s.w, s.l2, s.l3] H H') : Frm s H H' := fun b o e n1 n2 n3 => f b o e (by simp [n1, n2, n3])
theorem hideStep {H0 H1 H2 : Hp} {as bs : List Addr} (s : Same (hide H0 as) H1) (k : Kp bs H1 H2) (m : ∀ z ∈ bs, z ∈ as) : Same (hide H0 as) H2 := fun x o e =>
  k x o (s x o e) fun q => by rw [hide_in (m x q)] at e; cases e
theorem hideGet {H0 : Hp} {as : List Addr} {x : Addr} {o : HO} (h : H0 x = some o) (n : x ∉ as) : hide H0 as x = some o := by rw [hide_out n]; exact h
/-- which refusal is due of a parcel that comes -/
def Rf (sizes : List Int) (inside : List (Option Nat)) (size nights : Int) (u : Str) : Prop :=
  (u = ("NoSize" : Str) ∧ ¬ (1 ≤ size ∧ size ≤ 9)) ∨ (u = ("NoNights" : Str) ∧ (1 ≤ size ∧ size ≤ 9) ∧ ¬ (1 ≤ nights ∧ nights ≤ 9)) ∨
  (u = ("NoBox" : Str) ∧ (1 ≤ size ∧ size ≤ 9) ∧ (1 ≤ nights ∧ nights ≤ 9) ∧ ∀ b ∈ freeL inside, sizes.getD b 0 < size)
theorem Rf.uniq {sizes : List Int} {inside : List (Option Nat)} {size nights : Int} {u v : Str} (h : Rf sizes inside size nights u) (h' : Rf sizes inside size nights v) : u = v := by
  rcases h with ⟨rfl, a⟩ | ⟨rfl, a, b⟩ | ⟨rfl, a, b, c⟩ <;> rcases h' with ⟨rfl, a'⟩ | ⟨rfl, a', b'⟩ | ⟨rfl, a', b', c'⟩ <;> first | rfl | (exact absurd a a') | (exact absurd a' a) | (exact absurd b b') | (exact absurd b' b)
/-- let in: into the box b -/
def In (sizes : List Int) (inside : List (Option Nat)) (size nights : Int) (b : Nat) : Prop := (1 ≤ size ∧ size ≤ 9) ∧ (1 ≤ nights ∧ nights ≤ 9) ∧ LB sizes (freeL inside) size b
theorem In.not {sizes : List Int} {inside : List (Option Nat)} {size nights : Int} {b : Nat} {u : Str} (h : In sizes inside size nights b) (h' : Rf sizes inside size nights u) : False := by
  obtain ⟨a, c, d⟩ := h
  rcases h' with ⟨_, a'⟩ | ⟨_, a', b'⟩ | ⟨_, a', b', c'⟩
  · exact a' a
  · exact b' c
  · have := c' b d.1
    have := d.2.1
    omega
end Pw
namespace Pw
/-! ### parcels in a wall -/
def hasP (l : List (Option Nat)) (n : Int) : Prop := ∃ m : Nat, (m : Int) = n ∧ some m ∈ l
theorem flatOpt (l : List (Option Nat)) : (l.map optV).all flatV = true := by
  rw [List.all_eq_true]
  intro v hv
  obtain ⟨x, _, rfl⟩ := List.mem_map.mp hv
  cases x <;> rfl
theorem flatNat (l : List Nat) : (l.map fun i : Nat => V.int (i : Int)).all flatV = true := by
  rw [List.all_eq_true]
  intro v hv
  obtain ⟨x, _, rfl⟩ := List.mem_map.mp hv
  rfl
theorem flatI (l : List Int) : (l.map V.int).all flatV = true := by
  rw [List.all_eq_true]
  intro v hv
  obtain ⟨x, _, rfl⟩ := List.mem_map.mp hv
  rfl
theorem inOpt {l : List (Option Nat)} {n : Int} : inV (.int n) (l.map optV) = true ↔ hasP l n := by
  unfold inV hasP
  rw [List.any_eq_true]
  constructor
  · rintro ⟨y, hy, e⟩
    obtain ⟨x, hx, rfl⟩ := List.mem_map.mp hy
    cases x with
    | none => exact absurd (show false = true from e) Bool.false_ne_true
    | some m => exact ⟨m, beq_iff_eq.mp (show ((m : Int) == n) = true from e), hx⟩
  · rintro ⟨m, rfl, hm⟩
    exact ⟨V.int m, List.mem_map.mpr ⟨some m, hm, rfl⟩, show ((m : Int) == (m : Int)) = true from beq_self_eq_true _⟩
theorem inOptF {l : List (Option Nat)} {n : Int} (h : inV (.int n) (l.map optV) = false) : ¬ hasP l n := fun q => by
  rw [inOpt.mpr q] at h; cases h
theorem inNat {l : List Nat} {n : Int} : inV (.int n) (l.map fun i : Nat => V.int (i : Int)) = true ↔ ∃ c ∈ l, ((c : Nat) : Int) = n := by
  unfold inV
  rw [List.any_eq_true]
  constructor
  · rintro ⟨y, hy, e⟩
    obtain ⟨x, hx, rfl⟩ := List.mem_map.mp hy
    exact ⟨x, hx, beq_iff_eq.mp (show ((x : Int) == n) = true from e)⟩
  · rintro ⟨m, hm, rfl⟩
    exact ⟨V.int m, List.mem_map.mpr ⟨m, hm, rfl⟩, show ((m : Int) == (m : Int)) = true from beq_self_eq_true _⟩
theorem inNatF {l : List Nat} {n : Int} (h : inV (.int n) (l.map fun i : Nat => V.int (i : Int)) = false) : ¬ ∃ c ∈ l, ((c : Nat) : Int) = n := fun q => by
  rw [inNat.mpr q] at h; cases h
/-- the first place of a parcel -/
def Fst (l : List (Option Nat)) (m b : Nat) : Prop := l[b]? = some (some m) ∧ ∀ c, c < b → l[c]? ≠ some (some m)
theorem fst_of {m : Nat} : ∀ {l : List (Option Nat)}, some m ∈ l → ∃ b, Fst l m b
  | x :: l, h => by
    by_cases e : x = some m
    · exact ⟨0, by rw [e]; rfl, fun c hc => absurd hc (Nat.not_lt_zero c)⟩
    · have h' : some m ∈ l := by
        rcases List.mem_cons.mp h with q | q
        · exact absurd q.symm e
        · exact q
      obtain ⟨b, h1, h2⟩ := fst_of h'
      refine ⟨b + 1, h1, fun c hc => ?_⟩
      cases c with
      | zero => intro q; exact e (Option.some.inj q)
      | succ c => exact h2 c (Nat.lt_of_succ_lt_succ hc)
theorem Fst.uniq {l : List (Option Nat)} {m b c : Nat} (h : Fst l m b) (h' : Fst l m c) : b = c := by
  rcases Nat.lt_trichotomy b c with q | q | q
  · exact absurd h.1 (h'.2 b q)
  · exact q
  · exact absurd h'.1 (h.2 c q)
theorem Fst.lt {l : List (Option Nat)} {m b : Nat} (h : Fst l m b) : b < l.length := getLt h.1
theorem Fst.mem {l : List (Option Nat)} {m b : Nat} (h : Fst l m b) : some m ∈ l := List.mem_of_getElem? h.1
theorem Fst.idx {l : List (Option Nat)} {m b : Nat} (h : Fst l m b) : (l.map optV)[b]? = some (V.int (m : Int)) ∧ eqV (V.int (m : Int)) (V.int (m : Int)) = true ∧ ∀ (c : Nat) (z : V), c < b → (l.map optV)[c]? = some z → eqV z (V.int (m : Int)) = false := by
  refine ⟨getMap h.1, show ((m : Int) == (m : Int)) = true from beq_self_eq_true _, fun c z hc hz => ?_⟩
  obtain ⟨x, hx, rfl⟩ := mapGet hz
  cases x with
  | none => rfl
  | some k =>
    show ((k : Int) == (m : Int)) = false
    rw [beq_eq_false_iff_ne]
    intro e
    have e : k = m := by omega
    subst e
    exact h.2 c hc hx
def WS.ins (s : WS) (l : List (Option Nat)) : WS := { s with inside := l }
def WS.on (s : WS) (d : Int) : WS := { s with today := d }
theorem WallAt.insUpd {K : PySem.W.Frag} {H : Hp} {s : WS} (A : WallAt K H s) {l : List (Option Nat)} (hl : l.length = s.sizes.length) (nb : ∀ (j n : Nat), l[j]? = some (some n) → n < s.parcels.length) : WallAt K (upd H s.l2 (.lst (l.map optV))) (s.ins l) :=
  ⟨by show upd _ s.l2 _ s.w = _; rw [upd_ne (ne_of A.ob A.is (by intro q; cases q))]; exact A.ob,
   by show upd _ s.l2 _ s.l1 = _; rw [upd_ne A.n12]; exact A.bx,
   upd_same,
   let ⟨ts, h1, h2, h3⟩ := A.ps; ⟨ts, by show upd _ s.l2 _ s.l3 = _; rw [upd_ne (Ne.symm A.n23)]; exact h1, h2, fun j t q => by rw [upd_ne (ne_of (h3 j t q) A.is (by intro q; cases q))]; exact h3 j t q⟩,
   A.n12, A.n13, A.n23, hl, A.l8, A.pl, nb⟩
theorem WallAt.dayUpd {K : PySem.W.Frag} {H : Hp} {s : WS} (A : WallAt K H s) (d : Int) : WallAt K (upd H s.w (.ins (He.ga K "Wall") s.dx (wf s.l1 s.l2 s.l3 d))) (s.on d) :=
  ⟨upd_same,
   by show upd _ s.w _ s.l1 = _; rw [upd_ne (ne_of A.bx A.ob (by intro q; cases q))]; exact A.bx,
   by show upd _ s.w _ s.l2 = _; rw [upd_ne (ne_of A.is A.ob (by intro q; cases q))]; exact A.is,
   let ⟨ts, h1, h2, h3⟩ := A.ps; ⟨ts, by show upd _ s.w _ s.l3 = _; rw [upd_ne (ne_of h1 A.ob (by intro q; cases q))]; exact h1, h2, fun j t q => by rw [upd_ne (ne_of (h3 j t q) A.ob (by intro q; cases q))]; exact h3 j t q⟩,
   A.n12, A.n13, A.n23, A.len, A.l8, A.pl, A.nb⟩
theorem nbSet {l : List (Option Nat)} {k b : Nat} {x : Option Nat} (h : ∀ (j n : Nat), l[j]? = some (some n) → n < k) (hx : ∀ n, x = some n → n < k) : ∀ (j n : Nat), (l.set b x)[j]? = some (some n) → n < k := by
  intro j n hn
  rw [List.getElem?_set] at hn
  split at hn
  · split at hn
    · exact hx n (Option.some.inj hn)
    · cases hn
  · exact h j n hn
theorem WallAt.tup {K : PySem.W.Frag} {H : Hp} {s : WS} (A : WallAt K H s) {m : Nat} (h : m < s.parcels.length) : ∃ (ts : List Addr) (t : Addr), H s.l3 = some (.lst (ts.map V.ref)) ∧ ts.length = s.parcels.length ∧ atI (ts.map V.ref) (m : Int) = some (.ref t) ∧
    H t = some (.tup [.int (s.parcels.getD m (0, 0)).1, .int (s.parcels.getD m (0, 0)).2]) := by
  obtain ⟨ts, h1, h2, h3⟩ := A.ps
  obtain ⟨t, ht⟩ := getOf (xs := ts) (i := m) (by omega)
  exact ⟨ts, t, h1, h2, at_of (j := m) rfl (getMap ht), h3 m t ht⟩
theorem WallAt.mem_lt {K : PySem.W.Frag} {H : Hp} {s : WS} (A : WallAt K H s) {m : Nat} (h : some m ∈ s.inside) : m < s.parcels.length := by
  obtain ⟨b, hb⟩ := fst_of h
  exact A.nb b m hb.1
/-! ### a night -/
def dueB (ps : List (Int × Int)) (day : Int) : Option Nat → Bool
  | none => false
  | some m => decide ((ps.getD m (0, 0)).2 ≤ day)
def nightF (ps : List (Int × Int)) (day : Int) (x : Option Nat) : Option Nat := if dueB ps day x = true then none else x
def backOf (ps : List (Int × Int)) (day : Int) (l : List (Option Nat)) : List Int := (l.filter (dueB ps day)).map fun x => ((x.getD 0 : Nat) : Int)
theorem nightStep {α : Type} {f : α → α} : ∀ {l : List α} {i : Nat} {x : α}, l[i]? = some x → ((l.take i).map f ++ l.drop i).set i (f x) = (l.take (i + 1)).map f ++ l.drop (i + 1)
  | [], i, x, h => by simp at h
  | a :: l, 0, x, h => by
    have e : a = x := Option.some.inj h
    subst e; rfl
  | a :: l, i + 1, x, h => by
    have ih := nightStep (f := f) (l := l) (i := i) (x := x) h
    show f a :: (((l.take i).map f ++ l.drop i).set i (f x)) = f a :: ((l.take (i + 1)).map f ++ l.drop (i + 1))
    rw [ih]
theorem nightAt {α : Type} {f : α → α} : ∀ {l : List α} {i : Nat}, ((l.take i).map f ++ l.drop i)[i]? = l[i]?
  | [], i => by simp
  | a :: l, 0 => rfl
  | a :: l, i + 1 => nightAt (f := f) (l := l) (i := i)
theorem setSame {α : Type} : ∀ {l : List α} {i : Nat} {x : α}, l[i]? = some x → l.set i x = l
  | [], _, _, h => by simp at h
  | a :: l, 0, x, h => by
    have e : a = x := Option.some.inj h
    subst e; rfl
  | a :: l, i + 1, x, h => by
    have ih := setSame (l := l) (i := i) (x := x) h
    show a :: l.set i x = a :: l
    rw [ih]
def WS.nighted (s : WS) : WS := { s with inside := s.inside.map (nightF s.parcels (s.today + 1)), today := s.today + 1 }
theorem nightF_some {ps : List (Int × Int)} {day : Int} {x : Option Nat} {n : Nat} (h : nightF ps day x = some n) : x = some n := by
  unfold nightF at h
  split at h
  · cases h
  · exact h
end Pw
namespace Pw
def FillOk (sizes : List Int) (xs : List (Option Nat)) : Prop := xs.length = sizes.length ∧ ∀ (b v : Nat), xs[b]? = some (some v) → 1 ≤ v ∧ (v : Int) ≤ sizes.getD b 0
theorem cntSet {n : Nat} : ∀ {l : List (Option Nat)} {b : Nat}, l[b]? = some none → ((l.set b (some n)).filter Option.isSome).length = (l.filter Option.isSome).length + 1
  | [], b, h => by simp at h
  | x :: l, 0, h => by
    have e : x = none := Option.some.inj h
    subst e
    simp
  | x :: l, b + 1, h => by
    have ih := cntSet (n := n) (l := l) (b := b) h
    show ((x :: l.set b (some n)).filter Option.isSome).length = _
    rw [List.filter_cons, List.filter_cons]
    split
    · rw [List.length_cons, List.length_cons, ih]
    · exact ih
/-- the wall that is made of drawn parcels, while it is made -/
structure SI (sizes : List Int) (inside : List (Option Nat)) (dn : List Nat) (is : List (Option Nat)) (ps : List (Int × Int)) : Prop where
  len : is.length = sizes.length
  non : ∀ b ∈ dn, inside[b]? = some none → is[b]? = some none
  som : ∀ b ∈ dn, ∀ v, inside[b]? = some (some v) → ∃ m, is[b]? = some (some m) ∧ 1 ≤ m ∧ ps.getD m (0, 0) = ((v : Int), 9)
  oth : ∀ b, b < sizes.length → b ∉ dn → is[b]? = some none
  dis : ∀ b c m : Nat, is[b]? = some (some m) → is[c]? = some (some m) → b = c
  cnt : ps.length = 1 + (is.filter Option.isSome).length
  nb : ∀ (j n : Nat), is[j]? = some (some n) → n < ps.length
theorem SI.start {sizes : List Int} {inside : List (Option Nat)} {p : Int × Int} : SI sizes inside [] (List.replicate sizes.length none) [p] := by
  have g : ∀ (j : Nat) (x : Option Nat), (List.replicate sizes.length (none : Option Nat))[j]? = some x → x = none := fun j x h => by
    have := List.mem_of_getElem? h
    exact (List.mem_replicate.mp this).2
  refine ⟨by simp, fun b hb => (by cases hb), fun b hb => (by cases hb), fun b hb _ => ?_, fun b c m h => ?_, ?_, fun j n h => ?_⟩
  · rw [List.getElem?_replicate, if_pos hb]
  · have := g _ _ h; cases this
  · simp
  · have := g _ _ h; cases this
theorem SI.skip {sizes : List Int} {inside : List (Option Nat)} {dn : List Nat} {is : List (Option Nat)} {ps : List (Int × Int)} (g : SI sizes inside dn is ps) {b : Nat} (h : inside[b]? = some none) (nd : b ∉ dn) (hb : b < sizes.length) : SI sizes inside (dn ++ [b]) is ps := by
  refine ⟨g.len, fun c hc hi => ?_, fun c hc v hi => ?_, fun c hc hn => g.oth c hc fun q => hn (List.mem_append_left _ q), g.dis, g.cnt, g.nb⟩
  · rcases List.mem_append.mp hc with q | q
    · exact g.non c q hi
    · rw [List.mem_singleton.mp q]; exact g.oth b hb nd
  · rcases List.mem_append.mp hc with q | q
    · exact g.som c q v hi
    · rw [List.mem_singleton.mp q, h] at hi; cases hi
theorem SI.put {sizes : List Int} {inside : List (Option Nat)} {dn : List Nat} {is : List (Option Nat)} {ps : List (Int × Int)} (g : SI sizes inside dn is ps) {b v : Nat} (h : inside[b]? = some (some v)) (nd : b ∉ dn) (hb : b < sizes.length) :
    SI sizes inside (dn ++ [b]) (is.set b (some ps.length)) (ps ++ [((v : Int), 0 + 9)]) := by
  have hn := g.oth b hb nd
  have bl := getLt hn
  have gd : ∀ m, m < ps.length → (ps ++ [((v : Int), (0 : Int) + 9)]).getD m (0, 0) = ps.getD m (0, 0) := fun m hm => by
    rw [List.getD_eq_getElem?_getD, List.getD_eq_getElem?_getD, List.getElem?_append_left hm]
  have ne : ∀ c, c ≠ b → (is.set b (some ps.length))[c]? = is[c]? := fun c hc => List.getElem?_set_ne (Ne.symm hc)
  have at_ : (is.set b (some ps.length))[b]? = some (some ps.length) := List.getElem?_set_self bl
  refine ⟨by rw [List.length_set]; exact g.len, fun c hc hi => ?_, fun c hc w hi => ?_, fun c hc hc2 => ?_, fun c e m h1 h2 => ?_, ?_, fun j n hj => ?_⟩
  · rcases List.mem_append.mp hc with q | q
    · rw [ne c fun e => nd (e ▸ q)]; exact g.non c q hi
    · rw [List.mem_singleton.mp q, h] at hi; cases hi
  · rcases List.mem_append.mp hc with q | q
    · obtain ⟨m, m1, m2, m3⟩ := g.som c q w hi
      refine ⟨m, by rw [ne c fun e => nd (e ▸ q)]; exact m1, m2, by rw [gd m (g.nb c m m1)]; exact m3⟩
    · have e := List.mem_singleton.mp q
      subst e
      rw [h] at hi
      cases hi
      have := g.cnt
      refine ⟨ps.length, at_, by omega, ?_⟩
      rw [List.getD_eq_getElem?_getD, List.getElem?_append_right (Nat.le_refl _), Nat.sub_self]
      rfl
  · have q1 : c ∉ dn := fun q => hc2 (List.mem_append_left _ q)
    have q2 : c ≠ b := fun q => hc2 (List.mem_append_right _ (by rw [q]; exact List.mem_singleton_self _))
    rw [ne c q2]; exact g.oth c hc q1
  · by_cases c1 : c = b
    · subst c1
      rw [at_] at h1
      cases h1
      by_cases c2 : e = c
      · exact c2.symm
      · rw [ne e c2] at h2
        have := g.nb _ _ h2
        omega
    · rw [ne c c1] at h1
      by_cases c2 : e = b
      · subst c2
        rw [at_] at h2
        cases h2
        have := g.nb _ _ h1
        omega
      · rw [ne e c2] at h2
        exact g.dis c e m h1 h2
  · rw [List.length_append, cntSet hn, g.cnt]; rfl
  · rw [List.length_append]
    by_cases c1 : j = b
    · subst c1
      rw [at_] at hj
      cases hj
      show _ < _ + 1
      omega
    · rw [ne j c1] at hj
      have := g.nb _ _ hj
      show _ < _ + 1
      omega
/-- the wall of drawn parcels -/
structure Side (sizes : List Int) (inside : List (Option Nat)) (s : WS) : Prop where
  sz : s.sizes = sizes
  td : s.today = 0
  non : ∀ b : Nat, inside[b]? = some none → s.inside[b]? = some none
  som : ∀ b v : Nat, inside[b]? = some (some v) → ∃ m, s.inside[b]? = some (some m) ∧ 1 ≤ m ∧ s.parcels.getD m (0, 0) = ((v : Int), 9)
  dis : ∀ b c m : Nat, s.inside[b]? = some (some m) → s.inside[c]? = some (some m) → b = c
  cnt : s.parcels.length = 1 + (s.inside.filter Option.isSome).length
theorem SI.side {sizes : List Int} {inside : List (Option Nat)} {dn : List Nat} {is : List (Option Nat)} {ps : List (Int × Int)} (g : SI sizes inside dn is ps) (fo : FillOk sizes inside) (all : ∀ b, b < sizes.length → b ∈ dn) {w dx l1 l2 l3 : Addr} : Side sizes inside ⟨w, dx, l1, l2, l3, sizes, is, ps, 0⟩ :=
  ⟨rfl, rfl, fun b h => g.non b (all b (by have := getLt h; have := fo.1; omega)) h, fun b v h => g.som b (all b (by have := getLt h; have := fo.1; omega)) v h, g.dis, g.cnt⟩
theorem fst_new {l : List (Option Nat)} {n b : Nat} (h : ∀ (j m : Nat), l[j]? = some (some m) → m < n) (hb : b < l.length) : Fst (l.set b (some n)) n b := by
  refine ⟨List.getElem?_set_self hb, fun c hc q => ?_⟩
  rw [List.getElem?_set_ne (by omega)] at q
  have := h _ _ q
  omega
theorem rgNat (n : Nat) : rgV 0 (n : Int) = (List.range n).map fun i : Nat => V.int (i : Int) := by
  unfold rgV
  rw [show ((n : Int) - 0).toNat = n by omega]
  exact List.map_congr_left fun i _ => by rw [show (0 : Int) + (i : Int) = (i : Int) by omega]
end Pw
namespace Pw
theorem cntUnset : ∀ {l : List (Option Nat)} {b m : Nat}, l[b]? = some (some m) → ((l.set b none).filter Option.isSome).length + 1 = (l.filter Option.isSome).length
  | [], b, m, h => by simp at h
  | x :: l, 0, m, h => by
    have e : x = some m := Option.some.inj h
    subst e
    simp
  | x :: l, b + 1, m, h => by
    have ih := cntUnset (l := l) (b := b) h
    show ((x :: l.set b none).filter Option.isSome).length + 1 = _
    rw [List.filter_cons, List.filter_cons]
    split
    · rw [List.length_cons, List.length_cons, ih]
    · exact ih
theorem Side.at_ {sizes : List Int} {xs : List (Option Nat)} {s : WS} (g : Side sizes xs s) (hl : xs.length = s.inside.length) {b m : Nat} (h : s.inside[b]? = some (some m)) : ∃ v : Nat, xs[b]? = some (some v) ∧ s.parcels.getD m (0, 0) = ((v : Int), 9) := by
  have bl := getLt h
  obtain ⟨y, hy⟩ := getOf (xs := xs) (i := b) (by omega)
  cases y with
  | none => rw [g.non b hy] at h; cases h
  | some v =>
    obtain ⟨m', h1, h2, h3⟩ := g.som b v hy
    rw [h1] at h
    cases h
    exact ⟨v, hy, h3⟩
theorem Side.move {sizes : List Int} {xs : List (Option Nat)} {s : WS} (g : Side sizes xs s) {m b c v : Nat} (hb : s.inside[b]? = some (some m)) (hv : xs[b]? = some (some v)) (hc : s.inside[c]? = some none) (hcx : c < xs.length) :
    Side sizes ((xs.set c (some v)).set b none) (s.ins ((s.inside.set b none).set c (some m))) := by
  have hne : b ≠ c := fun e => by rw [e, hc] at hb; cases hb
  have bl := getLt hb
  have cl := getLt hc
  have bx := getLt hv
  have i1 : ((s.inside.set b none).set c (some m))[c]? = some (some m) := List.getElem?_set_self (by rw [List.length_set]; exact cl)
  have i2 : ((s.inside.set b none).set c (some m))[b]? = some none := by rw [List.getElem?_set_ne (Ne.symm hne)]; exact List.getElem?_set_self bl
  have i3 : ∀ j, j ≠ b → j ≠ c → ((s.inside.set b none).set c (some m))[j]? = s.inside[j]? := fun j h1 h2 => by rw [List.getElem?_set_ne (Ne.symm h2), List.getElem?_set_ne (Ne.symm h1)]
  have x1 : ((xs.set c (some v)).set b none)[c]? = some (some v) := by rw [List.getElem?_set_ne hne]; exact List.getElem?_set_self hcx
  have x2 : ((xs.set c (some v)).set b none)[b]? = some none := List.getElem?_set_self (by rw [List.length_set]; exact bx)
  have x3 : ∀ j, j ≠ b → j ≠ c → ((xs.set c (some v)).set b none)[j]? = xs[j]? := fun j h1 h2 => by rw [List.getElem?_set_ne (Ne.symm h1), List.getElem?_set_ne (Ne.symm h2)]
  obtain ⟨m', q1, q2, q3⟩ := g.som b v hv
  rw [hb] at q1
  cases q1
  refine ⟨g.sz, g.td, fun j h => ?_, fun j w h => ?_, fun j k n h1 h2 => ?_, ?_⟩
  · show ((s.inside.set b none).set c (some m))[j]? = some none
    by_cases e1 : j = b
    · rw [e1]; exact i2
    · by_cases e2 : j = c
      · rw [e2, x1] at h; cases h
      · rw [i3 j e1 e2]; rw [x3 j e1 e2] at h; exact g.non j h
  · show ∃ n, ((s.inside.set b none).set c (some m))[j]? = some (some n) ∧ 1 ≤ n ∧ s.parcels.getD n (0, 0) = _
    by_cases e1 : j = b
    · rw [e1, x2] at h; cases h
    · by_cases e2 : j = c
      · rw [e2, x1] at h
        cases h
        exact ⟨m, by rw [e2]; exact i1, q2, q3⟩
      · rw [x3 j e1 e2] at h
        rw [i3 j e1 e2]
        exact g.som j w h
  · have h1 : ((s.inside.set b none).set c (some m))[j]? = some (some n) := h1
    have h2 : ((s.inside.set b none).set c (some m))[k]? = some (some n) := h2
    have key : ∀ j, ((s.inside.set b none).set c (some m))[j]? = some (some n) → (j = c ∧ n = m) ∨ (j ≠ b ∧ s.inside[j]? = some (some n)) := fun j h => by
      by_cases e1 : j = b
      · rw [e1, i2] at h; cases h
      · by_cases e2 : j = c
        · rw [e2, i1] at h; cases h; exact .inl ⟨e2, rfl⟩
        · rw [i3 j e1 e2] at h; exact .inr ⟨e1, h⟩
    rcases key j h1 with ⟨a, e⟩ | ⟨a, e⟩ <;> rcases key k h2 with ⟨a', e'⟩ | ⟨a', e'⟩
    · rw [a, a']
    · subst e; exact absurd (g.dis k b n e' hb) a'
    · subst e'; exact absurd (g.dis j b n e hb) a
    · exact g.dis j k n e e'
  · show s.parcels.length = 1 + (((s.inside.set b none).set c (some m)).filter Option.isSome).length
    have hc' : (s.inside.set b none)[c]? = some none := by rw [List.getElem?_set_ne hne]; exact hc
    have := cntUnset hb
    rw [cntSet hc', g.cnt]
    omega
end Pw
namespace Pw
theorem inNon {l : List (Option Nat)} : inV .non (l.map optV) = true ↔ none ∈ l := by
  unfold inV
  rw [List.any_eq_true]
  constructor
  · rintro ⟨y, hy, e⟩
    obtain ⟨x, hx, rfl⟩ := List.mem_map.mp hy
    cases x with
    | none => exact hx
    | some m => exact absurd (show false = true from e) Bool.false_ne_true
  · intro h
    exact ⟨V.non, List.mem_map.mpr ⟨none, h, rfl⟩, rfl⟩
end Pw
namespace Pw
def sp_law_filled_by (K : PySem.W.Frag) : Sp := fun vs H Q _ => ∃ (a d : Addr) (ns sizes : List Int) (base : Int), vs = [.ref a, .int base, .ref d] ∧ SqL K H a (ns.map V.int) ∧ ns.length ≤ 63 ∧ SqL K H d (sizes.map V.int) ∧ OkW sizes ∧ 0 ≤ base ∧ base ≤ 1000 ∧
  ∀ (xs : List (Option Nat)) (H' : Hp) (p : Addr), FillOk sizes xs → Same H H' → H p = none → H' p = some (.lst (xs.map optV)) → Q (.ref p) H'
theorem len_law_filled_by {K : PySem.W.Frag} : ∀ vs H Q E, sp_law_filled_by K vs H Q E → vs.length = 3 := by
  rintro vs H Q E ⟨_, _, _, _, _, rfl, _⟩
  rfl
def t_law_filled_by (K : PySem.W.Frag) (E : XK) : TS :=
  tSeq (tAsg (tLc (iList K (tVar 2)) (gName 5) tYes (tC .non) [5]) (gName 3))
    (tSeq (tForP (iRng1 (tCons (tCB (rLenSeq K) (tCons (tVar 2) tNil)) tNil)) (gName 4) (tIfS (tTest (tOp rGt (tCall (sp_law_drawn K) [] E0 (tCons (tVar 0) (tCons (tOp rAddI (tVar 1) (tOp rMulI (tC (.int 2)) (tVar 4))) (tCons (tC (.int 6)) tNil)))) (tC (.int 0)))) (tAsg (tOp rAddI (tC (.int 1)) (tCall (sp_law_drawn K) [] E0 (tCons (tVar 0) (tCons (tOp rAddI (tOp rAddI (tVar 1) (tOp rMulI (tC (.int 2)) (tVar 4))) (tC (.int 1))) (tCons (tOp (rIxL K) (tVar 2) (tVar 4)) tNil))))) (gSub (tVar 3) (tVar 4) rSetL)) (tNext)))
    (tRet (tVar 3)))
theorem pure_law_filled_by {K : PySem.W.Frag} (vs : List V) (H : Hp) (Q : VK) (E : XK) (h : sp_law_filled_by K vs H Q E) : t_law_filled_by K E { nx := fun _ H' => Q .non H', rt := Q } (start ["script", "base", "sizes", "held", "box", "size"] vs) H := by
  obtain ⟨a, d, ns, sizes, base, rfl, hA, hl, hD, ok, b0, b1, k⟩ := h
  have l8 := ok.2.1
  unfold t_law_filled_by
  walk_at "go"
  intro h hh
  refine lcMap (inj := V.int) (ns := sizes) (fun _ => true) (fun _ => V.non) hh hD (by omega) (fun _ => rfl) (fun i n H' hi s' TT k' => ?_) (fun i n H' hi _ s' Qv k' => ?_) (fun H1 s1 hh1 => ?_)
  · exact k' _ (Same.refl _)
  · walk_at "go"
    exact k' _ (Same.refl _)
  rw [filterAll, repOpt] at hh1
  have hD1 := s1.seq hD
  walk_at "go"
  refine forRange (n := (((sizes.map V.int).length : Nat) : Int).toNat) (fun i σ H' => Stop (∃ (v : Option V) (xs : List (Option Nat)), σ = [some (.ref a), some (.int base), some (.ref d), some (.ref h), v, none] ∧ Same H H' ∧ H' h = some (.lst (xs.map optV)) ∧ FillOk sizes xs)) ⟨none, _, rfl, s1, hh1, by simp, fun b v q => ?_⟩ ?_ ?_
  · have := (List.mem_replicate.mp (List.mem_of_getElem? q)).2
    cases this
  · rintro i σ H2 hi ⟨v, xs, rfl, s2, hh2, fo⟩
    simp only [List.length_map] at hi
    have hA2 := s2.seq hA
    have hD2 := s2.seq hD
    have fl := fo.1
    walk_at "go"
    intro e0 e1
    walk_at "go"
    refine ifD (fun c => ?_) (fun c => ?_)
    · have hg := ok.2.2 (sizes.getD i 0) (by rw [getDlt hi]; exact List.getElem_mem hi)
      have ei : ((0 : Int) + (i : Int)).toNat = i := by omega
      walk_at "go"
      rw [ei]
      walk_at "go"
      intro e2 e3
      generalize drawn ns (base + 2 * (0 + (i : Int)) + 1) (sizes.getD i 0) = r at e2 e3 ⊢
      walk_at "go"
      refine ⟨ixN_of (by omega) (by rw [List.length_map]; omega), ?_⟩
      have er : V.int (1 + r) = V.int (((1 + r).toNat : Nat) : Int) := by rw [Int.toNat_of_nonneg (by omega)]
      dsimp only
      rw [er, setOpt]
      refine ⟨_, _, rfl, sameMut s2 hh, upd_same, by rw [List.length_set]; exact fl, fun b v q => ?_⟩
      rw [List.getElem?_set] at q
      split at q
      · split at q
        · rename_i e _
          have e2 : (1 + r).toNat = v := Option.some.inj (Option.some.inj q)
          rw [show b = i by omega]
          omega
        · cases q
      · exact fo.2 b v q
    · exact ⟨_, xs, rfl, s2, hh2, fo⟩
  · rintro σ H2 ⟨v, xs, rfl, s2, hh2, fo⟩
    walk_at "go"
    exact k xs _ h fo s2 hh hh2
end Pw
namespace Pw
def sp_Wall_held (K : PySem.W.Frag) : Sp := fun vs H Q _ => ∃ (s : WS), WallAt K H s ∧ vs = [.ref s.w] ∧ RetNew H Q (s.inside.map optV)
theorem len_Wall_held {K : PySem.W.Frag} : ∀ vs H Q E, sp_Wall_held K vs H Q E → vs.length = 1 := by
  rintro vs H Q E ⟨_, _, rfl, _⟩
  rfl
def t_Wall_held (K : PySem.W.Frag) (E : XK) : TS :=
  tRet (tCB (rListOf K) (tCons (tFld K (tVar 0) "inside") tNil))
theorem pure_Wall_held {K : PySem.W.Frag} (T : TW K) (vs : List V) (H : Hp) (Q : VK) (E : XK) (h : sp_Wall_held K vs H Q E) : t_Wall_held K E { nx := fun _ H' => Q .non H', rt := Q } (start ["self"] vs) H := by
  obtain ⟨s, A, rfl, k⟩ := h
  obtain ⟨tcl, tnb, tni, tnp, tnt⟩ := id T
  have hob := A.ob
  have his := A.is
  unfold t_Wall_held
  walk_at "go"
  intro p hp
  exact k _ p (sameNew (Same.refl _) hp) hp upd_same
end Pw
namespace Pw
def sp_Wall_sizes (K : PySem.W.Frag) : Sp := fun vs H Q _ => ∃ (s : WS), WallAt K H s ∧ vs = [.ref s.w] ∧ RetNew H Q (s.sizes.map V.int)
theorem len_Wall_sizes {K : PySem.W.Frag} : ∀ vs H Q E, sp_Wall_sizes K vs H Q E → vs.length = 1 := by
  rintro vs H Q E ⟨_, _, rfl, _⟩
  rfl
def t_Wall_sizes (K : PySem.W.Frag) (E : XK) : TS :=
  tRet (tCB (rListOf K) (tCons (tFld K (tVar 0) "boxes") tNil))
theorem pure_Wall_sizes {K : PySem.W.Frag} (T : TW K) (vs : List V) (H : Hp) (Q : VK) (E : XK) (h : sp_Wall_sizes K vs H Q E) : t_Wall_sizes K E { nx := fun _ H' => Q .non H', rt := Q } (start ["self"] vs) H := by
  obtain ⟨s, A, rfl, k⟩ := h
  obtain ⟨tcl, tnb, tni, tnp, tnt⟩ := id T
  have hob := A.ob
  have hbx := A.bx
  unfold t_Wall_sizes
  walk_at "go"
  intro p hp
  exact k _ p (sameNew (Same.refl _) hp) hp upd_same
end Pw
namespace Pw
def sp_Wall_see (K : PySem.W.Frag) : Sp := fun vs H Q E => ∃ (s : WS), WallAt K H s ∧ ∃ (n : Int), vs = [.ref s.w, .int n] ∧ (hasP s.inside n → Q .non H) ∧ (¬ hasP s.inside n → E (.ref (He.ga K "NoParcel")) none H)
theorem len_Wall_see {K : PySem.W.Frag} : ∀ vs H Q E, sp_Wall_see K vs H Q E → vs.length = 2 := by
  rintro vs H Q E ⟨_, _, _, rfl, _⟩
  rfl
def t_Wall_see (K : PySem.W.Frag) (E : XK) : TS :=
  tIfS (tOr (tTest (tOp rIsNone (tVar 1) (tC .non))) (tTest (tOp (rInN K) (tVar 1) (tFld K (tVar 0) "inside")))) (tRaise E (He.ga K "NoParcel")) (tNext)
theorem pure_Wall_see {K : PySem.W.Frag} (T : TW K) (vs : List V) (H : Hp) (Q : VK) (E : XK) (h : sp_Wall_see K vs H Q E) : t_Wall_see K E { nx := fun _ H' => Q .non H', rt := Q } (start ["self", "parcel"] vs) H := by
  obtain ⟨s, A, n, rfl, k, kE⟩ := h
  obtain ⟨tcl, tnb, tni, tnp, tnt⟩ := id T
  have hob := A.ob
  have his := A.is
  have hfl := flatOpt s.inside
  unfold t_Wall_see
  walk_at "go"
  refine ifNB (fun c => ?_) (fun c => ?_)
  · exact kE (inOptF c)
  · exact k (inOpt.mp c)
end Pw
namespace Pw
def sp_Wall_size_of (K : PySem.W.Frag) : Sp := fun vs H Q E => ∃ (s : WS), WallAt K H s ∧ ∃ (n : Int), vs = [.ref s.w, .int n] ∧ (∀ m : Nat, (m : Int) = n → some m ∈ s.inside → Q (.int (s.parcels.getD m (0, 0)).1) H) ∧ (¬ hasP s.inside n → E (.ref (He.ga K "NoParcel")) none H)
theorem len_Wall_size_of {K : PySem.W.Frag} : ∀ vs H Q E, sp_Wall_size_of K vs H Q E → vs.length = 2 := by
  rintro vs H Q E ⟨_, _, _, rfl, _⟩
  rfl
def t_Wall_size_of (K : PySem.W.Frag) (E : XK) : TS :=
  tSeq (tDrop (tMeth (He.ga K "Wall") "see" (sp_Wall_see K) [] E (tVar 0) (tCons (tVar 1) tNil)))
    (tRet (tOp (rIxT K) (tOp (rIxL K) (tFld K (tVar 0) "parcels") (tVar 1)) (tC (.int 0))))
theorem pure_Wall_size_of {K : PySem.W.Frag} (T : TW K) (vs : List V) (H : Hp) (Q : VK) (E : XK) (h : sp_Wall_size_of K vs H Q E) : t_Wall_size_of K E { nx := fun _ H' => Q .non H', rt := Q } (start ["self", "parcel"] vs) H := by
  obtain ⟨s, A, n, rfl, k, kE⟩ := h
  obtain ⟨tcl, tnb, tni, tnp, tnt⟩ := id T
  have hob := A.ob
  unfold t_Wall_size_of
  walk_at "go"
  refine ⟨?_, kE⟩
  rintro ⟨m, rfl, hm⟩
  obtain ⟨ts, t, h1, h2, h3, h4⟩ := A.tup (A.mem_lt hm)
  walk_at "go"
  exact k m rfl hm
end Pw
namespace Pw
/-! ### the boxes that are reached -/
theorem nodup_le : ∀ (n : Nat) (l : List Nat), l.Nodup → (∀ x ∈ l, x < n) → l.length ≤ n
  | 0, l, _, h => by
    cases l with
    | nil => exact Nat.le_refl _
    | cons x r => have := h x List.mem_cons_self; omega
  | n + 1, l, nd, h => by
    have ih := nodup_le n (l.erase n) (nd.erase n) fun x hx => by
      have q := nd.mem_erase_iff.mp hx
      have := h x q.2
      have := q.1
      omega
    rw [List.length_erase] at ih
    split at ih <;> omega
def qk (qb : List (Nat × Option Nat)) : List (Key × V) := qb.map fun e => (Sum.inl (e.1 : Int), optV e.2)
theorem qk_len (qb : List (Nat × Option Nat)) : (qk qb).length = qb.length := by unfold qk; rw [List.length_map]
theorem valQ_none : ∀ {qb : List (Nat × Option Nat)} {b : Nat}, b ∉ qb.map Prod.fst → valV (qk qb) (Sum.inl (b : Int)) = none
  | [], _, _ => rfl
  | e :: r, b, h => by
    have h1 : b ≠ e.1 := fun q => h (by rw [q]; exact List.mem_cons_self)
    have h2 : b ∉ r.map Prod.fst := fun q => h (List.mem_cons_of_mem _ q)
    show valV ((Sum.inl (e.1 : Int), optV e.2) :: qk r) _ = none
    rw [valV_neg (by intro q; have := Sum.inl.inj q; omega), valQ_none h2]
theorem valQ_some : ∀ {qb : List (Nat × Option Nat)} {i b : Nat} {p : Option Nat}, (qb.map Prod.fst).Nodup → qb[i]? = some (b, p) → valV (qk qb) (Sum.inl (b : Int)) = some (optV p)
  | [], i, b, p, _, h => by simp at h
  | e :: r, 0, b, p, _, h => by
    have q : e = (b, p) := Option.some.inj h
    subst q
    exact valV_pos rfl
  | e :: r, i + 1, b, p, nd, h => by
    have h : r[i]? = some (b, p) := h
    have nd2 := (List.nodup_cons.mp nd).2
    have hne := (List.nodup_cons.mp nd).1
    have hm : b ∈ r.map Prod.fst := List.mem_map.mpr ⟨_, List.mem_of_getElem? h, rfl⟩
    show valV ((Sum.inl (e.1 : Int), optV e.2) :: qk r) _ = _
    rw [valV_neg (by intro q; have := Sum.inl.inj q; exact hne (by rw [show e.1 = b by omega]; exact hm))]
    exact valQ_some nd2 h
theorem qk_put {qb : List (Nat × Option Nat)} {b : Nat} {p : Option Nat} (h : b ∉ qb.map Prod.fst) : putK (qk qb) (Sum.inl (b : Int)) (optV p) = qk (qb ++ [(b, p)]) := by
  rw [putK_new _ (valQ_none h)]
  unfold qk
  rw [List.map_append]; rfl
theorem dget_none {H : Hp} {d : Addr} {qb : List (Nat × Option Nat)} {b : Nat} (e : H d = some (.dK (qk qb))) (h : b ∉ qb.map Prod.fst) : DGet H d (.int (b : Int)) none := by
  have := DGet.k (k := Sum.inl (b : Int)) e
  rw [valQ_none h] at this
  exact this
theorem dget_some {H : Hp} {d : Addr} {qb : List (Nat × Option Nat)} {i b : Nat} {p : Option Nat} (e : H d = some (.dK (qk qb))) (nd : (qb.map Prod.fst).Nodup) (h : qb[i]? = some (b, p)) : DGet H d (.int (b : Int)) (some (optV p)) := by
  have := DGet.k (k := Sum.inl (b : Int)) e
  rw [valQ_some nd h] at this
  exact this
theorem dput_new {H : Hp} {d : Addr} {qb : List (Nat × Option Nat)} {b : Nat} {p : Option Nat} (e : H d = some (.dK (qk qb))) (h : b ∉ qb.map Prod.fst) (hl : qb.length < 100000) : DPut H d (.int (b : Int)) (optV p) (upd H d (.dK (qk (qb ++ [(b, p)])))) := by
  have := DPut.k (k := Sum.inl (b : Int)) (v := optV p) e (by rw [qk_len]; exact szLt hl)
  rw [qk_put h] at this
  exact this
structure BF (s : WS) (size : Int) (qb : List (Nat × Option Nat)) (dn : Nat) : Prop where
  nd : (qb.map Prod.fst).Nodup
  lt : ∀ b ∈ qb.map Prod.fst, b < s.sizes.length
  root : ∀ i b : Nat, qb[i]? = some (b, none) → size ≤ s.sizes.getD b 0
  par : ∀ i b j : Nat, qb[i]? = some (b, some j) → ∃ k p m, k < i ∧ qb[k]? = some (j, p) ∧ s.inside[j]? = some (some m) ∧ (s.parcels.getD m (0, 0)).1 ≤ s.sizes.getD b 0
  all : ∀ b, b < s.sizes.length → size ≤ s.sizes.getD b 0 → b ∈ qb.map Prod.fst
  cl : ∀ (i j : Nat) (p : Option Nat) (m : Nat), i < dn → qb[i]? = some (j, p) → s.inside[j]? = some (some m) → ∀ b, b < s.sizes.length → (s.parcels.getD m (0, 0)).1 ≤ s.sizes.getD b 0 → b ∈ qb.map Prod.fst
  dl : dn ≤ qb.length
  rf : ∀ i k b c j : Nat, qb[i]? = some (b, none) → qb[k]? = some (c, some j) → i < k
  ro : ∀ i b j : Nat, qb[i]? = some (b, some j) → s.sizes.getD b 0 < size
theorem BF.len {s : WS} {size : Int} {qb : List (Nat × Option Nat)} {dn : Nat} (g : BF s size qb dn) : qb.length ≤ s.sizes.length := by
  have := nodup_le _ _ g.nd g.lt
  rw [List.length_map] at this
  exact this
theorem BF.start {s : WS} {size : Int} : BF s size (((List.range s.sizes.length).filter fun b => decide (size ≤ s.sizes.getD b 0)).map fun b => (b, none)) 0 := by
  have e : ((((List.range s.sizes.length).filter fun b => decide (size ≤ s.sizes.getD b 0)).map fun b => (b, (none : Option Nat))).map Prod.fst) = (List.range s.sizes.length).filter fun b => decide (size ≤ s.sizes.getD b 0) := by
    rw [List.map_map]
    exact List.map_id _
  have at_ : ∀ (i b : Nat) (p : Option Nat), (((List.range s.sizes.length).filter fun b => decide (size ≤ s.sizes.getD b 0)).map fun b => (b, (none : Option Nat)))[i]? = some (b, p) → p = none ∧ size ≤ s.sizes.getD b 0 := fun i b p h => by
    obtain ⟨c, hc, q⟩ := List.mem_map.mp (List.mem_of_getElem? h)
    cases q
    exact ⟨rfl, of_decide_eq_true (List.mem_filter.mp hc).2⟩
  refine ⟨by rw [e]; exact List.Pairwise.filter _ List.nodup_range, fun b hb => ?_, fun i b h => (at_ i b _ h).2, fun i b j h => ?_, fun b h1 h2 => ?_, fun i j p m h => absurd h (Nat.not_lt_zero i), Nat.zero_le _, fun i k b c j _ h => ?_, fun i b j h => ?_⟩
  · rw [e] at hb
    exact List.mem_range.mp (List.mem_filter.mp hb).1
  · have := (at_ i b _ h).1; cases this
  · rw [e]
    exact List.mem_filter.mpr ⟨List.mem_range.mpr h1, decide_eq_true h2⟩
  · have := (at_ k c _ h).1; cases this
  · have := (at_ i b _ h).1; cases this
theorem getSnoc {α : Type} {l : List α} {x y : α} {i : Nat} (h : (l ++ [x])[i]? = some y) : l[i]? = some y ∨ (i = l.length ∧ y = x) := by
  by_cases c : i < l.length
  · rw [List.getElem?_append_left c] at h; exact .inl h
  · rw [List.getElem?_append_right (by omega)] at h
    have := getLt h
    rw [List.length_singleton] at this
    have e : i - l.length = 0 := by omega
    rw [e] at h
    exact .inr ⟨by omega, (Option.some.inj h).symm⟩
theorem getOld {α : Type} {l : List α} {x y : α} {i : Nat} (h : l[i]? = some y) : (l ++ [x])[i]? = some y := by rw [List.getElem?_append_left (getLt h)]; exact h
theorem BF.add {s : WS} {size : Int} {qb : List (Nat × Option Nat)} {dn : Nat} (g : BF s size qb dn) {i0 j m b : Nat} {p : Option Nat} (hj : qb[i0]? = some (j, p)) (hm : s.inside[j]? = some (some m)) (hb : b < s.sizes.length) (hle : (s.parcels.getD m (0, 0)).1 ≤ s.sizes.getD b 0) (hn : b ∉ qb.map Prod.fst) :
    BF s size (qb ++ [(b, some j)]) dn := by
  have e : (qb ++ [(b, some j)]).map Prod.fst = qb.map Prod.fst ++ [b] := by rw [List.map_append]; rfl
  have mo : ∀ c, c ∈ qb.map Prod.fst → c ∈ (qb ++ [(b, some j)]).map Prod.fst := fun c hc => by rw [e]; exact List.mem_append_left _ hc
  refine ⟨?_, fun c hc => ?_, fun i c h => ?_, fun i c k h => ?_, fun c h1 h2 => mo c (g.all c h1 h2), fun i k q m' hi h hm' c h1 h2 => ?_, by rw [List.length_append]; have := g.dl; omega, fun i k a c t h1 h2 => ?_, fun i a t h => ?_⟩
  · rw [e]
    refine List.nodup_append.mpr ⟨g.nd, by simp, fun x hx y hy q => ?_⟩
    rw [List.mem_singleton.mp hy] at q
    exact hn (q ▸ hx)
  · rw [e] at hc
    rcases List.mem_append.mp hc with q | q
    · exact g.lt c q
    · rw [List.mem_singleton.mp q]; exact hb
  · rcases getSnoc h with q | ⟨_, q⟩
    · exact g.root i c q
    · cases q
  · rcases getSnoc h with q | ⟨q1, q⟩
    · obtain ⟨k', p', m', h1, h2, h3, h4⟩ := g.par i c k q
      exact ⟨k', p', m', h1, getOld h2, h3, h4⟩
    · cases q
      exact ⟨i0, p, m, by rw [q1]; exact getLt hj, getOld hj, hm, hle⟩
  · rcases getSnoc h with q | ⟨q1, q⟩
    · exact mo c (g.cl i k _ m' hi q hm' c h1 h2)
    · have := g.dl; omega
  · rcases getSnoc h1 with q | ⟨_, q⟩
    · rcases getSnoc h2 with q' | ⟨q', _⟩
      · exact g.rf i k a c t q q'
      · rw [q']; exact getLt q
    · cases q
  · rcases getSnoc h with q | ⟨_, q⟩
    · exact g.ro i a t q
    · cases q
      apply Classical.byContradiction
      intro z
      exact hn (g.all b hb (by omega))
theorem BF.next {s : WS} {size : Int} {qb : List (Nat × Option Nat)} {dn : Nat} (g : BF s size qb dn) {j : Nat} {p : Option Nat} (hj : qb[dn]? = some (j, p)) (hc : ∀ m : Nat, s.inside[j]? = some (some m) → ∀ b, b < s.sizes.length → (s.parcels.getD m (0, 0)).1 ≤ s.sizes.getD b 0 → b ∈ qb.map Prod.fst) : BF s size qb (dn + 1) := by
  refine ⟨g.nd, g.lt, g.root, g.par, g.all, fun i k q m hi h hm b h1 h2 => ?_, by have := getLt hj; omega, g.rf, g.ro⟩
  by_cases c : i < dn
  · exact g.cl i k q m c h hm b h1 h2
  · have e : i = dn := by omega
    subst e
    rw [hj] at h
    cases h
    exact hc m hm b h1 h2
end Pw
namespace Pw
/-- the moves from an empty box back along the boxes that were reached -/
inductive Mv (s : WS) (ks : List Nat) (e : Nat) : List (Int × Int) → Nat → Prop
  | nil : Mv s ks e [] e
  | snoc {mv : List (Int × Int)} {b j m : Nat} : Mv s ks e mv b → s.inside[j]? = some (some m) → (s.parcels.getD m (0, 0)).1 ≤ s.sizes.getD b 0 → (∃ k i : Nat, k < i ∧ ks[k]? = some j ∧ ks[i]? = some b) → Mv s ks e (mv ++ [((m : Int), (b : Int))]) j
structure TooMany (s : WS) (size least : Int) (R : List Nat) : Prop where
  nd : R.Nodup
  iff : ∀ b, b ∈ R ↔ (b < s.sizes.length ∧ least ≤ s.sizes.getD b 0)
  full : ∀ b ∈ R, ∃ m, s.inside[b]? = some (some m) ∧ least ≤ (s.parcels.getD m (0, 0)).1
  le : least ≤ size
  is : least = size ∨ ∃ b ∈ R, ∃ m, s.inside[b]? = some (some m) ∧ least = (s.parcels.getD m (0, 0)).1
def psz (s : WS) (b : Nat) : Int := (s.parcels.getD ((s.inside.getD b none).getD 0) (0, 0)).1
theorem psz_of {s : WS} {b m : Nat} (h : s.inside[b]? = some (some m)) : psz s b = (s.parcels.getD m (0, 0)).1 := by
  have e : s.inside.getD b none = some m := by rw [List.getD_eq_getElem?_getD, h]; rfl
  unfold psz
  rw [e]; rfl
theorem headFirst {α : Type} {p : α → Bool} : ∀ {l : List α} {x : α} {r : List α}, l.filter p = x :: r → ∃ i : Nat, l[i]? = some x ∧ ∀ (k : Nat) (y : α), l[k]? = some y → p y = true → i ≤ k
  | [], x, r, h => by simp at h
  | a :: l, x, r, h => by
    rw [List.filter_cons] at h
    split at h
    · cases h
      exact ⟨0, rfl, fun k y _ _ => Nat.zero_le _⟩
    · rename_i hn
      obtain ⟨i, h1, h2⟩ := headFirst h
      refine ⟨i + 1, h1, fun k y hk hy => ?_⟩
      cases k with
      | zero =>
        have e : a = y := Option.some.inj hk
        subst e
        exact absurd hy hn
      | succ k => exact Nat.succ_le_succ (h2 k y hk hy)
theorem BF.many {s : WS} {size least : Int} {qb : List (Nat × Option Nat)} (g : BF s size qb qb.length) (hf : ∀ b ∈ qb.map Prod.fst, ∃ m, s.inside[b]? = some (some m)) (hm : least ∈ size :: (qb.map Prod.fst).map (psz s)) (hle : ∀ y ∈ size :: (qb.map Prod.fst).map (psz s), least ≤ y) : TooMany s size least (qb.map Prod.fst) := by
  have h1 : least ≤ size := hle size List.mem_cons_self
  have h2 : ∀ b ∈ qb.map Prod.fst, least ≤ psz s b := fun b hb => hle _ (List.mem_cons_of_mem _ (List.mem_map.mpr ⟨b, hb, rfl⟩))
  refine ⟨g.nd, fun b => ⟨fun hb => ⟨g.lt b hb, ?_⟩, fun ⟨hb, hl⟩ => ?_⟩, fun b hb => ?_, h1, ?_⟩
  · obtain ⟨⟨b', p⟩, he, eb⟩ := List.mem_map.mp hb
    have eb : b' = b := eb
    subst eb
    obtain ⟨i, hi, ei⟩ := List.getElem_of_mem he
    have hq : qb[i]? = some (b', p) := by rw [List.getElem?_eq_getElem hi, ei]
    cases p with
    | none => have := g.root i b' hq; omega
    | some j =>
      obtain ⟨k, p', m, k1, k2, k3, k4⟩ := g.par i b' j hq
      have := h2 j (List.mem_map.mpr ⟨_, List.mem_of_getElem? k2, rfl⟩)
      rw [psz_of k3] at this
      omega
  · rcases List.mem_cons.mp hm with e | e
    · exact g.all b hb (by omega)
    · obtain ⟨j, hj, ej⟩ := List.mem_map.mp e
      obtain ⟨m, hmj⟩ := hf j hj
      rw [psz_of hmj] at ej
      obtain ⟨⟨j', p⟩, he, e2⟩ := List.mem_map.mp hj
      have e2 : j' = j := e2
      subst e2
      obtain ⟨i, hi, ei⟩ := List.getElem_of_mem he
      exact g.cl i j' p m hi (by rw [List.getElem?_eq_getElem hi, ei]) hmj b hb (by omega)
  · obtain ⟨m, hmj⟩ := hf b hb
    have := h2 b hb
    rw [psz_of hmj] at this
    exact ⟨m, hmj, this⟩
  · rcases List.mem_cons.mp hm with e | e
    · exact .inl e
    · obtain ⟨j, hj, ej⟩ := List.mem_map.mp e
      obtain ⟨m, hmj⟩ := hf j hj
      rw [psz_of hmj] at ej
      exact .inr ⟨j, hj, m, hmj, ej.symm⟩
end Pw
namespace Pw
/-! ### all ways of moving parcels, from what the boxes hold (plain) -/
abbrev Cfg := List (Option Nat)
def mvC (sizes : List Int) (c : Cfg) (h b : Nat) : Option Cfg :=
  match c[h]?, c[b]? with
  | some (some v), some none => if (v : Int) ≤ sizes.getD b 0 then some ((c.set b (some v)).set h none) else none
  | _, _ => none
theorem mvC_some {sizes : List Int} {c c1 : Cfg} {h b : Nat} (e : mvC sizes c h b = some c1) : ∃ v : Nat, c[h]? = some (some v) ∧ c[b]? = some none ∧ (v : Int) ≤ sizes.getD b 0 ∧ c1 = (c.set b (some v)).set h none := by
  unfold mvC at e
  split at e
  · rename_i v h1 h2
    split at e
    · rename_i h3
      exact ⟨v, h1, h2, h3, (Option.some.inj e).symm⟩
    · cases e
  · cases e
theorem mvC_of {sizes : List Int} {c : Cfg} {h b v : Nat} (h1 : c[h]? = some (some v)) (h2 : c[b]? = some none) (h3 : (v : Int) ≤ sizes.getD b 0) : mvC sizes c h b = some ((c.set b (some v)).set h none) := by
  unfold mvC
  rw [h1, h2]
  show (if _ then _ else _) = _
  rw [if_pos h3]
def StC (sizes : List Int) (c c1 : Cfg) : Prop := ∃ h b, mvC sizes c h b = some c1
def ReadyC (sizes : List Int) (size : Int) (c : Cfg) : Prop := ∃ b : Nat, c[b]? = some none ∧ size ≤ sizes.getD b 0
inductive RnC (sizes : List Int) (c0 : Cfg) : Nat → Cfg → Prop
  | zero : RnC sizes c0 0 c0
  | step {n : Nat} {c c1 : Cfg} : RnC sizes c0 n c → StC sizes c c1 → RnC sizes c0 (n + 1) c1
theorem RnC.head {sizes : List Int} {c0 c1 c2 : Cfg} {n : Nat} (s : StC sizes c0 c1) (r : RnC sizes c1 n c2) : RnC sizes c0 (n + 1) c2 := by
  induction r with
  | zero => exact .step .zero s
  | step _ st ih => exact .step ih st
def CanC (sizes : List Int) (size : Int) : Nat → Cfg → Prop
  | 0, c => ReadyC sizes size c
  | n + 1, c => ∃ c1, StC sizes c c1 ∧ CanC sizes size n c1
theorem RnC.can {sizes : List Int} {size : Int} {c0 c : Cfg} {n : Nat} (r : RnC sizes c0 n c) : ∀ k, CanC sizes size k c → CanC sizes size (n + k) c0 := by
  induction r with
  | zero => intro k h; rw [Nat.zero_add]; exact h
  | @step n c c1 _ st ih =>
    intro k h
    have := ih (k + 1) ⟨c1, st, h⟩
    rw [show n + 1 + k = n + (k + 1) by omega]
    exact this
theorem CanC.rn {sizes : List Int} {size : Int} : ∀ {n : Nat} {c : Cfg}, CanC sizes size n c → ∃ c1, RnC sizes c n c1 ∧ ReadyC sizes size c1
  | 0, c, h => ⟨c, .zero, h⟩
  | n + 1, c, ⟨c1, st, h⟩ => by
    obtain ⟨c2, r, q⟩ := CanC.rn h
    exact ⟨c2, r.head st, q⟩
/-- the boxes from which a parcel could make way, by steps -/
inductive PathC (sizes : List Int) (size : Int) (c : Cfg) : Nat → Nat → Prop
  | root {b : Nat} : b < c.length → size ≤ sizes.getD b 0 → PathC sizes size c 0 b
  | step {n j b v : Nat} : PathC sizes size c n j → c[j]? = some (some v) → b < c.length → (v : Int) ≤ sizes.getD b 0 → PathC sizes size c (n + 1) b
theorem PathC.lt {sizes : List Int} {size : Int} {c : Cfg} {n b : Nat} (p : PathC sizes size c n b) : b < c.length := by cases p <;> assumption
theorem lenSS {α : Type} {c : List α} {b h : Nat} {x y : α} : ((c.set b x).set h y).length = c.length := by rw [List.length_set, List.length_set]
/-- a move brings the nearest empty box nearer by one at most -/
theorem PathC.back {sizes : List Int} {size : Int} {c c1 : Cfg} (st : StC sizes c c1) {m x : Nat} (p : PathC sizes size c1 m x) (hx : c1[x]? = some none) : ∃ m' b, m' ≤ m + 1 ∧ PathC sizes size c m' b ∧ c[b]? = some none := by
  obtain ⟨h, b, e⟩ := st
  obtain ⟨v, hh, hb, hv, rfl⟩ := mvC_some e
  have hb' : b < c.length := (List.getElem?_eq_some_iff.mp hb).1
  have hh' : h < c.length := (List.getElem?_eq_some_iff.mp hh).1
  have hne : h ≠ b := fun q => by rw [q, hb] at hh; cases hh
  have key : PathC sizes size c m x ∨ ∃ m', m' ≤ m ∧ PathC sizes size c m' b := by
    clear hx
    induction p with
    | root h1 h2 => rw [lenSS] at h1; exact .inl (.root h1 h2)
    | @step n j y w _ hj hy hw ih =>
      rw [lenSS] at hy
      rcases ih with q | ⟨m', h1, h2⟩
      · by_cases jb : j = b
        · subst jb; exact .inr ⟨n, by omega, q⟩
        · by_cases jh : j = h
          · subst jh
            rw [List.getElem?_set_self (by rw [List.length_set]; exact hh')] at hj
            cases hj
          · rw [List.getElem?_set_ne (Ne.symm jh), List.getElem?_set_ne (Ne.symm jb)] at hj
            exact .inl (.step q hj hy hw)
      · exact .inr ⟨m', by omega, h2⟩
  rcases key with q | ⟨m', h1, h2⟩
  · by_cases xh : x = h
    · subst xh
      exact ⟨m + 1, b, Nat.le_refl _, .step q hh hb' hv, hb⟩
    · rw [List.getElem?_set_ne (Ne.symm xh)] at hx
      by_cases xb : x = b
      · subst xb
        rw [List.getElem?_set_self hb'] at hx
        cases hx
      · rw [List.getElem?_set_ne (Ne.symm xb)] at hx
        exact ⟨m, x, by omega, q, hx⟩
  · exact ⟨m', b, by omega, h2, hb⟩
theorem CanC.path {sizes : List Int} {size : Int} : ∀ {n : Nat} {c : Cfg}, CanC sizes size n c → ∃ m b, m ≤ n ∧ PathC sizes size c m b ∧ c[b]? = some none
  | 0, c, ⟨b, h1, h2⟩ => ⟨0, b, Nat.le_refl _, .root (List.getElem?_eq_some_iff.mp h1).1 h2, h1⟩
  | n + 1, c, ⟨c1, st, h⟩ => by
    obtain ⟨m, x, hm, p, hx⟩ := CanC.path h
    obtain ⟨m', b, h1, h2, h3⟩ := p.back st hx
    exact ⟨m', b, by omega, h2, h3⟩
/-- along a way, parcels are moved, the last first -/
theorem PathC.can {sizes : List Int} {size : Int} : ∀ (k m : Nat) {c : Cfg} {b : Nat}, m ≤ k → PathC sizes size c m b → c[b]? = some none → ∃ m', m' ≤ m ∧ CanC sizes size m' c := by
  intro k
  induction k with
  | zero =>
    intro m c b hk p hb
    have e : m = 0 := by omega
    subst e
    cases p with
    | root h1 h2 => exact ⟨0, Nat.le_refl _, b, hb, h2⟩
  | succ k ih =>
    intro m c b hk p hb
    cases p with
    | root h1 h2 => exact ⟨0, Nat.le_refl _, b, hb, h2⟩
    | @step n j _ v p hj hbl hv =>
      have hjl : j < c.length := p.lt
      have key : ∀ {n x : Nat}, PathC sizes size c n x → PathC sizes size ((c.set b (some v)).set j none) n x ∨ ∃ m', m' ≤ n ∧ PathC sizes size ((c.set b (some v)).set j none) m' j := by
        intro n x p
        induction p with
        | root h1 h2 => exact .inl (.root (by rw [lenSS]; exact h1) h2)
        | @step n i y w _ hi hy hw ih =>
          rcases ih with q | ⟨m', h1, h2⟩
          · by_cases ij : i = j
            · subst ij; exact .inr ⟨n, by omega, q⟩
            · by_cases ib : i = b
              · subst ib; rw [hb] at hi; cases hi
              · refine .inl (.step q (v := w) ?_ (by rw [lenSS]; exact hy) hw)
                rw [List.getElem?_set_ne (Ne.symm ij), List.getElem?_set_ne (Ne.symm ib)]
                exact hi
          · exact .inr ⟨m', by omega, h2⟩
      have q : ∃ m', m' ≤ n ∧ PathC sizes size ((c.set b (some v)).set j none) m' j := by
        rcases key p with q | q
        · exact ⟨n, Nat.le_refl _, q⟩
        · exact q
      obtain ⟨m', h1, h2⟩ := q
      obtain ⟨m2, h3, h4⟩ := ih m' (by omega) h2 (List.getElem?_set_self (by rw [List.length_set]; exact hjl))
      exact ⟨m2 + 1, by omega, _, ⟨j, b, mvC_of hj hb hv⟩, h4⟩
/-- the way to the nearest empty box is as long as the fewest moves -/
theorem fewest {sizes : List Int} {size : Int} {c : Cfg} {L b k : Nat} (p : PathC sizes size c L b) (hb : c[b]? = some none) (mn : ∀ m x, PathC sizes size c m x → c[x]? = some none → L ≤ m)
    {c1 : Cfg} (r : RnC sizes c k c1) (hr : ReadyC sizes size c1) (nr : ∀ m, m < k → ∀ c2, RnC sizes c m c2 → ¬ ReadyC sizes size c2) : k = L := by
  have h1 : CanC sizes size k c := by have := r.can (size := size) 0 hr; rw [Nat.add_zero] at this; exact this
  obtain ⟨m, x, hm, q, hx⟩ := h1.path
  have h2 := mn m x q hx
  obtain ⟨m', h3, h4⟩ := p.can L L (Nat.le_refl _) hb
  obtain ⟨c2, h5, h6⟩ := h4.rn
  have h7 : ¬ m' < k := fun z => nr m' z c2 h5 h6
  omega
theorem fewestNone {sizes : List Int} {size : Int} {c : Cfg} {L b k : Nat} (p : PathC sizes size c L b) (hb : c[b]? = some none) (hl : L < k) (nr : ∀ m, m < k → ∀ c2, RnC sizes c m c2 → ¬ ReadyC sizes size c2) : False := by
  obtain ⟨m', h3, h4⟩ := p.can L L (Nat.le_refl _) hb
  obtain ⟨c2, h5, h6⟩ := h4.rn
  exact nr m' (by omega) c2 h5 h6
theorem fewestMany {sizes : List Int} {size : Int} {c c1 : Cfg} {k : Nat} (mn : ∀ m x, PathC sizes size c m x → c[x]? ≠ some none) (r : RnC sizes c k c1) (hr : ReadyC sizes size c1) : False := by
  have h1 : CanC sizes size k c := by have := r.can (size := size) 0 hr; rw [Nat.add_zero] at this; exact this
  obtain ⟨m, x, hm, q, hx⟩ := h1.path
  exact mn m x q hx
/-! ### how many there are -/
theorem nodupSub {α : Type} [BEq α] [LawfulBEq α] : ∀ {l m : List α}, l.Nodup → (∀ x ∈ l, x ∈ m) → l.length ≤ m.length
  | [], m, _, _ => Nat.zero_le _
  | x :: l, m, nd, h => by
    have n1 := List.nodup_cons.mp nd
    have hx := h x List.mem_cons_self
    have := nodupSub (l := l) (m := m.erase x) n1.2 fun y hy => (List.mem_erase_of_ne (fun e : y = x => n1.1 (by rw [← e]; exact hy))).mpr (h y (List.mem_cons_of_mem _ hy))
    rw [List.length_erase_of_mem hx] at this
    have := List.length_pos_of_mem hx
    rw [List.length_cons]
    omega
def wordsC (A : Cfg) : Nat → List Cfg
  | 0 => [[]]
  | n + 1 => A.flatMap fun a => (wordsC A n).map fun w => a :: w
theorem words_len {A : Cfg} : ∀ n, (wordsC A n).length = A.length ^ n
  | 0 => rfl
  | n + 1 => by
    show (A.flatMap fun a => (wordsC A n).map fun w => a :: w).length = _
    have : ∀ B : Cfg, (B.flatMap fun a => (wordsC A n).map fun w => a :: w).length = B.length * A.length ^ n := by
      intro B
      induction B with
      | nil => simp
      | cons x B ih =>
        rw [List.flatMap_cons, List.length_append, List.length_map, words_len n, ih, List.length_cons, Nat.succ_mul]
        omega
    rw [this, Nat.pow_succ, Nat.mul_comm]
theorem words_mem {A : Cfg} : ∀ {c : Cfg}, (∀ x ∈ c, x ∈ A) → c ∈ wordsC A c.length
  | [], _ => List.mem_singleton_self _
  | x :: c, h => List.mem_flatMap.mpr ⟨x, h x List.mem_cons_self, List.mem_map.mpr ⟨c, words_mem fun y hy => h y (List.mem_cons_of_mem _ hy), rfl⟩⟩
structure OkC (c0 c : Cfg) : Prop where
  len : c.length = c0.length
  mem : ∀ x ∈ c, x ∈ c0
theorem RnC.ok {sizes : List Int} {c0 c : Cfg} {n : Nat} (r : RnC sizes c0 n c) : OkC c0 c := by
  induction r with
  | zero => exact ⟨rfl, fun _ h => h⟩
  | step _ st ih =>
    obtain ⟨h, b, e⟩ := st
    obtain ⟨v, h1, h2, _, rfl⟩ := mvC_some e
    refine ⟨by rw [lenSS]; exact ih.len, fun x hx => ?_⟩
    rcases List.mem_or_eq_of_mem_set hx with q | q
    · rcases List.mem_or_eq_of_mem_set q with q | q
      · exact ih.mem x q
      · rw [q]; exact ih.mem _ (List.mem_of_getElem? h1)
    · rw [q]; exact ih.mem _ (List.mem_of_getElem? h2)
theorem manyC {c0 : Cfg} {l : List Cfg} (h5 : c0.length ≤ 5) (nd : l.Nodup) (h : ∀ c ∈ l, OkC c0 c) : l.length ≤ 3125 := by
  have h1 : l.length ≤ (wordsC c0 c0.length).length := nodupSub nd fun c hc => by
    have := words_mem (h c hc).mem
    rw [(h c hc).len] at this
    exact this
  rw [words_len] at h1
  have : c0.length = 0 ∨ c0.length = 1 ∨ c0.length = 2 ∨ c0.length = 3 ∨ c0.length = 4 ∨ c0.length = 5 := by omega
  rcases this with e | e | e | e | e | e <;> (rw [e] at h1; simp at h1; omega)
/-! ### level by level -/
structure LvC (sizes : List Int) (size : Int) (c0 : Cfg) (k : Nat) (seen level : List Cfg) : Prop where
  nd : seen.Nodup
  lev : ∀ c ∈ level, RnC sizes c0 k c
  com : ∀ c, RnC sizes c0 k c → c ∈ level ∨ ∃ m, m < k ∧ RnC sizes c0 m c
  sn : ∀ c ∈ seen, ∃ m, m ≤ k ∧ RnC sizes c0 m c
  nr : ∀ m, m < k → ∀ c, RnC sizes c0 m c → ¬ ReadyC sizes size c
theorem LvC.start {sizes : List Int} {size : Int} {c0 : Cfg} : LvC sizes size c0 0 [c0] [c0] := by
  refine ⟨by simp, fun c hc => ?_, fun c r => ?_, fun c hc => ⟨0, Nat.le_refl _, ?_⟩, fun m hm => absurd hm (Nat.not_lt_zero _)⟩
  · rw [List.mem_singleton.mp hc]; exact .zero
  · cases r; exact .inl (List.mem_singleton_self _)
  · rw [List.mem_singleton.mp hc]; exact .zero
/-- within a level: the first of its ways are gone through, further ones found -/
structure LwC (sizes : List Int) (size : Int) (c0 : Cfg) (k : Nat) (level : List Cfg) (seen : List Cfg) (fu : List Cfg) (i : Nat) : Prop where
  nd : seen.Nodup
  fur : ∀ c ∈ fu, RnC sizes c0 (k + 1) c
  sn : ∀ c ∈ seen, (∃ m, m ≤ k ∧ RnC sizes c0 m c) ∨ c ∈ fu
  dn : ∀ (j : Nat) (c : Cfg), j < i → level[j]? = some c → ¬ ReadyC sizes size c ∧ ∀ c1, StC sizes c c1 → c1 ∈ seen
  le : fu.length ≤ seen.length
theorem LvC.go {sizes : List Int} {size : Int} {c0 : Cfg} {k : Nat} {seen level : List Cfg} (g : LvC sizes size c0 k seen level) : LwC sizes size c0 k level seen [] 0 :=
  ⟨g.nd, fun c hc => (by cases hc), fun c hc => .inl (g.sn c hc), fun j c hj => absurd hj (Nat.not_lt_zero _), Nat.zero_le _⟩
theorem LwC.ok {sizes : List Int} {size : Int} {c0 : Cfg} {k : Nat} {level seen fu : List Cfg} {i : Nat} (g : LwC sizes size c0 k level seen fu i) : ∀ c ∈ seen, OkC c0 c := fun c hc => by
  rcases g.sn c hc with ⟨m, _, r⟩ | q
  · exact r.ok
  · exact (g.fur c q).ok
theorem LwC.add {sizes : List Int} {size : Int} {c0 : Cfg} {k : Nat} {level seen fu : List Cfg} {i : Nat} (g : LwC sizes size c0 k level seen fu i) {c c1 : Cfg} (r : RnC sizes c0 k c) (st : StC sizes c c1) (hn : c1 ∉ seen) : LwC sizes size c0 k level (seen ++ [c1]) (fu ++ [c1]) i := by
  refine ⟨List.nodup_append.mpr ⟨g.nd, by simp, fun x hx y hy e => ?_⟩, fun d hd => ?_, fun d hd => ?_, fun j d hj hd => ⟨(g.dn j d hj hd).1, fun d1 s => List.mem_append_left _ ((g.dn j d hj hd).2 d1 s)⟩, by rw [List.length_append, List.length_append]; have := g.le; omega⟩
  · rw [List.mem_singleton.mp hy] at e
    exact hn (e ▸ hx)
  · rcases List.mem_append.mp hd with q | q
    · exact g.fur d q
    · rw [List.mem_singleton.mp q]; exact .step r st
  · rcases List.mem_append.mp hd with q | q
    · rcases g.sn d q with q | q
      · exact .inl q
      · exact .inr (List.mem_append_left _ q)
    · exact .inr (List.mem_append_right _ q)
theorem LwC.next {sizes : List Int} {size : Int} {c0 : Cfg} {k : Nat} {level seen fu : List Cfg} {i : Nat} (g : LwC sizes size c0 k level seen fu i) {c : Cfg} (hc : level[i]? = some c) (nr : ¬ ReadyC sizes size c) (all : ∀ c1, StC sizes c c1 → c1 ∈ seen) : LwC sizes size c0 k level seen fu (i + 1) := by
  refine ⟨g.nd, g.fur, g.sn, fun j d hj hd => ?_, g.le⟩
  by_cases e : j < i
  · exact g.dn j d e hd
  · have e : j = i := by omega
    subst e
    rw [hc] at hd
    cases hd
    exact ⟨nr, all⟩
theorem LwC.lv {sizes : List Int} {size : Int} {c0 : Cfg} {k : Nat} {seen0 level seen fu : List Cfg} (g0 : LvC sizes size c0 k seen0 level) (g : LwC sizes size c0 k level seen fu level.length) : LvC sizes size c0 (k + 1) seen fu := by
  have at_ : ∀ c ∈ level, ¬ ReadyC sizes size c ∧ ∀ c1, StC sizes c c1 → c1 ∈ seen := fun c hc => by
    obtain ⟨j, hj⟩ := List.getElem?_of_mem hc
    exact g.dn j c (List.getElem?_eq_some_iff.mp hj).1 hj
  refine ⟨g.nd, g.fur, fun c r => ?_, fun c hc => ?_, fun m hm c r => ?_⟩
  · cases r with
    | step r st =>
      rcases g0.com _ r with q | ⟨m, hm, q⟩
      · rcases g.sn _ ((at_ _ q).2 _ st) with ⟨m, hm, z⟩ | z
        · exact .inr ⟨m, by omega, z⟩
        · exact .inl z
      · exact .inr ⟨m + 1, by omega, .step q st⟩
  · rcases g.sn c hc with ⟨m, hm, z⟩ | z
    · exact ⟨m, by omega, z⟩
    · exact ⟨k + 1, Nat.le_refl _, g.fur c z⟩
  · by_cases e : m < k
    · exact g0.nr m e c r
    · have e : m = k := by omega
      subst e
      rcases g0.com c r with q | ⟨m, hm, q⟩
      · exact (at_ c q).1
      · exact g0.nr m hm c q
/-- the row of boxes by one greater, each but the least with a parcel one less -/
theorem rowPath {n m b : Nat} (p : PathC ((List.range n).map fun k : Nat => (1 : Int) + (k : Int)) (n : Int) (none :: (List.range (n - 1)).map fun k : Nat => some (1 + k)) m b) (n0 : 1 ≤ n) : n ≤ b + 1 + m := by
  have sz : ∀ b : Nat, b < n → ((List.range n).map fun k : Nat => (1 : Int) + (k : Int)).getD b 0 = 1 + (b : Int) := fun b hb => by
    rw [List.getD_eq_getElem?_getD, List.getElem?_map, List.getElem?_range hb]; rfl
  have ln : (none :: (List.range (n - 1)).map fun k : Nat => some (1 + k)).length = n := by simp; omega
  induction p with
  | root h1 h2 =>
    rw [ln] at h1
    rw [sz _ h1] at h2
    omega
  | @step m j b v _ hj hb hv ih =>
    rw [ln] at hb
    rw [sz _ hb] at hv
    cases j with
    | zero => cases hj
    | succ j =>
      have hj : ((List.range (n - 1)).map fun k : Nat => some (1 + k))[j]? = some (some v) := hj
      rw [List.getElem?_map] at hj
      cases q : (List.range (n - 1))[j]? with
      | none => rw [q] at hj; cases hj
      | some z =>
        rw [q] at hj
        have e1 : z = j := by
          have := List.getElem?_eq_some_iff.mp q
          obtain ⟨_, e⟩ := this
          rw [List.getElem_range] at e
          exact e.symm
        have e2 : 1 + z = v := Option.some.inj (Option.some.inj hj)
        omega
theorem rowWay {n : Nat} (n0 : 1 ≤ n) : ∀ m, m < n → PathC ((List.range n).map fun k : Nat => (1 : Int) + (k : Int)) (n : Int) (none :: (List.range (n - 1)).map fun k : Nat => some (1 + k)) m (n - 1 - m) := by
  have sz : ∀ b : Nat, b < n → ((List.range n).map fun k : Nat => (1 : Int) + (k : Int)).getD b 0 = 1 + (b : Int) := fun b hb => by
    rw [List.getD_eq_getElem?_getD, List.getElem?_map, List.getElem?_range hb]; rfl
  have ln : (none :: (List.range (n - 1)).map fun k : Nat => some (1 + k)).length = n := by simp; omega
  intro m
  induction m with
  | zero => intro _; exact .root (by rw [ln]; omega) (by rw [sz _ (by omega)]; omega)
  | succ m ih =>
    intro hm
    refine .step (ih (by omega)) (v := n - 1 - m) ?_ (by rw [ln]; omega) (by rw [sz _ (by omega)]; omega)
    obtain ⟨j, e⟩ : ∃ j, n - 1 - m = j + 1 := ⟨n - 2 - m, by omega⟩
    rw [e]
    show ((List.range (n - 1)).map fun k : Nat => some (1 + k))[j]? = _
    rw [List.getElem?_map, List.getElem?_range (by omega)]
    show some (some (1 + j)) = some (some (j + 1))
    rw [Nat.add_comm]
end Pw
namespace Pw
/-! ### the boxes that are reached, by steps -/
theorem uqB {qb : List (Nat × Option Nat)} (nd : (qb.map Prod.fst).Nodup) {a c t : Nat} {p q : Option Nat} (h1 : qb[a]? = some (t, p)) (h2 : qb[c]? = some (t, q)) : a = c := by
  have e1 : (qb.map Prod.fst)[a]? = some t := by rw [List.getElem?_map, h1]; rfl
  have e2 : (qb.map Prod.fst)[c]? = some t := by rw [List.getElem?_map, h2]; rfl
  exact (List.getElem?_inj (getLt e1) nd).mp (e1.trans e2.symm)
structure BX (s : WS) (size : Int) (qb : List (Nat × Option Nat)) (dn : Nat) : Prop where
  bf : BF s size qb dn
  pm : ∀ (i k b c j t a d : Nat) (p q : Option Nat), i < k → qb[i]? = some (b, some j) → qb[k]? = some (c, some t) → qb[a]? = some (j, p) → qb[d]? = some (t, q) → a ≤ d
  fp : ∀ (k j m b i t a : Nat) (p q : Option Nat), k < dn → qb[k]? = some (j, p) → s.inside[j]? = some (some m) → b < s.sizes.length → (s.parcels.getD m (0, 0)).1 ≤ s.sizes.getD b 0 → qb[i]? = some (b, some t) → qb[a]? = some (t, q) → a ≤ k
  pd : ∀ (i b j a : Nat) (p : Option Nat), qb[i]? = some (b, some j) → qb[a]? = some (j, p) → a ≤ dn
theorem BX.start {s : WS} {size : Int} : BX s size (((List.range s.sizes.length).filter fun b => decide (size ≤ s.sizes.getD b 0)).map fun b => (b, none)) 0 := by
  have at_ : ∀ (i b : Nat) (p : Option Nat), (((List.range s.sizes.length).filter fun b => decide (size ≤ s.sizes.getD b 0)).map fun b => (b, (none : Option Nat)))[i]? = some (b, p) → p = none := fun i b p h => by
    obtain ⟨c, hc, q⟩ := List.mem_map.mp (List.mem_of_getElem? h)
    cases q
    rfl
  refine ⟨BF.start, fun i k b c j t a d p q _ h => ?_, fun k j m b i t a p q hk => absurd hk (Nat.not_lt_zero _), fun i b j a p h => ?_⟩
  · have := at_ i b _ h; cases this
  · have := at_ i b _ h; cases this
theorem BX.add {s : WS} {size : Int} {qb : List (Nat × Option Nat)} {dn : Nat} (g : BX s size qb dn) {j m b : Nat} {p : Option Nat} (hj : qb[dn]? = some (j, p)) (hm : s.inside[j]? = some (some m)) (hb : b < s.sizes.length) (hle : (s.parcels.getD m (0, 0)).1 ≤ s.sizes.getD b 0) (hn : b ∉ qb.map Prod.fst) :
    BX s size (qb ++ [(b, some j)]) dn := by
  have g2 := g.bf.add hj hm hb hle hn
  have un : ∀ {a c t : Nat} {p q : Option Nat}, (qb ++ [(b, some j)])[a]? = some (t, p) → qb[c]? = some (t, q) → a = c := fun h1 h2 => uqB g2.nd h1 (getOld h2)
  have dl := getLt hj
  refine ⟨g2, fun i k x c jj t a d p1 q1 hik h1 h2 h3 h4 => ?_, fun k jj mm x i t a p1 q1 hk h1 h2 h3 h4 h5 h6 => ?_, fun i x jj a p1 h1 h2 => ?_⟩
  · rcases getSnoc h2 with q | ⟨q, e⟩
    · rcases getSnoc h1 with z | ⟨z, _⟩
      · obtain ⟨a', p', _, _, ha', _⟩ := g.bf.par i x jj z
        obtain ⟨d', q', _, _, hd', _⟩ := g.bf.par k c t q
        rw [un h3 ha', un h4 hd']
        exact g.pm i k x c jj t a' d' p' q' hik z q ha' hd'
      · have := getLt q; omega
    · cases e
      have ed : d = dn := un h4 hj
      rcases getSnoc h1 with z | ⟨z, _⟩
      · obtain ⟨a', p', _, _, ha', _⟩ := g.bf.par i x jj z
        rw [un h3 ha', ed]
        exact g.pd i x jj a' p' z ha'
      · omega
  · rcases getSnoc h1 with z | ⟨z, _⟩
    · have xin := g.bf.cl k jj p1 mm hk z h2 x h3 h4
      rcases getSnoc h5 with y | ⟨_, e⟩
      · obtain ⟨a', p', _, _, ha', _⟩ := g.bf.par i x t y
        rw [un h6 ha']
        exact g.fp k jj mm x i t a' p1 p' hk z h2 h3 h4 y ha'
      · cases e
        exact absurd xin hn
    · omega
  · rcases getSnoc h1 with z | ⟨_, e⟩
    · obtain ⟨a', p', _, _, ha', _⟩ := g.bf.par i x jj z
      rw [un h2 ha']
      exact g.pd i x jj a' p' z ha'
    · cases e
      exact Nat.le_of_eq (un h2 hj)
theorem BX.next {s : WS} {size : Int} {qb : List (Nat × Option Nat)} {dn : Nat} (g : BX s size qb dn) {j : Nat} {p : Option Nat} (hj : qb[dn]? = some (j, p)) (hc : ∀ m : Nat, s.inside[j]? = some (some m) → ∀ b, b < s.sizes.length → (s.parcels.getD m (0, 0)).1 ≤ s.sizes.getD b 0 → b ∈ qb.map Prod.fst) : BX s size qb (dn + 1) := by
  refine ⟨g.bf.next hj hc, g.pm, fun k jj mm x i t a p1 q1 hk h1 h2 h3 h4 h5 h6 => ?_, fun i x jj a p1 h1 h2 => by have := g.pd i x jj a p1 h1 h2; omega⟩
  by_cases e : k < dn
  · exact g.fp k jj mm x i t a p1 q1 e h1 h2 h3 h4 h5 h6
  · have := g.pd i x t a q1 h5 h6
    omega
/-- how many steps the box at a place of the queue is away -/
inductive Dp (qb : List (Nat × Option Nat)) : Nat → Nat → Prop
  | root {i b : Nat} : qb[i]? = some (b, none) → Dp qb i 0
  | step {i b j a n : Nat} {p : Option Nat} : qb[i]? = some (b, some j) → qb[a]? = some (j, p) → Dp qb a n → Dp qb i (n + 1)
section
variable {s : WS} {size : Int} {qb : List (Nat × Option Nat)} {dn : Nat}
theorem BX.depth (g : BX s size qb dn) : ∀ (k i : Nat), i ≤ k → i < qb.length → ∃ n, Dp qb i n ∧ n ≤ i := by
  intro k
  induction k with
  | zero =>
    intro i hi hl
    obtain ⟨⟨b, p⟩, hb⟩ := getOf hl
    cases p with
    | none => exact ⟨0, .root hb, Nat.zero_le _⟩
    | some j =>
      obtain ⟨a, p', _, ha, _⟩ := g.bf.par i b j hb
      omega
  | succ k ih =>
    intro i hi hl
    obtain ⟨⟨b, p⟩, hb⟩ := getOf hl
    cases p with
    | none => exact ⟨0, .root hb, Nat.zero_le _⟩
    | some j =>
      obtain ⟨a, p', _, ha, ha2, _⟩ := g.bf.par i b j hb
      obtain ⟨n, h1, h2⟩ := ih a (by omega) (by omega)
      exact ⟨n + 1, .step hb ha2 h1, by omega⟩
theorem BX.uniq (g : BX s size qb dn) {i n n' : Nat} (h : Dp qb i n) : Dp qb i n' → n = n' := by
  induction h generalizing n' with
  | root hb =>
    intro h2
    cases h2 with
    | root _ => rfl
    | step h1 _ _ => rw [hb] at h1; cases h1
  | step hb ha _ ih =>
    intro h2
    cases h2 with
    | root h1 => rw [hb] at h1; cases h1
    | step h1 h3 h4 =>
      rw [hb] at h1
      cases h1
      have e := uqB g.bf.nd ha h3
      subst e
      rw [ih h4]
theorem BX.mono (g : BX s size qb dn) : ∀ (k : Nat) {i n n' : Nat}, i ≤ k → Dp qb i n → Dp qb k n' → n ≤ n' := by
  intro k
  induction k using Nat.strongRecOn with
  | ind k ih =>
    intro i n n' hik h1 h2
    by_cases e : i = k
    · subst e
      rw [g.uniq h1 h2]
      exact Nat.le_refl _
    · cases h1 with
      | root _ => exact Nat.zero_le _
      | @step _ b j a n p hb ha hd =>
        cases h2 with
        | root hc =>
          have := g.bf.rf k i _ _ _ hc hb
          omega
        | @step _ c t d n' q hc hd2 hd3 =>
          have h3 := g.pm i k b c j t a d p q (by omega) hb hc ha hd2
          obtain ⟨d', q', _, hdk, hd', _⟩ := g.bf.par k c t hc
          have e2 := uqB g.bf.nd hd2 hd'
          have := ih d (by omega) h3 hd hd3
          omega
/-- the boxes from which a parcel of the wall could make way, by steps -/
inductive PW (s : WS) (size : Int) : Nat → Nat → Prop
  | root {b : Nat} : b < s.sizes.length → size ≤ s.sizes.getD b 0 → PW s size 0 b
  | step {n j m b : Nat} : PW s size n j → s.inside[j]? = some (some m) → b < s.sizes.length → (s.parcels.getD m (0, 0)).1 ≤ s.sizes.getD b 0 → PW s size (n + 1) b
theorem memQ {b : Nat} (h : b ∈ qb.map Prod.fst) : ∃ (i : Nat) (p : Option Nat), qb[i]? = some (b, p) := by
  obtain ⟨⟨b', p⟩, h1, h2⟩ := List.mem_map.mp h
  have h2 : b' = b := h2
  subst h2
  obtain ⟨i, hi⟩ := List.getElem?_of_mem h1
  exact ⟨i, p, hi⟩
theorem BX.path (g : BX s size qb qb.length) {n b : Nat} (h : PW s size n b) : ∃ (i n' : Nat) (p : Option Nat), qb[i]? = some (b, p) ∧ Dp qb i n' ∧ n' ≤ n := by
  induction h with
  | @root b h1 h2 =>
    obtain ⟨i, p, hi⟩ := memQ (g.bf.all b h1 h2)
    cases p with
    | none => exact ⟨i, 0, _, hi, .root hi, Nat.le_refl _⟩
    | some j => have := g.bf.ro i b j hi; omega
  | @step n j m b _ hm hb hle ih =>
    obtain ⟨a, n1, p, ha, hd, hn⟩ := ih
    obtain ⟨i, q, hi⟩ := memQ (g.bf.cl a j p m (getLt ha) ha hm b hb hle)
    cases q with
    | none => exact ⟨i, 0, _, hi, .root hi, Nat.zero_le _⟩
    | some t =>
      obtain ⟨d, p', _, _, hd', _⟩ := g.bf.par i b t hi
      have h1 := g.fp a j m b i t d p p' (getLt ha) ha hm hb hle hi hd'
      obtain ⟨nd, h2, _⟩ := g.depth d d (Nat.le_refl _) (getLt hd')
      have := g.mono a h1 h2 hd
      exact ⟨i, nd + 1, _, hi, .step hi hd' h2, by omega⟩
theorem BX.way (g : BX s size qb dn) {i n : Nat} (h : Dp qb i n) : ∀ {b : Nat} {p : Option Nat}, qb[i]? = some (b, p) → PW s size n b := by
  induction h with
  | root hb =>
    intro c p hc
    rw [hb] at hc
    cases hc
    exact .root (g.bf.lt _ (List.mem_map.mpr ⟨_, List.mem_of_getElem? hb, rfl⟩)) (g.bf.root _ _ hb)
  | step hb ha _ ih =>
    intro c p hc
    have hc0 := hc
    rw [hb] at hc
    cases hc
    obtain ⟨k, p', m, _, _, h3, h4⟩ := g.bf.par _ _ _ hb
    exact .step (ih ha) h3 (g.bf.lt _ (List.mem_map.mpr ⟨_, List.mem_of_getElem? hb, rfl⟩)) h4
end
/-- the way in the wall is the way in what the boxes hold -/
theorem PW.cfg {sizes : List Int} {inside : Cfg} {s : WS} {size : Int} (S : Side sizes inside s) (hl : inside.length = sizes.length) {n b : Nat} (h : PW s size n b) : PathC sizes size inside n b := by
  induction h with
  | root h1 h2 => rw [S.sz] at h1 h2; exact .root (by omega) h2
  | @step n j m b _ hm hb hle ih =>
    rw [S.sz] at hb hle
    have jl := ih.lt
    cases q : inside[j]? with
    | none => rw [List.getElem?_eq_none_iff] at q; omega
    | some y =>
      cases y with
      | none => rw [S.non j q] at hm; cases hm
      | some v =>
        obtain ⟨m', h1, _, h3⟩ := S.som j v q
        rw [h1] at hm
        cases hm
        rw [h3] at hle
        exact .step ih q (by omega) hle
theorem PathC.wall {sizes : List Int} {inside : Cfg} {s : WS} {size : Int} (S : Side sizes inside s) (hl : inside.length = sizes.length) {n b : Nat} (h : PathC sizes size inside n b) : PW s size n b := by
  induction h with
  | root h1 h2 => exact .root (by rw [S.sz]; omega) (by rw [S.sz]; exact h2)
  | @step n j b v _ hv hb hle ih =>
    obtain ⟨m, h1, _, h3⟩ := S.som j v hv
    exact .step ih h1 (by rw [S.sz]; omega) (by rw [h3, S.sz]; exact hle)
end Pw
namespace Pw
def sp_reach_k10 (K : PySem.W.Frag) : Sp := fun vs H Q _ => ∃ (s : WS), WallAt K H s ∧ ∃ (size : Int), vs = [.ref s.w, .int size] ∧
  ∀ (qb : List (Nat × Option Nat)) (H' : Hp) (p q d : Addr), BX s size qb qb.length → Same H H' → H' p = some (.tup [.ref q, .ref d]) → H' q = some (.lst ((qb.map Prod.fst).map fun i : Nat => V.int (i : Int))) → H' d = some (.dK (qk qb)) → Q (.ref p) H'
theorem len_reach_k10 {K : PySem.W.Frag} : ∀ vs H Q E, sp_reach_k10 K vs H Q E → vs.length = 2 := by
  rintro vs H Q E ⟨_, _, _, rfl, _⟩
  rfl
def t_reach_k10 (K : PySem.W.Frag) (E : XK) : TS :=
  tSeq (tAsg (tMeth (He.ga K "Wall") "sizes" (sp_Wall_sizes K) [] E0 (tVar 0) tNil) (gName 2))
    (tSeq (tAsg (tMeth (He.ga K "Wall") "held" (sp_Wall_held K) [] E0 (tVar 0) tNil) (gName 3))
    (tSeq (tAsg (tDNewK) (gName 4))
    (tSeq (tAsg (tLc (iRng1 (tCons (tCB (rLenSeq K) (tCons (tVar 2) tNil)) tNil)) (gName 6) (tTest (tOp rGe (tOp (rIxL K) (tVar 2) (tVar 6)) (tVar 1))) (tVar 6) [6]) (gName 5))
    (tSeq (tForP (iList K (tVar 5)) (gName 6) (sDPut (tVar 4) (tVar 6) (tC .non)))
    (tSeq (tAsg (tC (.int 0)) (gName 7))
    (tSeq (tWhileP (tTest (tOp rLt (tVar 7) (tCB (rLenSeq K) (tCons (tVar 5) tNil)))) (tSeq (tAsg (tOp (rIxL K) (tVar 5) (tVar 7)) (gName 8))
    (tSeq (tAsg (tOp rAddI (tVar 7) (tC (.int 1))) (gName 7))
    (tIfS (tTest (tOp rNotNone (tOp (rIxL K) (tVar 3) (tVar 8)) (tC .non))) (tForP (iRng1 (tCons (tCB (rLenSeq K) (tCons (tVar 2) tNil)) tNil)) (gName 6) (tIfS (tAnd (tB (tDNotIn (tVar 6) (tVar 4))) (tTest (tOp rGe (tOp (rIxL K) (tVar 2) (tVar 6)) (tMeth (He.ga K "Wall") "size_of" (sp_Wall_size_of K) [] E0 (tVar 0) (tCons (tOp (rIxL K) (tVar 3) (tVar 8)) tNil))))) (tSeq (sDPut (tVar 4) (tVar 6) (tVar 8))
    (tDrop (tBM K "list" rAppend (tVar 5) (tCons (tVar 6) tNil)))) (tNext))) (tNext)))))
    (tRet (tTup (tCons (tVar 5) (tCons (tVar 4) tNil))))))))))
theorem pure_reach_k10 {K : PySem.W.Frag} (vs : List V) (H : Hp) (Q : VK) (E : XK) (h : sp_reach_k10 K vs H Q E) : t_reach_k10 K E { nx := fun _ H' => Q .non H', rt := Q } (start ["wall", "size", "sizes", "held", "back", "queue", "box", "done", "here"] vs) H := by
  obtain ⟨s, A, size, rfl, k⟩ := h
  have hob := A.ob
  have l8 := A.l8
  have hl := A.len
  unfold t_reach_k10
  walk_at "go"
  intro H1 p1 s1 hp10 hp1
  have A1 := A.mono s1
  have hob1 := A1.ob
  walk_at "go"
  intro H2 p2 s2 hp20 hp2
  have A2 := A1.mono s2
  have hp1 := s2 _ _ hp1
  have s12 := s1.trans s2
  walk_at "go"
  intro d hd
  have s3 : Same H2 (upd H2 d (.dK [])) := sameNew (Same.refl _) hd
  have hp13 := s3 _ _ hp1
  have hd3 : upd H2 d (.dK []) d = some (.dK []) := upd_same
  generalize upd H2 d (.dK []) = H3 at s3 hp13 hd3
  walk_at "go"
  intro q hq
  refine lcRng (n := (((s.sizes.map V.int).length : Nat) : Int).toNat) (fun i => decide (size ≤ s.sizes.getD i 0)) (fun i : Nat => V.int (i : Int)) hq (by simp; omega) (fun _ => rfl) (fun i H' hi s' TT k' => ?_) (fun i H' hi _ s' Qv k' => ?_) (fun H4 s4 hq4 => ?_)
  · simp only [List.length_map] at hi
    have e : ((0 : Int) + (i : Int)).toNat = i := by omega
    have hp := s' _ _ hp13
    walk_at "go"
    rw [e]
    exact k' _ (Same.refl _)
  · walk_at "go"
    rw [show (0 : Int) + (i : Int) = (i : Int) by omega]
    exact k' _ (Same.refl _)
  have e0 : (((s.sizes.map V.int).length : Nat) : Int).toNat = s.sizes.length := by simp
  rw [e0] at hq4
  have hd4 := s4 _ _ hd3
  have g0 : BX s size _ 0 := BX.start
  have fq : H2 q = none := s3.free hq
  have dq : d ≠ q := ne_of_none hd3 hq
  have sb := s3.trans s4
  clear hq hd3 hp13 s3 s4
  generalize hr : ((List.range s.sizes.length).filter fun b => decide (size ≤ s.sizes.getD b 0)) = rs at hq4 g0
  have lrs : rs.length ≤ 8 := by
    rw [← hr]
    exact Nat.le_trans (List.length_filter_le _ _) (by rw [List.length_range]; exact l8)
  have ndr : rs.Nodup := by rw [← hr]; exact List.Pairwise.filter _ List.nodup_range
  clear hr
  walk_at "go"
  refine forList (K := K) (a := q) (xs := rs.map fun i : Nat => V.int (i : Int)) (fun i σ H' => Stop (∃ v6 : Option V, σ = [some (.ref s.w), some (.int size), some (.ref p1), some (.ref p2), some (.ref d), some (.ref q), v6, none, none] ∧ Same H2 H' ∧
    H' q = some (.lst (rs.map fun i : Nat => V.int (i : Int))) ∧ H' d = some (.dK (qk ((rs.take i).map fun b => (b, none)))))) ⟨none, rfl, sb, hq4, hd4⟩ ?_ ?_ ?_
  · rintro i σ H' _ ⟨v6, rfl, _, z, _⟩
    exact SqL.of z
  · rintro i v σ H5 hi ⟨v6, rfl, s5, hq5, hd5⟩
    obtain ⟨b, hb, rfl⟩ := mapGet hi
    have nb : b ∉ ((rs.take i).map fun b => (b, (none : Option Nat))).map Prod.fst := fun m => by
      rw [List.map_map] at m
      obtain ⟨c, hc, e⟩ := List.mem_map.mp m
      have e : c = b := e
      subst e
      obtain ⟨j, hj, ej⟩ := List.getElem_of_mem hc
      rw [List.length_take] at hj
      rw [List.getElem_take] at ej
      have hil := getLt hb
      have e2 : rs[i]? = rs[j]? := by rw [hb, List.getElem?_eq_getElem (by omega), ej]
      have := (List.getElem?_inj hil ndr).mp e2
      omega
    have hput := dput_new (p := none) hd5 nb (by rw [List.length_map, List.length_take]; omega)
    have hput : DPut H5 d (.int (b : Int)) .non _ := hput
    walk_at "go"
    refine ⟨_, rfl, sameMut s5 hd, by rw [upd_ne (Ne.symm dq)]; exact hq5, ?_⟩
    rw [upd_same, takeMore hb, List.map_append]; rfl
  rintro σ H5 ⟨v6, rfl, s5, hq5, hd5⟩
  rw [List.length_map, List.take_length] at hd5
  have hq5 : H5 q = some (.lst (((rs.map fun b => (b, (none : Option Nat))).map Prod.fst).map fun i : Nat => V.int (i : Int))) := by
    rw [hq5, List.map_map, List.map_map]; rfl
  generalize (rs.map fun b => (b, (none : Option Nat))) = qb0 at hq5 hd5 g0
  clear hq4 hd4 sb
  walk_at "go"
  refine whileI (fun m σ H' => Stop (∃ (v6 v8 : Option V) (qb : List (Nat × Option Nat)) (dn : Nat), m = 9 - dn ∧ σ = [some (.ref s.w), some (.int size), some (.ref p1), some (.ref p2), some (.ref d), some (.ref q), v6, some (.int (dn : Int)), v8] ∧ Same H2 H' ∧
    H' q = some (.lst ((qb.map Prod.fst).map fun i : Nat => V.int (i : Int))) ∧ H' d = some (.dK (qk qb)) ∧ BX s size qb dn)) ⟨_, _, _, qb0, 0, rfl, rfl, s5, hq5, hd5, g0⟩ ?_
  clear hq5 hd5 g0 s5
  rintro m σ H6 ⟨v6, v8, qb, dn, rfl, rfl, s6, hq6, hd6, g⟩
  have ql := g.bf.len
  have dl := g.bf.dl
  have hp16 := s6 _ _ hp1
  have hp26 := s6 _ _ hp2
  walk_at "go"
  refine ifD (fun c => ?_) (fun c => ?_)
  · simp only [List.length_map] at c
    refine ⟨fun σ' H' => Stop (∃ m', m' < 9 - dn ∧ Stop (∃ (v6 v8 : Option V) (qb : List (Nat × Option Nat)) (dn : Nat), m' = 9 - dn ∧ σ' = [some (.ref s.w), some (.int size), some (.ref p1), some (.ref p2), some (.ref d), some (.ref q), v6, some (.int (dn : Int)), v8] ∧ Same H2 H' ∧
      H' q = some (.lst ((qb.map Prod.fst).map fun i : Nat => V.int (i : Int))) ∧ H' d = some (.dK (qk qb)) ∧ BX s size qb dn)), fun _ _ h => h.out, ?_⟩
    obtain ⟨⟨j, pj⟩, hj⟩ := getOf (xs := qb) (i := dn) (by omega)
    have jl : j < s.sizes.length := g.bf.lt j (List.mem_map.mpr ⟨_, List.mem_of_getElem? hj, rfl⟩)
    have hat : atI ((qb.map Prod.fst).map fun i : Nat => V.int (i : Int)) (dn : Int) = some (.int (j : Int)) := at_of (j := dn) rfl (getMap (by rw [List.getElem?_map, hj]; rfl))
    obtain ⟨y, hy⟩ := getOf (xs := s.inside) (i := j) (by omega)
    have hat2 : atI (s.inside.map optV) (j : Int) = some (optV y) := at_of (j := j) rfl (getMap hy)
    have ed : ((dn : Int) + 1) = ((dn + 1 : Nat) : Int) := by omega
    cases y with
    | none =>
      have hat2 : atI (s.inside.map optV) (j : Int) = some .non := hat2
      walk_at "go"
      exact ⟨9 - (dn + 1), by omega, _, _, qb, dn + 1, rfl, by rw [← ed]; rfl, s6, hq6, hd6, g.next hj fun m hm => by rw [hy] at hm; cases hm⟩
    | some m =>
      have hat2 : atI (s.inside.map optV) (j : Int) = some (.int (m : Int)) := hat2
      have hmem : some m ∈ s.inside := List.mem_of_getElem? hy
      walk_at "go"
      refine forRange (n := (((s.sizes.map V.int).length : Nat) : Int).toNat) (fun i σ H' => Stop (∃ (v6 : Option V) (qb : List (Nat × Option Nat)), σ = [some (.ref s.w), some (.int size), some (.ref p1), some (.ref p2), some (.ref d), some (.ref q), v6, some (.int ((dn : Int) + 1)), some (.int (j : Int))] ∧ Same H2 H' ∧
        H' q = some (.lst ((qb.map Prod.fst).map fun i : Nat => V.int (i : Int))) ∧ H' d = some (.dK (qk qb)) ∧ BX s size qb dn ∧ qb[dn]? = some (j, pj) ∧
        ∀ b, b < i → (s.parcels.getD m (0, 0)).1 ≤ s.sizes.getD b 0 → b ∈ qb.map Prod.fst)) ⟨_, qb, rfl, s6, hq6, hd6, g, hj, fun b hb => absurd hb (Nat.not_lt_zero b)⟩ ?_ ?_
      · clear hq6 hd6 g s6 hat hj c ql dl hp16 hp26
        rintro i σ H7 hi ⟨v6, qb, rfl, s7, hq7, hd7, g, hj, hc⟩
        simp only [List.length_map] at hi
        have hi : i < s.sizes.length := by omega
        have ql := g.bf.len
        have A7 := A2.mono s7
        have hob7 := A7.ob
        have hp17 := s7 _ _ hp1
        have hp27 := s7 _ _ hp2
        have ei : ((0 : Int) + (i : Int)) = (i : Int) := by omega
        have ei2 : ((i : Int)).toNat = i := by omega
        by_cases cin : i ∈ qb.map Prod.fst
        · obtain ⟨⟨b', pb⟩, he, eb⟩ := List.mem_map.mp cin
          have eb : b' = i := eb
          subst eb
          obtain ⟨z, hz, ez⟩ := List.getElem_of_mem he
          have hget := dget_some hd7 g.bf.nd (i := z) (by rw [List.getElem?_eq_getElem hz, ez])
          rw [← ei] at hget
          walk_at "go"
          refine ifNo rfl ?_
          walk_at "go"
          exact ⟨_, qb, rfl, s7, hq7, hd7, g, hj, fun b hb h => by
            by_cases e : b = b'
            · rw [e]; exact cin
            · exact hc b (by omega) h⟩
        · have hget := dget_none hd7 cin
          rw [← ei] at hget
          walk_at "go"
          refine ⟨fun m' em hm' => ?_, fun nh => absurd ⟨m, rfl, hmem⟩ nh⟩
          have em : m' = m := by omega
          subst em
          walk_at "go"
          rw [ei, ei2]
          refine ifD (fun c => ?_) (fun c => ?_)
          · have hput := dput_new (p := some j) hd7 cin (by omega)
            have hput : DPut H7 d (.int (i : Int)) (.int (j : Int)) _ := hput
            walk_at "go"
            have hq8 : upd H7 d (.dK (qk (qb ++ [(i, some j)]))) q = some (.lst ((qb.map Prod.fst).map fun i : Nat => V.int (i : Int))) := by rw [upd_ne (Ne.symm dq)]; exact hq7
            walk_at "go"
            refine ⟨_, qb ++ [(i, some j)], rfl, sameMut (sameMut s7 hd) fq, ?_, ?_, g.add hj hy hi c cin, getOld hj, fun b hb h => ?_⟩
            · rw [upd_same, List.map_append, List.map_append]; rfl
            · rw [upd_ne dq, upd_same]
            · rw [List.map_append]
              by_cases e : b = i
              · rw [e]; exact List.mem_append_right _ (List.mem_singleton_self _)
              · exact List.mem_append_left _ (hc b (by omega) h)
          · walk_at "go"
            exact ⟨_, qb, rfl, s7, hq7, hd7, g, hj, fun b hb h => by
              by_cases e : b = i
              · rw [e] at h; exact absurd h c
              · exact hc b (by omega) h⟩
      · clear hq6 hd6 g s6 hat hj c ql hp16 hp26
        rintro σ H7 ⟨v6, qb, rfl, s7, hq7, hd7, g, hj, hc⟩
        rw [e0] at hc
        have dn8 := getLt hj
        have ql := g.bf.len
        exact ⟨9 - (dn + 1), by omega, _, _, qb, dn + 1, rfl, by rw [← ed], s7, hq7, hd7, g.next hj fun m' hm b hb h => by
          rw [hy] at hm
          cases hm
          exact hc b hb h⟩
  · simp only [List.length_map] at c
    have ed : dn = qb.length := by omega
    walk_at "go"
    intro p hp
    have sp : Same H6 (upd H6 p (.tup [.ref q, .ref d])) := sameNew (Same.refl _) hp
    exact k qb _ p q d (by rw [← ed]; exact g) (s12.trans (s6.trans sp)) upd_same (sp _ _ hq6) (sp _ _ hd6)
end Pw
namespace Pw
def sp_is_size (K : PySem.W.Frag) : Sp := fun vs H Q _ => ∃ n : Int, vs = [.int n] ∧ Q (.bl (decide (1 ≤ n ∧ n ≤ 9))) H
theorem len_is_size {K : PySem.W.Frag} : ∀ vs H Q E, sp_is_size K vs H Q E → vs.length = 1 := by
  rintro vs H Q E ⟨_, rfl, _⟩
  rfl
def t_is_size (K : PySem.W.Frag) (E : XK) : TS :=
  tRet (tAndV (tOp rLe (tC (.int 1)) (tVar 0)) (tOp rLe (tVar 0) (tC (.int 9))))
theorem pure_is_size {K : PySem.W.Frag} (vs : List V) (H : Hp) (Q : VK) (E : XK) (h : sp_is_size K vs H Q E) : t_is_size K E { nx := fun _ H' => Q .non H', rt := Q } (start ["number"] vs) H := by
  obtain ⟨n, rfl, k⟩ := h
  unfold t_is_size
  walk_at "go"
  refine ifD (fun h1 => ?_) (fun h1 => ?_)
  · walk_at "go"
    simpa [h1] using k
  · simpa [h1] using k
end Pw
namespace Pw
def sp_room_for_k10 (K : PySem.W.Frag) : Sp := fun vs H Q E => ∃ (s : WS), WallAt K H s ∧ ∃ (size : Int), vs = [.ref s.w, .int size] ∧ (1 ≤ size ∧ size ≤ 9) ∧
  (∀ (least : Int) (p : Addr) (H' : Hp), (∀ m b, PW s size m b → ∃ n, s.inside[b]? = some (some n)) → Same H H' → H' p = some (.tup [.str "many", .int least]) → Q (.ref p) H') ∧
  (∀ (e : Nat) (mv : List (Int × Int)) (p l : Addr) (H' : Hp), PW s size mv.length e → s.inside[e]? = some none → (∀ m b, PW s size m b → s.inside[b]? = some none → mv.length ≤ m) → mv.length < s.sizes.length →
    Same H H' → PairL H' l mv → H' p = some (.tup [.str "moves", .ref l]) → Q (.ref p) H')
theorem len_room_for_k10 {K : PySem.W.Frag} : ∀ vs H Q E, sp_room_for_k10 K vs H Q E → vs.length = 2 := by
  rintro vs H Q E ⟨_, _, _, rfl, _⟩
  rfl
def t_room_for_k10 (K : PySem.W.Frag) (E : XK) : TS :=
  tSeq (tIfS (tNot (tB (tCall (sp_is_size K) [] E0 (tCons (tVar 1) tNil)))) (tRaise E (He.ga K "NoSize")) (tNext))
    (tSeq (tAsg (tMeth (He.ga K "Wall") "held" (sp_Wall_held K) [] E0 (tVar 0) tNil) (gName 2))
    (tSeq (tAsg (tCall (sp_reach_k10 K) [] E0 (tCons (tVar 0) (tCons (tVar 1) tNil))) (gName 3))
    (tSeq (tAsg (tOp (rIxT K) (tVar 3) (tC (.int 0))) (gName 4))
    (tSeq (tAsg (tOp (rIxT K) (tVar 3) (tC (.int 1))) (gName 5))
    (tSeq (tAsg (tLc (iList K (tVar 4)) (gName 9) (tTest (tOp rIsNone (tOp (rIxL K) (tVar 2) (tVar 9)) (tC .non))) (tVar 9) [9]) (gName 6))
    (tSeq (tIfS (tTest (tOp rEq (tCB (rLenSeq K) (tCons (tVar 6) tNil)) (tC (.int 0)))) (tSeq (tAsg (tCB (rMin K) (tCons (tOp rCat (tLst (tCons (tVar 1) tNil)) (tLc (iList K (tVar 4)) (gName 9) tYes (tMeth (He.ga K "Wall") "size_of" (sp_Wall_size_of K) [] E0 (tVar 0) (tCons (tOp (rIxL K) (tVar 2) (tVar 9)) tNil)) [9])) tNil)) (gName 7))
    (tRet (tTup (tCons (tC (.str "many")) (tCons (tVar 7) tNil))))) (tNext))
    (tSeq (tAsg (tLst tNil) (gName 8))
    (tSeq (tAsg (tOp (rIxL K) (tVar 6) (tC (.int 0))) (gName 9))
    (tSeq (tWhileP (tTest (tOp rNotNone (tDGet (tVar 5) (tVar 9)) (tC .non))) (tSeq (tDrop (tBM K "list" rAppend (tVar 8) (tCons (tTup (tCons (tOp (rIxL K) (tVar 2) (tDGet (tVar 5) (tVar 9))) (tCons (tVar 9) tNil))) tNil)))
    (tAsg (tDGet (tVar 5) (tVar 9)) (gName 9))))
    (tRet (tTup (tCons (tC (.str "moves")) (tCons (tVar 8) tNil)))))))))))))
theorem pure_room_for_k10 {K : PySem.W.Frag} (vs : List V) (H : Hp) (Q : VK) (E : XK) (h : sp_room_for_k10 K vs H Q E) : t_room_for_k10 K E { nx := fun _ H' => Q .non H', rt := Q } (start ["wall", "size", "held", "found", "queue", "back", "ends", "least", "moves", "box"] vs) H := by
  obtain ⟨s, A, size, rfl, ok9, kM, kV⟩ := h
  have hob := A.ob
  have l8 := A.l8
  have hl := A.len
  unfold t_room_for_k10
  walk_at "go"
  intro H1 p1 s1 hp10 hp1
  have A1 := A.mono s1
  walk_at "go"
  intro qb H2 p q d g s2 hp hq hd
  have hp1 := s2 _ _ hp1
  have s12 := s1.trans s2
  have A2 := A1.mono s2
  have ql := g.bf.len
  walk_at "go"
  intro e he
  have inl : ∀ b ∈ qb.map Prod.fst, ((b : Nat) : Int) < (s.inside.length : Int) := fun b hb => by have := g.bf.lt b hb; omega
  refine lcMap (inj := fun i : Nat => V.int (i : Int)) (ns := qb.map Prod.fst) (fun b => (s.inside.getD b none).isNone) (fun i : Nat => V.int (i : Int)) he (SqL.of hq) (by rw [List.length_map]; omega) (fun _ => rfl) (fun i b H' hi s' TT k' => ?_) (fun i b H' hi _ s' Qv k' => ?_) (fun H3 s3 he3 => ?_)
  · have hb := inl b (List.mem_of_getElem? hi)
    have eb : ((b : Nat) : Int).toNat = b := by omega
    have hp' := s' _ _ hp1
    walk_at "go"
    refine ⟨atMap none (by omega) hb, ?_⟩
    walk_at "go"
    rw [isNone_opt, eb]
    exact k' _ (Same.refl _)
  · walk_at "go"
    exact k' _ (Same.refl _)
  have hp13 := s3 _ _ hp1
  have hq3 := s3 _ _ hq
  have hd3 := s3 _ _ hd
  have A3 := A2.mono s3
  have s13 := s12.trans s3
  clear hp10 hp1 hp hq hd A1 A2 s1 s2 s12 s3 he hob
  have inE : ∀ b, b ∈ (qb.map Prod.fst).filter (fun b => (s.inside.getD b none).isNone) ↔ b ∈ qb.map Prod.fst ∧ s.inside.getD b none = none := fun b => by
    rw [List.mem_filter, Option.isNone_iff_eq_none]
  generalize hes : (qb.map Prod.fst).filter (fun b => (s.inside.getD b none).isNone) = es at he3 inE
  walk_at "go"
  cases es with
  | nil =>
    have full : ∀ b ∈ qb.map Prod.fst, ∃ m, s.inside[b]? = some (some m) := fun b hb => by
      have hbl := g.bf.lt b hb
      obtain ⟨y, hy⟩ := getOf (xs := s.inside) (i := b) (by omega)
      cases y with
      | some m => exact ⟨m, hy⟩
      | none =>
        have := (inE b).mpr ⟨hb, by rw [List.getD_eq_getElem?_getD, hy]; rfl⟩
        cases this
    walk_at "go"
    intro a1 ha1
    have s4 : Same H3 (upd H3 a1 (.lst [.int size])) := sameNew (Same.refl _) ha1
    have ha14 : upd H3 a1 (.lst [.int size]) a1 = some (.lst [.int size]) := upd_same
    have hp14 := s4 _ _ hp13
    have hq4 := s4 _ _ hq3
    have A4 := A3.mono s4
    have s14 := s13.trans s4
    generalize upd H3 a1 (.lst [.int size]) = H4 at ha14 hp14 hq4 A4 s14
    walk_at "go"
    intro a2 ha2
    refine lcMap (inj := fun i : Nat => V.int (i : Int)) (ns := qb.map Prod.fst) (fun _ => true) (fun b => V.int (psz s b)) ha2 (SqL.of hq4) (by rw [List.length_map]; omega) (fun _ => rfl) (fun i b H' hi s' TT k' => ?_) (fun i b H' hi _ s' Qv k' => ?_) (fun H5 s5 ha25 => ?_)
    · exact k' _ (Same.refl _)
    · obtain ⟨m, hm⟩ := full b (List.mem_of_getElem? hi)
      have hat : atI (s.inside.map optV) ((b : Nat) : Int) = some (.int (m : Int)) := at_of (j := b) rfl (getMap hm)
      have A' := A4.mono s'
      have hob' := A'.ob
      have hp' := s' _ _ hp14
      walk_at "go"
      refine ⟨fun m' em hm' => ?_, fun nh => absurd ⟨m, rfl, List.mem_of_getElem? hm⟩ nh⟩
      have em : m' = m := by omega
      subst em
      rw [← psz_of hm]
      exact k' _ (Same.refl _)
    rw [filterAll] at ha25
    have ha15 := s5 _ _ ha14
    have s15 := s14.trans s5
    have hl5 : ((qb.map Prod.fst).map fun b => V.int (psz s b)).length ≤ 8 := by rw [List.length_map, List.length_map]; omega
    walk_at "go"
    intro a3 ha3
    have s6 : Same H5 (upd H5 a3 (.lst ([.int size] ++ (qb.map Prod.fst).map fun b => V.int (psz s b)))) := sameNew (Same.refl _) ha3
    have ha36 : upd H5 a3 (.lst ([.int size] ++ (qb.map Prod.fst).map fun b => V.int (psz s b))) a3 = some (.lst ((size :: (qb.map Prod.fst).map (psz s)).map V.int)) := by
      have e : ((qb.map Prod.fst).map fun b => V.int (psz s b)) = ((qb.map Prod.fst).map (psz s)).map V.int := by simp only [List.map_map]; rfl
      rw [upd_same, e]; rfl
    have s16 := s15.trans s6
    generalize upd H5 a3 (.lst ([.int size] ++ (qb.map Prod.fst).map fun b => V.int (psz s b))) = H6 at ha36 s16
    have ha36 := SqL.of (K := K) ha36
    walk_at "go"
    intro least hm hmin
    walk_at "go"
    intro p' hp'
    have s7 : Same H6 (upd H6 p' (.tup [.str "many", .int least])) := sameNew (Same.refl _) hp'
    refine kM least p' _ (fun m b hw => ?_) (s16.trans s7) upd_same
    obtain ⟨i, n', pq, hi, _, _⟩ := g.path hw
    exact full b (List.mem_map.mpr ⟨_, List.mem_of_getElem? hi, rfl⟩)
  | cons e0 er =>
    obtain ⟨e1, e2⟩ := (inE e0).mp List.mem_cons_self
    have el := g.bf.lt e0 e1
    have ef : e0 ∈ freeL s.inside := mem_free.mpr ⟨by omega, e2⟩
    obtain ⟨i0, hi0, hmin⟩ := headFirst hes
    obtain ⟨pe, hq0⟩ : ∃ pe, qb[i0]? = some (e0, pe) := by
      rw [List.getElem?_map] at hi0
      cases hh : qb[i0]? with
      | none => rw [hh] at hi0; cases hi0
      | some z =>
        rw [hh] at hi0
        obtain ⟨z1, z2⟩ := z
        have : z1 = e0 := Option.some.inj hi0
        subst this
        exact ⟨z2, rfl⟩
    obtain ⟨n0, hd0, hn0⟩ := g.depth i0 i0 (Nat.le_refl _) (getLt hq0)
    have i0l := getLt hq0
    have ie0 : s.inside[e0]? = some none := by
      obtain ⟨y, hy⟩ := getOf (xs := s.inside) (i := e0) (by omega)
      rw [List.getD_eq_getElem?_getD, hy] at e2
      rw [hy]; exact congrArg some e2
    have least : ∀ m b, PW s size m b → s.inside[b]? = some none → n0 ≤ m := fun m b hw hb => by
      obtain ⟨i, n', pq, hi, hdi, hle⟩ := g.path hw
      have h1 := hmin i b (by rw [List.getElem?_map, hi]; rfl) (by rw [List.getD_eq_getElem?_getD, hb]; rfl)
      have := g.mono i h1 hd0 hdi
      omega
    have way0 := g.way hd0 hq0
    walk_at "go"
    intro ml hml
    have s4 : Same H3 (upd H3 ml (.lst [])) := sameNew (Same.refl _) hml
    have hml4 : upd H3 ml (.lst []) ml = some (.lst []) := upd_same
    have fml : H ml = none := s13.free hml
    have dml : d ≠ ml := ne_of_none hd3 hml
    have he4 := s4 _ _ he3
    have hat0 : atI ((e0 :: er).map fun i : Nat => V.int (i : Int)) 0 = some (.int (e0 : Int)) := at_of (j := 0) rfl rfl
    generalize upd H3 ml (.lst []) = H4 at s4 hml4 he4
    walk_at "go"
    refine whileI (fun m σ H' => Stop (∃ (mv : List (Int × Int)) (b : Nat) (pb : Option Nat), σ = [some (.ref s.w), some (.int size), some (.ref p1), some (.ref p), some (.ref q), some (.ref d), some (.ref e), none, some (.ref ml), some (.int (b : Int))] ∧ Same H3 H' ∧
      PairL H' ml mv ∧ qb[m]? = some (b, pb) ∧ (∃ nb, Dp qb m nb ∧ mv.length + nb = n0))) ⟨i0, [], e0, pe, rfl, s4, PairL.nil hml4, hq0, n0, hd0, Nat.zero_add _⟩ ?_
    clear hml4 s4 he4
    rintro m σ H5 ⟨mv, b, pb, rfl, s5, hm5, hqb, nb, hdp, hmn⟩
    have hd5 := s5 _ _ hd3
    have hp5 := s5 _ _ hp13
    have bl := g.bf.lt b (List.mem_map.mpr ⟨_, List.mem_of_getElem? hqb, rfl⟩)
    have hget := dget_some hd5 g.bf.nd hqb
    obtain ⟨ys, hys, hyl⟩ := hm5.len
    have i1 : mv.length ≤ 8 := by omega
    cases pb with
    | none =>
      have hget : DGet H5 d (.int (b : Int)) (some .non) := hget
      walk_at "go"
      intro p' hp'
      have s6 : Same H5 (upd H5 p' (.tup [.str "moves", .ref ml])) := sameNew (Same.refl _) hp'
      have z0 := g.uniq hdp (.root hqb)
      have e : mv.length = n0 := by omega
      exact kV e0 mv p' ml _ (by rw [e]; exact way0) ie0 (fun m b hw hb => by rw [e]; exact least m b hw hb) (by omega) (s13.trans (s5.trans s6)) (hm5.mono s6) upd_same
    | some j =>
      obtain ⟨k, pk, mm, h1, h2, h3, h4⟩ := g.bf.par m b j hqb
      have hget : DGet H5 d (.int (b : Int)) (some (.int (j : Int))) := hget
      have hat : atI (s.inside.map optV) ((j : Nat) : Int) = some (.int (mm : Int)) := at_of (j := j) rfl (getMap h3)
      walk_at "go"
      refine ⟨fun σ' H' (h : Stop (∃ m', m' < m ∧ Stop (∃ (mv : List (Int × Int)) (b : Nat) (pb : Option Nat), σ' = [some (.ref s.w), some (.int size), some (.ref p1), some (.ref p), some (.ref q), some (.ref d), some (.ref e), none, some (.ref ml), some (.int (b : Int))] ∧ Same H3 H' ∧
        PairL H' ml mv ∧ qb[m']? = some (b, pb) ∧ (∃ nb, Dp qb m' nb ∧ mv.length + nb = n0)))) => h.out, ?_⟩
      walk_at "go"
      intro t ht
      have s6 : Same H5 (upd H5 t (.tup [.int (mm : Int), .int (b : Int)])) := sameNew (Same.refl _) ht
      have ht6 : upd H5 t (.tup [.int (mm : Int), .int (b : Int)]) t = some (.tup [.int (mm : Int), .int (b : Int)]) := upd_same
      have hm6 := hm5.mono s6
      have hys6 := s6 _ _ hys
      have hd6 := s6 _ _ hd5
      have s36 := s5.trans s6
      generalize upd H5 t (.tup [.int (mm : Int), .int (b : Int)]) = H6 at ht6 hm6 hys6 hd6 s36
      obtain ⟨zs, hz, hzl, hP⟩ := hm6.snoc ht6
      have ezs : ys = zs := by
        rw [hys6] at hz
        exact (HO.lst.inj (Option.some.inj hz))
      subst ezs
      walk_at "go"
      have hd7 : upd H6 ml (.lst (ys ++ [.ref t])) d = some (.dK (qk qb)) := by rw [upd_ne dml]; exact hd6
      have hget7 : DGet (upd H6 ml (.lst (ys ++ [.ref t]))) d (.int (b : Int)) (some (.int (j : Int))) := dget_some hd7 g.bf.nd hqb
      walk_at "go"
      obtain ⟨nk, hdk, _⟩ := g.depth k k (Nat.le_refl _) (getLt h2)
      have e := g.uniq hdp (.step hqb h2 hdk)
      exact ⟨k, h1, _, j, pk, rfl, sameMut s36 hml, hP, h2, nk, hdk, by rw [List.length_append, List.length_singleton]; omega⟩
end Pw
namespace Pw
def sp_law_sizes_by (K : PySem.W.Frag) : Sp := fun vs H Q _ => ∃ (a : Addr) (ns : List Int) (b : Int), vs = [.ref a, .int b] ∧ SqL K H a (ns.map V.int) ∧ ns.length ≤ 63 ∧ ∀ sizes : List Int, OkW sizes → RetNew H Q (sizes.map V.int)
theorem len_law_sizes_by {K : PySem.W.Frag} : ∀ vs H Q E, sp_law_sizes_by K vs H Q E → vs.length = 2 := by
  rintro vs H Q E ⟨_, _, _, rfl, _⟩
  rfl
def t_law_sizes_by (K : PySem.W.Frag) (E : XK) : TS :=
  tSeq (tAsg (tOp rAddI (tC (.int 1)) (tCall (sp_law_drawn K) [] E0 (tCons (tVar 0) (tCons (tVar 1) (tCons (tC (.int 8)) tNil))))) (gName 2))
    (tSeq (tAsg (tOp (rIxL K) (tLst (tCons (tC (.int 3)) (tCons (tC (.int 5)) (tCons (tC (.int 9)) tNil)))) (tCall (sp_law_drawn K) [] E0 (tCons (tVar 0) (tCons (tOp rAddI (tVar 1) (tC (.int 1))) (tCons (tC (.int 3)) tNil))))) (gName 3))
    (tRet (tLc (iRng1 (tCons (tVar 2) tNil)) (gName 4) tYes (tOp rAddI (tC (.int 1)) (tCall (sp_law_drawn K) [] E0 (tCons (tVar 0) (tCons (tOp rAddI (tOp rAddI (tVar 1) (tC (.int 2))) (tVar 4)) (tCons (tVar 3) tNil))))) [4])))
theorem pure_law_sizes_by {K : PySem.W.Frag} (vs : List V) (H : Hp) (Q : VK) (E : XK) (h : sp_law_sizes_by K vs H Q E) : t_law_sizes_by K E { nx := fun _ H' => Q .non H', rt := Q } (start ["script", "base", "many", "top", "k"] vs) H := by
  obtain ⟨a, ns, b, rfl, hS, hl, k⟩ := h
  unfold t_law_sizes_by
  walk_at "go"
  intro d0 d1
  walk_at "go"
  intro p hp
  walk_at "go"
  intro e0 e1
  walk_at "go"
  refine ⟨atInt (xs := [3, 5, 9]) e0 e1, ?_⟩
  have ht : 1 ≤ ([3, 5, 9] : List Int).getD (drawn ns (b + 1) 3).toNat 0 ∧ ([3, 5, 9] : List Int).getD (drawn ns (b + 1) 3).toNat 0 ≤ (9 : Int) := by
    have q : (drawn ns (b + 1) 3).toNat = 0 ∨ (drawn ns (b + 1) 3).toNat = 1 ∨ (drawn ns (b + 1) 3).toNat = 2 := by omega
    rcases q with q | q | q <;> rw [q] <;> decide
  generalize ([3, 5, 9] : List Int).getD (drawn ns (b + 1) 3).toNat 0 = top at ht ⊢
  generalize drawn ns b 8 = many at d0 d1 ⊢
  walk_at "go"
  intro D hD
  have hS1 : SqL K (upd H p (.lst [V.int 3, V.int 5, V.int 9])) a (ns.map V.int) := (sameNew (Same.refl _) hp).seq hS
  refine lcRng (n := (1 + many).toNat) (fun _ => true) (fun i : Nat => V.int (1 + drawn ns (b + 2 + (0 + (i : Int))) top)) hD (by omega) (fun _ => rfl) (fun i H' hi s' TT k' => ?_) (fun i H' hi _ s' Qv k' => ?_) (fun H' s' hD' => ?_)
  · exact k' _ (Same.refl _)
  · walk_at "go"
    intro d2 d3
    walk_at "go"
    exact k' _ (Same.refl _)
  · rw [filterAll] at hD'
    refine k ((List.range (1 + many).toNat).map fun i : Nat => 1 + drawn ns (b + 2 + (0 + (i : Int))) top) ⟨by simp; omega, by simp; omega, ?_⟩ _ D ((sameNew (Same.refl _) hp).trans s') (updFree hD) ?_
    · intro x hx
      obtain ⟨i, _, rfl⟩ := List.mem_map.mp hx
      have := drawn_in ns (b + 2 + (0 + (i : Int))) (many := top) (by omega)
      omega
    · rw [hD', List.map_map]; rfl
end Pw
namespace Pw
/-! ### a dict whose keys are tuples of whole numbers and None, each with True -/
def lfO : Option Nat → Leaf
  | none => .none
  | some n => .num (n : Int)
theorem lfO_inj : ∀ {a b : Option Nat}, lfO a = lfO b → a = b
  | none, none, _ => rfl
  | some a, some b, h => by
    have e : (a : Int) = (b : Int) := Leaf.num.inj h
    rw [show a = b by omega]
  | none, some _, h => nomatch h
  | some _, none, h => nomatch h
def hkO : Option Nat → Int
  | none => reduceHash 0xFCA86420
  | some n => hashInt (n : Int)
theorem hkO_is (w : World) : ∀ k : Option Nat, (lfO k).key.hash w = hkO k
  | none => by simp [lfO, Leaf.key, NestedKey.hash, hkO]
  | some n => by simp [lfO, Leaf.key, NestedKey.hash, hkO]
def boxKind (P : Program) (w : World) : KeyKind P w (Option Nat) where
  is := fun k v => (leafKind P w).is (lfO k) v
  hash := hkO
  inj := fun v a b ha hb => lfO_inj ((leafKind P w).inj v _ _ ha hb)
  byValue := fun k v h => (leafKind P w).byValue _ v h
  pyHash := fun {A E s k v Q} hv h => (leafKind P w).pyHash hv (by show Q ((lfO k).key.hash w) _; rw [hkO_is]; exact h)
  eqBool := fun {A E s a b u v Q} ha hb h => (leafKind P w).eqBool ha hb (by
    have e : decide (lfO a = lfO b) = decide (a = b) := decide_eq_decide.mpr ⟨lfO_inj, congrArg lfO⟩
    rw [e]; exact h)
  «strs» := fun k x t v h => (leafKind P w).strs _ x t v h
def bEnt (x : Cfg × Addr) : DictEntry := ⟨reduceHash (Builtin.Tuple.tupleHashOf (x.1.map hkO)), .ref x.2, .bool true⟩
def SeenF (d : Addr) (xs : List (Cfg × Addr)) : Heap → Prop := fun h => xs.length ≤ sizeLine ∧ (d == sysModules) = false ∧ ∃ o es ep, h.get? d = some o ∧ o.ExactDict ∧ o.data = .dict es ep ∧ es.toList = xs.map bEnt ∧ (xs.map Prod.fst).Nodup
def SeenO (d : Addr) (xs : List (Cfg × Addr)) : HO := .ext (SeenF d xs)
theorem seenO_ok {P : Program} {w : World} {H : Hp} {h : Heap} {d : Addr} {xs : List (Cfg × Addr)} (z : SeenF d xs h) : ObjOk P w H h d (SeenO d xs) := by
  have z0 := z
  obtain ⟨h1, h2, o, es, ep, ho, h3, h4, h5, h6⟩ := z
  exact ⟨z0, ⟨o, ho⟩, fun a b ⟨q1, q2, o, es, ep, qo, q3, q4, q5, q6⟩ k => ⟨q1, q2, o, es, ep, k o qo, q3, q4, q5, q6⟩⟩
def tupOf (xs : List (Cfg × Addr)) : List (Cfg × Addr × Value) := xs.map fun x => (x.1, x.2, Value.bool true)
structure Seen (H : Hp) (d : Addr) (xs : List (Cfg × Addr)) : Prop where
  at_ : H d = some (SeenO d xs)
  key : ∀ x ∈ xs, H x.2 = some (.tup (x.1.map optV))
theorem Seen.mono {H H' : Hp} {d : Addr} {xs : List (Cfg × Addr)} (g : Seen H d xs) (s : Same H H') : Seen H' d xs := ⟨s _ _ g.at_, fun x hx => s _ _ (g.key x hx)⟩
theorem items_box {P : Program} {w : World} : ∀ {ks : Cfg} {us : List Value}, Vals (ks.map optV) us → ItemsAre (boxKind P w) ks us
  | [], _, r => by rw [List.map_nil] at r; cases r; exact .nil
  | k :: ks, _, r => by
    rw [List.map_cons] at r
    cases r with
    | @cons a b as bs h t =>
      refine .cons ?_ (items_box t)
      cases k with
      | none =>
        have e : b = Value.none := h
        subst e
        rfl
      | some n =>
        obtain ⟨tk, rfl⟩ : ∃ tk, b = Value.int (n : Int) tk := h
        exact decide_eq_true rfl
theorem key_box {P : Program} {w : World} {H : Hp} {h : Heap} {a : Addr} {ks : Cfg} (ok : HOk P w H h) (e : H a = some (.tup (ks.map optV))) : (tupleKind (boxKind P w)).is h ks a := by
  obtain ⟨_, its, r, o, h1, h2, n, h3⟩ := (show ObjOk P w H h a (.tup (ks.map optV)) from ok a _ e)
  exact ⟨o, its.toArray, n, h1, h2, h3, by simpa using items_box r⟩
theorem atKey_tup {xs : List (Cfg × Addr)} {k : Cfg} : (atKey (tupOf xs) k).isSome = decide (k ∈ xs.map Prod.fst) := by
  induction xs with
  | nil => rfl
  | cons x r ih =>
    unfold tupOf atKey at *
    rw [List.map_cons, List.find?_cons, List.map_cons]
    by_cases e : x.1 = k
    · simp [e]
    · have e1 : decide ((x.1, x.2, Value.bool true).1 = k) = false := decide_eq_false e
      rw [e1]
      show ((List.find? _ _).map _).isSome = _
      rw [ih]
      have e2 : k ∈ x.1 :: r.map Prod.fst ↔ k ∈ r.map Prod.fst := ⟨fun q => by
        rcases List.mem_cons.mp q with q | q
        · exact absurd q.symm e
        · exact q, List.mem_cons_of_mem _⟩
      exact (decide_eq_decide.mpr e2).symm
section
variable {X : Cx} {pins : List (Addr × Obj)} {σ : L2.St} {H : Hp} {s : Shared}
theorem Seen.dict (I : Inv X pins σ H s) {d : Addr} {xs : List (Cfg × Addr)} (g : Seen H d xs) : xs.length ≤ sizeLine ∧ (d == sysModules) = false ∧ s.heap.DictOfH (tupleKind (boxKind X.prog X.w)) d (tupOf xs) := by
  have z : SeenF d xs s.heap := (show ObjOk X.prog X.w H s.heap d (SeenO d xs) from I.hok d _ g.at_).1
  obtain ⟨h1, h2, o, es, ep, ho, h3, h4, h5, h6⟩ := z
  refine ⟨h1, h2, o, es, ep, ho, h3, h4, ?_, fun x hx => ?_, ?_⟩
  · rw [h5]; unfold tupOf; rw [List.map_map]; rfl
  · obtain ⟨y, hy, rfl⟩ := List.mem_map.mp hx
    exact key_box I.hok (g.key y hy)
  · unfold tupOf
    rw [List.map_map]
    exact h6
theorem tupOf_snoc {xs : List (Cfg × Addr)} {k : Cfg} {b : Addr} (h : k ∉ xs.map Prod.fst) : storedH (tupOf xs) k b (Value.bool true) = tupOf (xs ++ [(k, b)]) := by
  have e : atKey (tupOf xs) k = none := by
    have := atKey_tup (xs := xs) (k := k)
    rw [decide_eq_false h] at this
    cases q : atKey (tupOf xs) k with
    | none => rfl
    | some _ => rw [q] at this; cases this
  rw [storedH_new e]
  unfold tupOf
  rw [List.map_append]
  rfl
theorem seenF_of {P : Program} {w : World} {h : Heap} {d : Addr} {xs : List (Cfg × Addr)} (l : xs.length ≤ sizeLine) (hd : (d == sysModules) = false) (D : h.DictOfH (tupleKind (boxKind P w)) d (tupOf xs)) : SeenF d xs h := by
  obtain ⟨o, es, ep, ho, h3, h4, h5, _, h6⟩ := D
  refine ⟨l, hd, o, es, ep, ho, h3, h4, ?_, ?_⟩
  · rw [h5]; unfold tupOf; rw [List.map_map]; rfl
  · unfold tupOf at h6
    rw [List.map_map] at h6
    exact h6
/-- y not in d -/
def tSeenNot (ty td : TE) : TE := fun σ H Q => ty σ H fun y H1 => td σ H1 fun x H2 => ∃ (d : Addr) (xs : List (Cfg × Addr)) (b : Addr) (k : Cfg), x = .ref d ∧ y = .ref b ∧ Seen H2 d xs ∧ H2 b = some (.tup (k.map optV)) ∧ Q (.bl (!decide (k ∈ xs.map Prod.fst))) H2
theorem pc_seenNot {o i : Expr} {ty td : TE} (hu : X.A.units + 1 < cLine) (hi : PE X i ty) (ho : PE X o td) : PC X .NotIn i o (tSeenNot ty td) := by
  refine ⟨fun pins s σ H Q I h => ?_⟩
  refine thn (hi.run pins s σ H _ I h) fun iv s1 ⟨y, H1, I1, ry, q1⟩ => thn (ho.run pins s1 σ H1 _ I1 q1) fun u s2 ⟨x, H2, I2, rx, d, xs, b, k, ex, ey, g, hb, q2⟩ => ?_
  subst ex ey
  obtain rfl : u = Value.ref d := rx
  obtain rfl : iv = Value.ref b := ry
  obtain ⟨_, hd, D⟩ := g.dict I2
  refine wpAny_notIn_heap (tupleKind_room_in1 hu) (key_box I2.hok hb) hd D ?_
  rw [atKey_tup]
  exact ⟨.bl (!decide (k ∈ xs.map Prod.fst)), H2, I2.tok _, rfl, q2⟩
/-- d[y] = True, y not there yet -/
def sSeenPut (td ty tv : TE) : TS := fun D σ H => tv σ H fun v H1 => td σ H1 fun x H2 => ty σ H2 fun y H3 => ∃ (d : Addr) (xs : List (Cfg × Addr)) (b : Addr) (k : Cfg), x = .ref d ∧ y = .ref b ∧ v = .bl true ∧ Seen H3 d xs ∧ H3 b = some (.tup (k.map optV)) ∧ k ∉ xs.map Prod.fst ∧ xs.length < sizeLine ∧
  D.nx σ (upd H3 d (SeenO d (xs ++ [(k, b)])))
theorem ps_seenPut {o i value : Expr} {td ty tv : TE} {pos pos' : Pos} (hu : X.A.units + 1 < cLine) (ho : PE X o td) (hi : PE X i ty) (hv : PE X value tv) (hs : swapsWith value (some (.Subscript o i pos')) pos.line X.env = pure false) :
    PS X (.Assign [.Subscript o i pos'] value pos) (sSeenPut td ty tv) := by
  refine ⟨fun pins s σ H D I h => ?_⟩
  refine wpAny_Assign_Subscript (thn (hv.run pins s σ H _ I h) fun r s1 ⟨v, H1, I1, rv, q1⟩ => thn (ho.run pins s1 σ H1 _ I1 q1) fun u s2 ⟨x, H2, I2, rx, q2⟩ => thn (hi.run pins s2 σ H2 _ I2 q2) fun iv s3 ⟨y, H3, I3, ry, d, xs, b, k, ex, ey, ev, g, hb, hn, hl, q3⟩ => ?_) hs
  subst ex ey ev
  obtain rfl : u = Value.ref d := rx
  obtain rfl : iv = Value.ref b := ry
  obtain rfl : r = Value.bool true := rv
  obtain ⟨z, hd, DD⟩ := g.dict I3
  have lt : (tupOf xs).length ≤ sizeLine := by unfold tupOf; rw [List.length_map]; exact z
  refine wpAny_setItem_heap (hsz := lt) (tupleKind_room_in1 hu) (key_box I3.hok hb) DD fun h' dd' hs' => ⟨σ, _, ?_, q3⟩
  rw [tupOf_snoc hn] at dd'
  have l2 : (xs ++ [(k, b)]).length ≤ sizeLine := by rw [List.length_append, List.length_singleton]; omega
  have f := seenF_of l2 hd dd'
  have he : ∃ q, h'.get? d = some q := let ⟨q, _, _, hq, _⟩ := dd'; ⟨q, hq⟩
  exact d_write I3 (by rw [g.at_]; exact True.intro) hs' he (seenO_ok f)
/-- {y: True} -/
def tSeenNew (tk : TE) : TE := fun σ H Q => ∀ p, H p = none → tk σ (upd H p (SeenO p [])) fun y H2 => H2 p = some (SeenO p []) ∧ ∃ (b : Addr) (k : Cfg), y = .ref b ∧ H2 b = some (.tup (k.map optV)) ∧ Q (.ref p) (upd H2 p (SeenO p [(k, b)]))
theorem pe_seenNew {key value : Expr} {pos : Pos} {tk : TE} (hu : X.A.units < cLine) (hk : PE X key tk) (hv : PE X value (tC (.bl true))) : PE X (.Dict [some key] [value] pos) (tSeenNew tk) := by
  refine ⟨fun pins s σ H Q I q => ?_⟩
  have hn := I.hok.fresh (Nat.le_refl s.heap.objs.size)
  have big := I.big
  have f0 : SeenF s.heap.objs.size [] (s.heap.push { cls := .type "dict", data := .dict #[] }) :=
    ⟨Nat.zero_le _, beq_eq_false_iff_ne.mpr (Ne.symm (Nat.ne_of_lt big)), _, #[], 0, Heap.get?_push_size _ rfl, ⟨rfl, rfl, rfl⟩, rfl, rfl, List.nodup_nil⟩
  have I1 := I.laid (a := s.heap.objs.size) (o := SeenO s.heap.objs.size []) (h' := s.heap.push { cls := .type "dict", data := .dict #[] }) (t' := s.toks) (fun _ _ q => Heap.get?_push_of_some _ q) (Nat.le_refl _) (seenO_ok f0)
  refine wpAny_Dict_any (by rfl) rfl (by simp) (by simp) (pairTrees_cons_walk (thn (hk.run pins _ σ _ _ I1 (q _ hn)) fun u s2 ⟨y, H2, I2, ry, e, b, k, ey, hb, q2⟩ => thn (hv.run pins s2 σ H2 (fun v H3 => v = .bl true ∧ H3 = H2) I2 ⟨rfl, rfl⟩) fun u2 s3 ⟨v, H3, I3, rv, e1, e2⟩ => pairTrees_nil_walk ?_))
  subst e1 e2 ey
  obtain rfl : u = Value.ref b := ry
  obtain rfl : u2 = Value.bool true := rv
  have g : Seen H3 s.heap.objs.size [] := ⟨e, fun x hx => (by cases hx)⟩
  obtain ⟨_, hd, DD⟩ := g.dict I3
  unfold storeAll
  rw [List.forIn_cons]
  refine wpAny_bind (wpAny_bind (wpAny_dictSet_heap (hsz := Nat.zero_le _) hu (key_box I3.hok hb) DD fun h' dd' hs' => wpAny_pure ?_))
  show wpAny _ _ (forIn [] PUnit.unit _) _ _ _
  rw [List.forIn_nil]
  refine wpAny_pure ⟨.ref s.heap.objs.size, _, ?_, rfl, q2⟩
  rw [tupOf_snoc (xs := []) (by simp)] at dd'
  have f := seenF_of (xs := [(k, b)]) (by rw [sizeLine_eq]; simp) hd dd'
  have he : ∃ q, h'.get? s.heap.objs.size = some q := let ⟨q, _, _, hq, _⟩ := dd'; ⟨q, hq⟩
  exact d_write I3 (by rw [e]; exact True.intro) hs' he (seenO_ok f)
end
/-- tuple(xs) -/
def rTupOf (K : PySem.W.Frag) : List V → Hp → VK → Prop := fun xs H Q => ∃ p ys, xs = [.ref p] ∧ ((SqL K H p ys ∧ ∀ l, H l = none → Q (.ref l) (upd H l (.tup ys))) ∨ (SqT K H p ys ∧ Q (.ref p) H))
theorem cr_tupOf {X : Cx} : CallR X (.type "tuple") (rTupOf X.K) := call_tuple_of
theorem tupNew {K : PySem.W.Frag} {H : Hp} {Q : VK} {p : Addr} {ys : List V} (h : SqL K H p ys) (k : ∀ l, H l = none → Q (.ref l) (upd H l (.tup ys))) : rTupOf K [.ref p] H Q := ⟨p, ys, rfl, .inl ⟨h, k⟩⟩
/-! ### a list of tuples -/
structure CfgL (H : Hp) (a : Addr) (cs : List Cfg) : Prop where
  ex : ∃ rs : List Addr, H a = some (.lst (rs.map V.ref)) ∧ rs.length = cs.length ∧ ∀ (i : Nat) (c : Cfg) (r : Addr), cs[i]? = some c → rs[i]? = some r → H r = some (.tup (c.map optV))
theorem CfgL.mono {H H' : Hp} {a : Addr} {cs : List Cfg} (g : CfgL H a cs) (s : Same H H') : CfgL H' a cs := by
  obtain ⟨rs, h1, h2, h3⟩ := g.ex
  exact ⟨rs, s _ _ h1, h2, fun i c r hc hr => s _ _ (h3 i c r hc hr)⟩
theorem CfgL.nil {H : Hp} {a : Addr} (h : H a = some (.lst [])) : CfgL H a [] := ⟨[], h, rfl, fun i c r hc => (by cases hc)⟩
theorem CfgL.upd_lst {H : Hp} {a m : Addr} {cs : List Cfg} {xs ys : List V} (g : CfgL H a cs) (hm : H m = some (.lst xs)) (ne : a ≠ m) : CfgL (upd H m (.lst ys)) a cs := by
  obtain ⟨rs, h1, h2, h3⟩ := g.ex
  refine ⟨rs, by rw [upd_ne ne]; exact h1, h2, fun i c r hc hr => ?_⟩
  have z := h3 i c r hc hr
  rw [upd_ne (fun e => by rw [e, hm] at z; cases z)]
  exact z
theorem CfgL.snoc {H : Hp} {a t : Addr} {cs : List Cfg} {c : Cfg} {rs : List Addr} (h1 : H a = some (.lst (rs.map V.ref))) (h2 : rs.length = cs.length) (h3 : ∀ (i : Nat) (c : Cfg) (r : Addr), cs[i]? = some c → rs[i]? = some r → H r = some (.tup (c.map optV))) (ht : H t = some (.tup (c.map optV))) :
    CfgL (upd H a (.lst (rs.map V.ref ++ [V.ref t]))) a (cs ++ [c]) := by
  have ne : ∀ {r : Addr} {xs : List V}, H r = some (.tup xs) → r ≠ a := fun h e => by rw [e, h1] at h; cases h
  refine ⟨rs ++ [t], by rw [upd_same, List.map_append]; rfl, by rw [List.length_append, List.length_append, h2]; rfl, fun i d r hd hr => ?_⟩
  by_cases e : i < cs.length
  · rw [List.getElem?_append_left e] at hd
    rw [List.getElem?_append_left (by omega)] at hr
    have := h3 i d r hd hr
    rw [upd_ne (ne this)]
    exact this
  · have l1 := (List.getElem?_eq_some_iff.mp hd).1
    rw [List.length_append, List.length_singleton] at l1
    have e : i = cs.length := by omega
    subst e
    rw [List.getElem?_append_right (Nat.le_refl _), Nat.sub_self] at hd
    rw [List.getElem?_append_right (by omega), h2, Nat.sub_self] at hr
    cases hd
    cases hr
    rw [upd_ne (ne ht)]
    exact ht
/-- the list's own addresses known -/
structure CfgR (H : Hp) (a : Addr) (rs : List Addr) (cs : List Cfg) : Prop where
  ls : H a = some (.lst (rs.map V.ref))
  ln : rs.length = cs.length
  tu : ∀ (i : Nat) (c : Cfg) (r : Addr), cs[i]? = some c → rs[i]? = some r → H r = some (.tup (c.map optV))
theorem CfgL.rs {H : Hp} {a : Addr} {cs : List Cfg} (g : CfgL H a cs) : ∃ rs, CfgR H a rs cs := by
  obtain ⟨rs, h1, h2, h3⟩ := g.ex
  exact ⟨rs, h1, h2, h3⟩
theorem CfgR.l {H : Hp} {a : Addr} {rs : List Addr} {cs : List Cfg} (g : CfgR H a rs cs) : CfgL H a cs := ⟨rs, g.ls, g.ln, g.tu⟩
theorem CfgR.mono {H H' : Hp} {a : Addr} {rs : List Addr} {cs : List Cfg} (g : CfgR H a rs cs) (s : Same H H') : CfgR H' a rs cs := ⟨s _ _ g.ls, g.ln, fun i c r hc hr => s _ _ (g.tu i c r hc hr)⟩
theorem CfgR.upd_lst {H : Hp} {a m : Addr} {rs : List Addr} {cs : List Cfg} {xs ys : List V} (g : CfgR H a rs cs) (hm : H m = some (.lst xs)) (ne : a ≠ m) : CfgR (upd H m (.lst ys)) a rs cs := by
  refine ⟨by rw [upd_ne ne]; exact g.ls, g.ln, fun i c r hc hr => ?_⟩
  have z := g.tu i c r hc hr
  rw [upd_ne (fun e => by rw [e, hm] at z; cases z)]
  exact z
theorem CfgR.upd_seen {H : Hp} {a m : Addr} {rs : List Addr} {cs : List Cfg} {xs : List (Cfg × Addr)} {o : HO} (g : CfgR H a rs cs) (hm : H m = some (SeenO m xs)) : CfgR (upd H m o) a rs cs := by
  refine ⟨by rw [upd_ne (fun e => by have z := g.ls; rw [e, hm] at z; cases z)]; exact g.ls, g.ln, fun i c r hc hr => ?_⟩
  have z := g.tu i c r hc hr
  rw [upd_ne (fun e => by rw [e, hm] at z; cases z)]
  exact z
theorem CfgL.upd_seen {H : Hp} {a m : Addr} {cs : List Cfg} {xs : List (Cfg × Addr)} {o : HO} (g : CfgL H a cs) (hm : H m = some (SeenO m xs)) : CfgL (upd H m o) a cs := by
  obtain ⟨rs, h⟩ := g.rs
  exact (h.upd_seen hm).l
theorem Seen.upd_lst {H : Hp} {d m : Addr} {xs : List (Cfg × Addr)} {ys zs : List V} (g : Seen H d xs) (hm : H m = some (.lst ys)) : Seen (upd H m (.lst zs)) d xs := by
  refine ⟨by rw [upd_ne (fun e => by have z := g.at_; rw [e, hm] at z; cases z)]; exact g.at_, fun x hx => ?_⟩
  have z := g.key x hx
  rw [upd_ne (fun e => by rw [e, hm] at z; cases z)]
  exact z
theorem Seen.put {H : Hp} {d b : Addr} {xs : List (Cfg × Addr)} {k : Cfg} (g : Seen H d xs) (hb : H b = some (.tup (k.map optV))) : Seen (upd H d (SeenO d (xs ++ [(k, b)]))) d (xs ++ [(k, b)]) := by
  refine ⟨upd_same, fun x hx => ?_⟩
  have z : H x.2 = some (.tup (x.1.map optV)) := by
    rcases List.mem_append.mp hx with q | q
    · exact g.key x q
    · rw [List.mem_singleton.mp q]; exact hb
  rw [upd_ne (fun e => by rw [e, g.at_] at z; cases z)]
  exact z
end Pw
namespace Pw
def sp_law_ready (K : PySem.W.Frag) : Sp := fun vs H Q _ => ∃ (a t : Addr) (sizes : List Int) (c : Cfg) (size : Int), vs = [.ref a, .ref t, .int size] ∧ SqL K H a (sizes.map V.int) ∧ H t = some (.tup (c.map optV)) ∧ c.length = sizes.length ∧ sizes.length ≤ 1000 ∧
  (ReadyC sizes size c → ∀ H', Same H H' → Q (.bl true) H') ∧ (¬ ReadyC sizes size c → ∀ H', Same H H' → Q (.bl false) H')
theorem len_law_ready {K : PySem.W.Frag} : ∀ vs H Q E, sp_law_ready K vs H Q E → vs.length = 3 := by
  rintro vs H Q E ⟨_, _, _, _, _, rfl, _⟩
  rfl
def t_law_ready (K : PySem.W.Frag) (E : XK) : TS :=
  tSeq (tForP (iRng1 (tCons (tCB (rLenSeq K) (tCons (tVar 0) tNil)) tNil)) (gName 3) (tIfS (tAnd (tTest (tOp rIsNone (tOp (rIxT K) (tVar 1) (tVar 3)) (tC .non))) (tTest (tOp rGe (tOp (rIxL K) (tVar 0) (tVar 3)) (tVar 2)))) (tRet (tC (.bl true))) (tNext)))
    (tRet (tC (.bl false)))
theorem pure_law_ready {K : PySem.W.Frag} (vs : List V) (H : Hp) (Q : VK) (E : XK) (h : sp_law_ready K vs H Q E) : t_law_ready K E { nx := fun _ H' => Q .non H', rt := Q } (start ["sizes", "inside", "size", "box"] vs) H := by
  obtain ⟨a, t, sizes, c, size, rfl, hA, hT, hl, l1, kY, kN⟩ := h
  unfold t_law_ready
  walk_at "go"
  refine forRange (n := (((sizes.map V.int).length : Nat) : Int).toNat) (fun i σ H' => Stop (∃ v : Option V, σ = [some (.ref a), some (.ref t), some (.int size), v] ∧ Same H H' ∧ ∀ b, b < i → c[b]? = some none → sizes.getD b 0 < size)) ⟨none, rfl, Same.refl _, fun b hb => absurd hb (Nat.not_lt_zero _)⟩ ?_ ?_
  · rintro i σ H2 hi ⟨v, rfl, s2, g⟩
    simp only [List.length_map] at hi
    have hA2 := s2.seq hA
    have hT2 := s2 _ _ hT
    have ei : ((0 : Int) + (i : Int)).toNat = i := by omega
    obtain ⟨y, hy⟩ := getOf (xs := c) (i := i) (by omega)
    have hat : atI (c.map optV) ((0 : Int) + (i : Int)) = some (optV y) := at_of (j := i) (by omega) (getMap hy)
    cases y with
    | some n =>
      have hat : atI (c.map optV) ((0 : Int) + (i : Int)) = some (.int (n : Int)) := hat
      walk_at "go"
      exact ⟨_, rfl, s2, fun b hb hn => by
        by_cases e : b = i
        · subst e; rw [hy] at hn; cases hn
        · exact g b (by omega) hn⟩
    | none =>
      have hat : atI (c.map optV) ((0 : Int) + (i : Int)) = some .non := hat
      walk_at "go"
      rw [ei]
      refine ifD (fun q => ?_) (fun q => ?_)
      · exact kY ⟨i, hy, q⟩ _ s2
      · exact ⟨_, rfl, s2, fun b hb hn => by
          by_cases e : b = i
          · subst e; omega
          · exact g b (by omega) hn⟩
  · rintro σ H2 ⟨v, rfl, s2, g⟩
    simp only [List.length_map] at g
    walk_at "go"
    refine kN (fun ⟨b, h1, h2⟩ => ?_) _ s2
    have := getLt h1
    have := g b (by omega) h1
    omega
end Pw
namespace Pw
def sp_law_moved_k10 (K : PySem.W.Frag) : Sp := fun vs H Q _ => ∃ (a t : Addr) (sizes : List Int) (c : Cfg), vs = [.ref a, .ref t] ∧ SqL K H a (sizes.map V.int) ∧ H t = some (.tup (c.map optV)) ∧ c.length = sizes.length ∧ sizes.length ≤ 8 ∧
  ∀ (cs : List Cfg) (H' : Hp) (p : Addr), (∀ c1, c1 ∈ cs ↔ StC sizes c c1) → cs.length ≤ 100 → Same H H' → H p = none → CfgL H' p cs → Q (.ref p) H'
theorem len_law_moved_k10 {K : PySem.W.Frag} : ∀ vs H Q E, sp_law_moved_k10 K vs H Q E → vs.length = 2 := by
  rintro vs H Q E ⟨_, _, _, _, rfl, _⟩
  rfl
def t_law_moved_k10 (K : PySem.W.Frag) (E : XK) : TS :=
  tSeq (tAsg (tLst tNil) (gName 2))
    (tSeq (tForP (iRng1 (tCons (tCB (rLenSeq K) (tCons (tVar 0) tNil)) tNil)) (gName 3) (tForP (iRng1 (tCons (tCB (rLenSeq K) (tCons (tVar 0) tNil)) tNil)) (gName 4) (tIfS (tAnd (tTest (tOp rNotNone (tOp (rIxT K) (tVar 1) (tVar 3)) (tC .non))) (tAnd (tTest (tOp rIsNone (tOp (rIxT K) (tVar 1) (tVar 4)) (tC .non))) (tTest (tOp rLe (tOp (rIxT K) (tVar 1) (tVar 3)) (tOp (rIxL K) (tVar 0) (tVar 4)))))) (tSeq (tAsg (tCB (rListOf K) (tCons (tVar 1) tNil)) (gName 5))
    (tSeq (tAsg (tOp (rIxT K) (tVar 1) (tVar 3)) (gSub (tVar 5) (tVar 4) rSetL))
    (tSeq (tAsg (tC .non) (gSub (tVar 5) (tVar 3) rSetL))
    (tDrop (tBM K "list" rAppend (tVar 2) (tCons (tCB (rTupOf K) (tCons (tVar 5) tNil)) tNil)))))) (tNext))))
    (tRet (tVar 2)))
structure MvL (sizes : List Int) (c : Cfg) (i j : Nat) (cs : List Cfg) : Prop where
  iff : ∀ c1, c1 ∈ cs ↔ ∃ h b, (h < i ∨ (h = i ∧ b < j)) ∧ mvC sizes c h b = some c1
  le : cs.length ≤ 8 * i + j
theorem mvC_lt {sizes : List Int} {c c1 : Cfg} {h b : Nat} (e : mvC sizes c h b = some c1) : h < c.length ∧ b < c.length := by
  obtain ⟨v, h1, h2, _⟩ := mvC_some e
  exact ⟨getLt h1, getLt h2⟩
theorem MvL.skip {sizes : List Int} {c : Cfg} {i j : Nat} {cs : List Cfg} (g : MvL sizes c i j cs) (h : mvC sizes c i j = none) : MvL sizes c i (j + 1) cs := by
  refine ⟨fun c1 => ⟨fun q => ?_, fun ⟨x, y, q, e⟩ => ?_⟩, by have := g.le; omega⟩
  · obtain ⟨x, y, q, e⟩ := (g.iff c1).mp q
    exact ⟨x, y, by omega, e⟩
  · by_cases z : x = i ∧ y = j
    · rw [z.1, z.2, h] at e; cases e
    · exact (g.iff c1).mpr ⟨x, y, by omega, e⟩
theorem MvL.put {sizes : List Int} {c c2 : Cfg} {i j : Nat} {cs : List Cfg} (g : MvL sizes c i j cs) (h : mvC sizes c i j = some c2) : MvL sizes c i (j + 1) (cs ++ [c2]) := by
  refine ⟨fun c1 => ⟨fun q => ?_, fun ⟨x, y, q, e⟩ => ?_⟩, by rw [List.length_append, List.length_singleton]; have := g.le; omega⟩
  · rcases List.mem_append.mp q with q | q
    · obtain ⟨x, y, q, e⟩ := (g.iff c1).mp q
      exact ⟨x, y, by omega, e⟩
    · rw [List.mem_singleton.mp q]
      exact ⟨i, j, by omega, h⟩
  · by_cases z : x = i ∧ y = j
    · rw [z.1, z.2, h] at e
      cases e
      exact List.mem_append_right _ (List.mem_singleton_self _)
    · exact List.mem_append_left _ ((g.iff c1).mpr ⟨x, y, by omega, e⟩)
theorem MvL.row {sizes : List Int} {c : Cfg} {i : Nat} {cs : List Cfg} (g : MvL sizes c i c.length cs) (l : c.length ≤ 8) : MvL sizes c (i + 1) 0 cs := by
  refine ⟨fun c1 => ⟨fun q => ?_, fun ⟨x, y, q, e⟩ => ?_⟩, by have := g.le; omega⟩
  · obtain ⟨x, y, q, e⟩ := (g.iff c1).mp q
    exact ⟨x, y, by omega, e⟩
  · have := mvC_lt e
    exact (g.iff c1).mpr ⟨x, y, by omega, e⟩
theorem pure_law_moved_k10 {K : PySem.W.Frag} (vs : List V) (H : Hp) (Q : VK) (E : XK) (h : sp_law_moved_k10 K vs H Q E) : t_law_moved_k10 K E { nx := fun _ H' => Q .non H', rt := Q } (start ["sizes", "inside", "found", "here", "box", "made"] vs) H := by
  obtain ⟨a, t, sizes, c, rfl, hA, hT, hl, l8, k⟩ := h
  unfold t_law_moved_k10
  walk_at "go"
  intro D hD
  have s0 : Same H (upd H D (.lst [])) := sameNew (Same.refl _) hD
  have g0 : CfgL (upd H D (.lst [])) D [] := CfgL.nil upd_same
  generalize upd H D (.lst []) = H1 at s0 g0
  have hA1 := s0.seq hA
  walk_at "go"
  refine forRange (n := (((sizes.map V.int).length : Nat) : Int).toNat) (fun i σ H' => Stop (∃ (v3 v4 v5 : Option V) (cs : List Cfg), σ = [some (.ref a), some (.ref t), some (.ref D), v3, v4, v5] ∧ Same H H' ∧ CfgL H' D cs ∧ MvL sizes c i 0 cs)) ⟨none, none, none, [], rfl, s0, g0, fun c1 => ⟨fun q => (by cases q), fun ⟨x, y, q, _⟩ => by omega⟩, Nat.zero_le _⟩ ?_ ?_
  · rintro i σ H2 hi ⟨v3, v4, v5, cs, rfl, s2, g2, m2⟩
    simp only [List.length_map] at hi
    have hA2 := s2.seq hA
    walk_at "go"
    refine forRange (n := (((sizes.map V.int).length : Nat) : Int).toNat) (fun j σ H' => Stop (∃ (v4 v5 : Option V) (cs : List Cfg), σ = [some (.ref a), some (.ref t), some (.ref D), some (.int (0 + (i : Int))), v4, v5] ∧ Same H H' ∧ CfgL H' D cs ∧ MvL sizes c i j cs)) ⟨_, _, cs, rfl, s2, g2, m2⟩ ?_ ?_
    · clear s2 g2 m2 hA2
      rintro j σ H3 hj ⟨v4, v5, cs, rfl, s3, g3, m3⟩
      simp only [List.length_map] at hj
      have hA3 := s3.seq hA
      have hT3 := s3 _ _ hT
      have ei : ((0 : Int) + (i : Int)).toNat = i := by omega
      have ej : ((0 : Int) + (j : Int)).toNat = j := by omega
      obtain ⟨y, hy⟩ := getOf (xs := c) (i := i) (by omega)
      obtain ⟨z, hz⟩ := getOf (xs := c) (i := j) (by omega)
      have hat : atI (c.map optV) ((0 : Int) + (i : Int)) = some (optV y) := at_of (j := i) (by omega) (getMap hy)
      have haz : atI (c.map optV) ((0 : Int) + (j : Int)) = some (optV z) := at_of (j := j) (by omega) (getMap hz)
      cases y with
      | none =>
        have hat : atI (c.map optV) ((0 : Int) + (i : Int)) = some .non := hat
        walk_at "go"
        exact ⟨_, _, cs, rfl, s3, g3, m3.skip (by unfold mvC; rw [hy])⟩
      | some v =>
        have hat : atI (c.map optV) ((0 : Int) + (i : Int)) = some (.int (v : Int)) := hat
        cases z with
        | some n =>
          have haz : atI (c.map optV) ((0 : Int) + (j : Int)) = some (.int (n : Int)) := haz
          walk_at "go"
          exact ⟨_, _, cs, rfl, s3, g3, m3.skip (by unfold mvC; rw [hy, hz])⟩
        | none =>
          have haz : atI (c.map optV) ((0 : Int) + (j : Int)) = some .non := haz
          walk_at "go"
          rw [ej]
          refine ifD (fun q => ?_) (fun q => ?_)
          · have hm := mvC_of hy hz q
            walk_at "go"
            intro m hm0
            have s4 : Same H3 (upd H3 m (.lst (c.map optV))) := sameNew (Same.refl _) hm0
            have hm4 : upd H3 m (.lst (c.map optV)) m = some (.lst (c.map optV)) := upd_same
            have hA4 := s4.seq hA3
            have hT4 := s4 _ _ hT3
            have g4 := g3.mono s4
            have s34 := s3.trans s4
            have fm : H m = none := s3.free hm0
            have mD : D ≠ m := fun e => by
              obtain ⟨rs, h1, _⟩ := g3.ex
              rw [e, hm0] at h1
              cases h1
            generalize upd H3 m (.lst (c.map optV)) = H4 at s4 hm4 hA4 hT4 g4 s34
            walk_at "go"
            refine ⟨ixN_of (by omega) (by rw [List.length_map]; omega), ?_⟩
            dsimp only
            rw [ej, setOpt]
            have s5 : Same H (upd H4 m (.lst ((c.set j (some v)).map optV))) := sameMut s34 fm
            have hm5 : upd H4 m (.lst ((c.set j (some v)).map optV)) m = some (.lst ((c.set j (some v)).map optV)) := upd_same
            have g5 : CfgL (upd H4 m (.lst ((c.set j (some v)).map optV))) D cs := g4.upd_lst hm4 mD
            generalize upd H4 m (.lst ((c.set j (some v)).map optV)) = H5 at s5 hm5 g5
            walk_at "go"
            refine ⟨ixN_of (by omega) (by rw [List.length_map, List.length_set]; omega), ?_⟩
            dsimp only
            rw [ei, setNon]
            have s6 : Same H (upd H5 m (.lst (((c.set j (some v)).set i none).map optV))) := sameMut s5 fm
            have hm6 : upd H5 m (.lst (((c.set j (some v)).set i none).map optV)) m = some (.lst (((c.set j (some v)).set i none).map optV)) := upd_same
            have g6 : CfgL (upd H5 m (.lst (((c.set j (some v)).set i none).map optV))) D cs := g5.upd_lst hm5 mD
            generalize upd H5 m (.lst (((c.set j (some v)).set i none).map optV)) = H6 at s6 hm6 g6
            obtain ⟨rs0, hD6, _, _⟩ := g6.ex
            walk_at "go"
            refine Or.inl ⟨SqL.of hm6, fun u hu => ?_⟩
            have s7 : Same H (upd H6 u (.tup (((c.set j (some v)).set i none).map optV))) := sameMut s6 (s6.free hu)
            have hu7 : upd H6 u (.tup (((c.set j (some v)).set i none).map optV)) u = some (.tup (((c.set j (some v)).set i none).map optV)) := upd_same
            have g7 := g6.mono (sameNew (Same.refl _) hu : Same H6 (upd H6 u (.tup (((c.set j (some v)).set i none).map optV))))
            generalize upd H6 u (.tup (((c.set j (some v)).set i none).map optV)) = H7 at s7 hu7 g7
            obtain ⟨rs, hD7, hr1, hr2⟩ := g7.ex
            have ml := m3.le
            walk_at "go"
            exact ⟨_, _, _, rfl, sameMut s7 hD, CfgL.snoc hD7 hr1 hr2 hu7, m3.put hm⟩
          · exact ⟨_, _, cs, rfl, s3, g3, m3.skip (by unfold mvC; rw [hy, hz]; exact if_neg q)⟩
    · rintro σ H3 ⟨v4, v5, cs, rfl, s3, g3, m3⟩
      have e : (((sizes.map V.int).length : Nat) : Int).toNat = c.length := by simp; omega
      rw [e] at m3
      exact ⟨_, _, _, cs, rfl, s3, g3, m3.row (by omega)⟩
  · rintro σ H2 ⟨v3, v4, v5, cs, rfl, s2, g2, m2⟩
    have e : (((sizes.map V.int).length : Nat) : Int).toNat = c.length := by simp; omega
    rw [e] at m2
    walk_at "go"
    refine k cs _ D (fun c1 => ⟨fun q => ?_, fun ⟨x, y, q⟩ => ?_⟩) (by have := m2.le; omega) s2 hD g2
    · obtain ⟨x, y, _, q⟩ := (m2.iff c1).mp q
      exact ⟨x, y, q⟩
    · exact (m2.iff c1).mpr ⟨x, y, .inl (mvC_lt q).1, q⟩
end Pw
namespace Pw
def sp_law_steps (K : PySem.W.Frag) : Sp := fun vs H Q _ => ∃ (a d : Addr) (sizes : List Int) (c : Cfg) (size : Int), vs = [.ref a, .ref d, .int size, .int 6] ∧ SqL K H a (sizes.map V.int) ∧ SqL K H d (c.map optV) ∧ c.length = sizes.length ∧ sizes.length ≤ 5 ∧
  (∀ (k : Nat) (c1 : Cfg) (H' : Hp), RnC sizes c k c1 → ReadyC sizes size c1 → (∀ m, m < k → ∀ c2, RnC sizes c m c2 → ¬ ReadyC sizes size c2) → Same H H' → Q (.int (k : Int)) H') ∧
  ((∀ m, m < 7 → ∀ c2, RnC sizes c m c2 → ¬ ReadyC sizes size c2) → ∀ H', Same H H' → Q .non H')
theorem len_law_steps {K : PySem.W.Frag} : ∀ vs H Q E, sp_law_steps K vs H Q E → vs.length = 4 := by
  rintro vs H Q E ⟨_, _, _, _, _, rfl, _⟩
  rfl
def t_law_steps (K : PySem.W.Frag) (E : XK) : TS :=
  tSeq (tAsg (tSeenNew (tCB (rTupOf K) (tCons (tVar 1) tNil))) (gName 4))
    (tSeq (tAsg (tLst (tCons (tCB (rTupOf K) (tCons (tVar 1) tNil)) tNil)) (gName 5))
    (tSeq (tForP (iRng1 (tCons (tOp rAddI (tVar 3) (tC (.int 1))) tNil)) (gName 6) (tSeq (tAsg (tLst tNil) (gName 7))
    (tSeq (tForP (iList K (tVar 5)) (gName 8) (tSeq (tIfS (tB (tCall (sp_law_ready K) [] E0 (tCons (tVar 0) (tCons (tVar 8) (tCons (tVar 2) tNil))))) (tRet (tVar 6)) (tNext))
    (tForP (iList K (tCall (sp_law_moved_k10 K) [] E0 (tCons (tVar 0) (tCons (tVar 8) tNil)))) (gName 9) (tIfS (tB (tSeenNot (tVar 9) (tVar 4))) (tSeq (sSeenPut (tVar 4) (tVar 9) (tC (.bl true)))
    (tDrop (tBM K "list" rAppend (tVar 7) (tCons (tVar 9) tNil)))) (tNext)))))
    (tAsg (tVar 7) (gName 5)))))
    (tRet (tC .non))))
theorem pure_law_steps {K : PySem.W.Frag} (vs : List V) (H : Hp) (Q : VK) (E : XK) (h : sp_law_steps K vs H Q E) : t_law_steps K E { nx := fun _ H' => Q .non H', rt := Q } (start ["sizes", "inside", "size", "bound", "seen", "level", "steps", "further", "one", "other"] vs) H := by
  obtain ⟨a, d, sizes, c, size, rfl, hA, hD, hl, l5, kY, kN⟩ := h
  unfold t_law_steps
  walk_at "go"
  intro p hp
  have s0 : Same H (upd H p (SeenO p [])) := sameNew (Same.refl _) hp
  have hp1 : upd H p (SeenO p []) p = some (SeenO p []) := upd_same
  have hD1 := s0.seq hD
  generalize upd H p (SeenO p []) = H1 at s0 hp1 hD1
  walk_at "go"
  refine Or.inl ⟨hD1, fun t ht => ?_⟩
  have s1 : Same H1 (upd H1 t (.tup (c.map optV))) := sameNew (Same.refl _) ht
  have ht2 : upd H1 t (.tup (c.map optV)) t = some (.tup (c.map optV)) := upd_same
  have hp2 := s1 _ _ hp1
  have s02 := s0.trans s1
  generalize upd H1 t (.tup (c.map optV)) = H2 at s1 ht2 hp2 s02
  walk_at "go"
  have s3 : Same H (upd H2 p (SeenO p [(c, t)])) := sameMut s02 hp
  have g3 : Seen (upd H2 p (SeenO p [(c, t)])) p [(c, t)] := ⟨upd_same, fun x hx => by
    rw [List.mem_singleton.mp hx]
    rw [upd_ne (ne_of ht2 hp2 (by intro q; cases q))]
    exact ht2⟩
  generalize upd H2 p (SeenO p [(c, t)]) = H3 at s3 g3
  have hD3 := s3.seq hD
  walk_at "go"
  refine Or.inl ⟨hD3, fun t2 ht2 => ?_⟩
  have s4 : Same H3 (upd H3 t2 (.tup (c.map optV))) := sameNew (Same.refl _) ht2
  have ht4 : upd H3 t2 (.tup (c.map optV)) t2 = some (.tup (c.map optV)) := upd_same
  have g4 := g3.mono s4
  have s04 := s3.trans s4
  generalize upd H3 t2 (.tup (c.map optV)) = H4 at s4 ht4 g4 s04
  walk_at "go"
  intro L0 hL0
  have s5 : Same H (upd H4 L0 (.lst [.ref t2])) := s04.trans (sameNew (Same.refl _) hL0)
  have g5 := g4.mono (sameNew (Same.refl _) hL0 : Same H4 (upd H4 L0 (.lst [.ref t2])))
  have c5 : CfgL (upd H4 L0 (.lst [.ref t2])) L0 [c] := ⟨[t2], upd_same, rfl, fun i d r hd hr => by
    cases i with
    | zero =>
      cases hd
      cases hr
      rw [upd_ne (ne_of_none ht4 hL0)]
      exact ht4
    | succ i => cases hd⟩
  generalize upd H4 L0 (.lst [.ref t2]) = H5 at s5 g5 c5
  clear s4 ht4 g4 s04 hL0 hD3 s3 g3 s1 ht2 hp2 s02 ht s0 hp1 hD1
  walk_at "go"
  refine forRange (n := Int.toNat (6 + 1)) (fun k σ H' => Stop (∃ (v6 v7 v8 v9 : Option V) (L : Addr) (xs : List (Cfg × Addr)) (lv : List Cfg), σ = [some (.ref a), some (.ref d), some (.int size), some (.int 6), some (.ref p), some (.ref L), v6, v7, v8, v9] ∧ Same H H' ∧ Seen H' p xs ∧ CfgL H' L lv ∧ LvC sizes size c k (xs.map Prod.fst) lv))
    ⟨none, none, none, none, L0, [(c, t)], [c], rfl, s5, g5, c5, LvC.start⟩ ?_ ?_
  · clear s5 g5 c5
    rintro k σ H6 hk ⟨v6, v7, v8, v9, L, xs0, lv, rfl, s6, g6, c6, w0⟩
    walk_at "go"
    intro F hF
    have s7 : Same H6 (upd H6 F (.lst [])) := sameNew (Same.refl _) hF
    have cF : CfgL (upd H6 F (.lst [])) F [] := CfgL.nil upd_same
    have fF : H F = none := s6.free hF
    obtain ⟨rs, c6⟩ := c6.rs
    have LF : L ≠ F := ne_of_none c6.ls hF
    have c7 := c6.mono s7
    have g7 := g6.mono s7
    have s67 := s6.trans s7
    generalize upd H6 F (.lst []) = H7 at s7 cF c7 g7 s67
    have hA7 := s67.seq hA
    have lsL := c7.ls
    walk_at "go"
    refine forList (K := K) (a := L) (xs := rs.map V.ref) (fun i σ H' => Stop (∃ (v8 v9 : Option V) (xs : List (Cfg × Addr)) (fu : List Cfg), σ = [some (.ref a), some (.ref d), some (.int size), some (.int 6), some (.ref p), some (.ref L), some (.int (0 + (k : Int))), some (.ref F), v8, v9] ∧ Same H H' ∧ Seen H' p xs ∧ CfgR H' L rs lv ∧ CfgL H' F fu ∧ LwC sizes size c k lv (xs.map Prod.fst) fu i))
      ⟨_, _, xs0, [], rfl, s67, g7, c7, cF, w0.go⟩ ?_ ?_ ?_
    · rintro i σ H' _ ⟨_, _, _, _, _, _, _, cc, _⟩
      exact SqL.of cc.ls
    · clear s7 cF c7 g7 s67 hA7 lsL c6 g6 s6 hF
      rintro i x σ H8 hx ⟨v8, v9, xs, fu, rfl, s8, g8, c8, f8, w8⟩
      obtain ⟨r, hr, rfl⟩ := mapGet hx
      obtain ⟨ci, hci⟩ := getOf (xs := lv) (i := i) (by have := getLt hr; have := c8.ln; omega)
      have hrt := c8.tu i ci r hci hr
      have rn := w0.lev ci (List.mem_of_getElem? hci)
      have okc := rn.ok.len
      have okl : ci.length = sizes.length := by omega
      have hA8 := s8.seq hA
      walk_at "go"
      refine ⟨fun rd H9 s9 => ?_, fun nrd H9 s9 => ?_⟩
      · walk_at "go"
        rw [show (0 : Int) + (k : Int) = (k : Int) by omega]
        exact kY k ci _ rn rd w0.nr (s8.trans s9)
      · have hrt9 := s9 _ _ hrt
        have hA9 := s9.seq hA8
        walk_at "go"
        intro cs H10 P iff lcs s10 hP cP
        obtain ⟨rs2, cP⟩ := cP.rs
        have g10 := (g8.mono s9).mono s10
        have c10 := (c8.mono s9).mono s10
        have f10 := (f8.mono s9).mono s10
        have s80 := s8.trans (s9.trans s10)
        obtain ⟨rsF, fF9⟩ := (f8.mono s9).rs
        have FP : P ≠ F := Ne.symm (ne_of_none fF9.ls hP)
        have lsP := cP.ls
        walk_at "go"
        refine forList (K := K) (a := P) (xs := rs2.map V.ref) (fun j σ H' => Stop (∃ (v9 : Option V) (xs : List (Cfg × Addr)) (fu : List Cfg), σ = [some (.ref a), some (.ref d), some (.int size), some (.int 6), some (.ref p), some (.ref L), some (.int (0 + (k : Int))), some (.ref F), some (.ref r), v9] ∧ Same H H' ∧ Seen H' p xs ∧ CfgR H' L rs lv ∧ CfgL H' F fu ∧ LwC sizes size c k lv (xs.map Prod.fst) fu i ∧
          CfgR H' P rs2 cs ∧ ∀ (z : Nat) (c1 : Cfg), z < j → cs[z]? = some c1 → c1 ∈ xs.map Prod.fst)) ⟨_, xs, fu, rfl, s80, g10, c10, f10, w8, cP, fun z c1 hz => absurd hz (Nat.not_lt_zero _)⟩ ?_ ?_ ?_
        · rintro j σ H' _ ⟨_, _, _, _, _, _, _, _, _, cc, _⟩
          exact SqL.of cc.ls
        · clear s80 g10 c10 f10 w8 cP lsP fF9 s8 g8 c8 f8 s9 s10 hrt hrt9 hA8 hA9 hP xs fu
          rintro j y σ H11 hy ⟨v9, xs, fu, rfl, s11, g11, c11, f11, w11, p11, dn⟩
          obtain ⟨r1, hr1, rfl⟩ := mapGet hy
          obtain ⟨c1, hc1⟩ := getOf (xs := cs) (i := j) (by have := getLt hr1; have := p11.ln; omega)
          have ht1 := p11.tu j c1 r1 hc1 hr1
          have st1 := (iff c1).mp (List.mem_of_getElem? hc1)
          have many : xs.length ≤ 3125 := by
            have := manyC (c0 := c) (by omega) w11.nd w11.ok
            rw [List.length_map] at this
            exact this
          have more : fu.length ≤ 3125 := by
            have := w11.le
            rw [List.length_map] at this
            omega
          walk_at "go"
          refine ifN (fun hn => ?_) (fun hin => ?_)
          · walk_at "go"
            have s12 : Same H (upd H11 p (SeenO p (xs ++ [(c1, r1)]))) := sameMut s11 hp
            have g12 := g11.put ht1
            have c12 := c11.upd_seen (o := SeenO p (xs ++ [(c1, r1)])) g11.at_
            have f12 := f11.upd_seen (o := SeenO p (xs ++ [(c1, r1)])) g11.at_
            have p12 := p11.upd_seen (o := SeenO p (xs ++ [(c1, r1)])) g11.at_
            have ht12 : upd H11 p (SeenO p (xs ++ [(c1, r1)])) r1 = some (.tup (c1.map optV)) := by
              rw [upd_ne (fun e => by rw [e, g11.at_] at ht1; cases ht1)]
              exact ht1
            generalize upd H11 p (SeenO p (xs ++ [(c1, r1)])) = H12 at s12 g12 c12 f12 p12 ht12
            obtain ⟨rf, fR⟩ := f12.rs
            have fls := fR.ls
            have fln := fR.ln
            walk_at "go"
            have e1 : (xs ++ [(c1, r1)]).map Prod.fst = xs.map Prod.fst ++ [c1] := by rw [List.map_append]; rfl
            refine ⟨_, xs ++ [(c1, r1)], fu ++ [c1], rfl, sameMut s12 fF, g12.upd_lst fls, c12.upd_lst fls LF, CfgL.snoc fls fln fR.tu ht12, by rw [e1]; exact w11.add rn st1 hn, p12.upd_lst fls FP, fun z c2 hz hc2 => ?_⟩
            rw [e1]
            by_cases e : z = j
            · subst e
              rw [hc1] at hc2
              cases hc2
              exact List.mem_append_right _ (List.mem_singleton_self _)
            · exact List.mem_append_left _ (dn z c2 (by omega) hc2)
          · exact ⟨_, xs, fu, rfl, s11, g11, c11, f11, w11, p11, fun z c2 hz hc2 => by
              by_cases e : z = j
              · subst e
                rw [hc1] at hc2
                cases hc2
                exact hin
              · exact dn z c2 (by omega) hc2⟩
        · rintro σ H11 ⟨v9, xs, fu, rfl, s11, g11, c11, f11, w11, p11, dn⟩
          rw [List.length_map, p11.ln] at dn
          exact ⟨_, _, xs, fu, rfl, s11, g11, c11, f11, w11.next hci nrd fun c1 st => by
            have := (iff c1).mpr st
            obtain ⟨z, hz⟩ := List.getElem?_of_mem this
            exact dn z c1 (getLt hz) hz⟩
    · rintro σ H8 ⟨v8, v9, xs2, fu, rfl, s8, g8, c8, f8, w8⟩
      rw [List.length_map, c8.ln] at w8
      walk_at "go"
      exact ⟨_, _, _, _, F, xs2, fu, rfl, s8, g8, f8, w8.lv w0⟩
  · rintro σ H6 ⟨v6, v7, v8, v9, L, xs, lv, rfl, s6, g6, c6, w0⟩
    walk_at "go"
    exact kN w0.nr _ s6
end Pw
namespace Pw
def sp_Wall_init (K : PySem.W.Frag) : Sp := fun vs H Q E => ∃ (w dx a : Addr) (ns : List Int), vs = [.ref w, .ref a] ∧ H w = some (.ins (He.ga K "Wall") dx []) ∧ SqL K H a (ns.map V.int) ∧ ns.length ≤ 1000 ∧
  (OkW ns → ∀ H' l1 l2 l3, WallAt K H' ⟨w, dx, l1, l2, l3, ns, List.replicate ns.length none, [], 0⟩ → H l1 = none → H l2 = none → H l3 = none → (∀ b o, H b = some o → b ≠ w → H' b = some o) → Q .non H') ∧
  (¬ OkW ns → E (.ref (He.ga K "NoWall")) none H)
theorem len_Wall_init {K : PySem.W.Frag} : ∀ vs H Q E, sp_Wall_init K vs H Q E → vs.length = 2 := by
  rintro vs H Q E ⟨_, _, _, _, rfl, _⟩
  rfl
def t_Wall_init (K : PySem.W.Frag) (E : XK) : TS :=
  tSeq (tIfS (tOr (tTest (tOp rLt (tCB (rLenSeq K) (tCons (tVar 1) tNil)) (tC (.int 1)))) (tTest (tOp rGt (tCB (rLenSeq K) (tCons (tVar 1) tNil)) (tC (.int 8))))) (tRaise E (He.ga K "NoWall")) (tNext))
    (tSeq (tForP (iList K (tVar 1)) (gName 2) (tIfS (tNot (tB (tCall (sp_is_size K) [] E0 (tCons (tVar 2) tNil)))) (tRaise E (He.ga K "NoWall")) (tNext)))
    (tSeq (sFld K (tVar 0) (tCB (rListOf K) (tCons (tVar 1) tNil)) "boxes")
    (tSeq (sFld K (tVar 0) (tLc (iList K (tVar 1)) (gName 2) tYes (tC .non) [2]) "inside")
    (tSeq (sFld K (tVar 0) (tLst tNil) "parcels")
    (sFld K (tVar 0) (tC (.int 0)) "today")))))
theorem pure_Wall_init {K : PySem.W.Frag} (T : TW K) (vs : List V) (H : Hp) (Q : VK) (E : XK) (h : sp_Wall_init K vs H Q E) : t_Wall_init K E { nx := fun _ H' => Q .non H', rt := Q } (start ["self", "sizes", "size"] vs) H := by
  obtain ⟨w, dx, a, ns, rfl, hw, hS, hl, k, kE⟩ := h
  obtain ⟨tcl, tnb, tni, tnp, tnt⟩ := id T
  unfold t_Wall_init
  walk_at "go"
  simp only [List.length_map]
  refine ifD (fun c => ?_) (fun c => ?_)
  · exact kE fun o => by have := o.1; omega
  walk_at "go"
  simp only [List.length_map]
  refine ifD (fun c2 => ?_) (fun c2 => ?_)
  · exact kE fun o => by have := o.2.1; omega
  walk_at "go"
  refine forList (K := K) (a := a) (xs := ns.map V.int) (fun i σ H' => ∃ v : Option V, σ = [some (.ref w), some (.ref a), v] ∧ H' = H ∧ ∀ x ∈ ns.take i, 1 ≤ x ∧ x ≤ 9) ⟨none, rfl, rfl, by simp⟩ ?_ ?_ ?_
  · rintro i σ H' _ ⟨v, _, rfl, _⟩
    exact hS
  · rintro i x σ H' hi ⟨v, rfl, rfl, ha⟩
    obtain ⟨n, hn, rfl⟩ := mapGet hi
    walk_at "go"
    refine ifN (fun c => ?_) (fun c => ?_)
    · refine kE fun o => c (o.2.2 n (List.mem_of_getElem? hn))
    · walk_at "go"
      intro x hx
      rw [takeMore hn] at hx
      rcases List.mem_append.mp hx with q | q
      · exact ha x q
      · rw [List.mem_singleton.mp q]; exact c
  · rintro σ H' ⟨v, rfl, rfl, ha⟩
    rw [List.length_map, List.take_length] at ha
    have ok : OkW ns := ⟨by omega, by omega, ha⟩
    walk_at "go"
    intro l1 h1
    have n1 : w ≠ l1 := ne_of_none hw h1
    have hS2 : SqL K (upd (upd H' l1 (.lst (ns.map V.int))) w (.ins (He.ga K "Wall") dx (putF "boxes" (.ref l1) []))) a (ns.map V.int) := by
      rcases hS with (q | ⟨o, q⟩) | q
      · refine .inl (.inl ?_)
        rw [upd_ne (ne_of q hw (by intro z; cases z)), upd_ne (ne_of_none q h1)]; exact q
      · refine .inl (.inr ⟨o, ?_⟩)
        rw [upd_ne (ne_of q hw (by intro z; cases z)), upd_ne (ne_of_none q h1)]; exact q
      · exact .inr q
    walk_at "go"
    intro l2 h2
    refine lcMap (fun _ => true) (fun _ => V.non) h2 hS2 (by omega) (fun _ => rfl) (fun i n H3 _ s3 TT k' => ?_) (fun i n H3 _ _ s3 Qv k' => ?_) (fun H3 s3 hD => ?_)
    · exact k' _ (Same.refl _)
    · exact k' _ (Same.refl _)
    rw [filterAll] at hD
    have f1 : H' l2 = none := updFree (updFree h2)
    have n2 : w ≠ l2 := ne_of_none hw f1
    have n12 : l2 ≠ l1 := fun e => by
      rw [e, upd_ne n1.symm, upd_same] at h2
      cases h2
    have hw3 : H3 w = some (.ins (He.ga K "Wall") dx (putF "boxes" (.ref l1) [])) := s3 _ _ upd_same
    have hl1 : H3 l1 = some (.lst (ns.map V.int)) := s3 _ _ (by rw [upd_ne n1.symm]; exact upd_same)
    walk_at "go"
    intro l3 h3
    have h3' : H3 l3 = none := by
      have n : l3 ≠ w := fun e => by rw [e, upd_same] at h3; cases h3
      rw [upd_ne n] at h3; exact h3
    have n3 : w ≠ l3 := ne_of_none hw3 h3'
    have n13 : l1 ≠ l3 := ne_of_none hl1 h3'
    have n23 : l2 ≠ l3 := ne_of_none hD h3'
    walk_at "go"
    have fr3 : H' l3 = none := by
      cases q : H' l3 with
      | none => rfl
      | some o =>
        have := s3 l3 o (by rw [upd_ne n3.symm, upd_ne n13.symm]; exact q)
        rw [h3'] at this; cases this
    refine k ok _ l1 l2 l3 ⟨?_, ?_, ?_, ?_, n12.symm, n13, n23, by simp, ok.2.1, by simp, ?_⟩ h1 f1 fr3 ?_
    · rw [upd_same]
      exact congrArg (fun q => some (HO.ins (He.ga K "Wall") dx q)) wf_new
    · show upd _ w _ l1 = _
      rw [upd_ne n1.symm, upd_ne n1.symm, upd_ne n13, upd_ne n1.symm]; exact hl1
    · show upd _ w _ l2 = _
      rw [upd_ne n2.symm, upd_ne n2.symm, upd_ne n23, upd_ne n2.symm, hD]
      have e : ∀ l : List Int, l.map (fun _ => V.non) = (List.replicate l.length (none : Option Nat)).map optV := fun l => by
        rw [List.map_replicate]
        induction l with
        | nil => rfl
        | cons x r ih => rw [List.map_cons, List.length_cons, List.replicate_succ, ih]; rfl
      rw [e]
    · refine ⟨[], ?_, rfl, fun j t q => by simp at q⟩
      show upd _ w _ l3 = _
      rw [upd_ne n3.symm, upd_ne n3.symm, upd_same]; rfl
    · intro j n q
      have q : (List.replicate ns.length none)[j]? = some (some n) := q
      rw [List.getElem?_replicate] at q
      split at q
      · cases q
      · cases q
    · intro b o e hb
      rw [upd_ne hb, upd_ne hb, upd_ne (fun z => by rw [z, fr3] at e; cases e), upd_ne hb]
      exact s3 b o (by rw [upd_ne hb, upd_ne (fun z => by rw [z, h1] at e; cases e)]; exact e)
theorem newWall {K : PySem.W.Frag} {H : Hp} {a : Addr} {zs : List Int} {Q : Addr → Hp → Prop} {E : XK} (hA : SqL K H a (zs.map V.int)) (ok : OkW zs)
    (k : ∀ x dx l1 l2 l3 H', Same H H' → WallAt K H' ⟨x, dx, l1, l2, l3, zs, List.replicate zs.length none, [], 0⟩ → H x = none → H l1 = none → H l2 = none → H l3 = none → Q x H') :
    ∀ x dx, H x = none → H dx = none → dx ≠ x → sp_Wall_init K [.ref x, .ref a] (upd (upd H dx (.own x)) x (.ins (He.ga K "Wall") dx [])) (fun v H2 => v = .non ∧ Q x H2) E := by
  intro x dx hx hdx hne
  have s3 : Same H (upd (upd H dx (.own x)) x (.ins (He.ga K "Wall") dx [])) := sameNew (sameNew (Same.refl _) hdx) (by rw [upd_ne (Ne.symm hne)]; exact hx)
  have l8 := ok.2.1
  refine ⟨x, dx, a, zs, rfl, upd_same, s3.seq hA, by omega, fun _ H2 l1 l2 l3 A n1 n2 n3 fr => ?_, fun nok => absurd ok nok⟩
  exact ⟨rfl, k x dx l1 l2 l3 H2 (fun c o e => fr c o (s3 c o e) (ne_of_none e hx)) A hx (s3.free n1) (s3.free n2) (s3.free n3)⟩
end Pw
namespace Pw
def sp_Wall_fetch (K : PySem.W.Frag) : Sp := fun vs H Q E => ∃ (s : WS), WallAt K H s ∧ ∃ (n : Int), vs = [.ref s.w, .int n] ∧ (∀ (m b : Nat), (m : Int) = n → Fst s.inside m b → ∀ H', Frm s H H' → WallAt K H' (s.ins (s.inside.set b none)) → Q (.int (b : Nat)) H') ∧
  (¬ hasP s.inside n → E (.ref (He.ga K "NoParcel")) none H)
theorem len_Wall_fetch {K : PySem.W.Frag} : ∀ vs H Q E, sp_Wall_fetch K vs H Q E → vs.length = 2 := by
  rintro vs H Q E ⟨_, _, _, rfl, _⟩
  rfl
def t_Wall_fetch (K : PySem.W.Frag) (E : XK) : TS :=
  tSeq (tDrop (tMeth (He.ga K "Wall") "see" (sp_Wall_see K) [] E (tVar 0) (tCons (tVar 1) tNil)))
    (tSeq (tAsg (tBM K "list" (rIndex K) (tFld K (tVar 0) "inside") (tCons (tVar 1) tNil)) (gName 2))
    (tSeq (tAsg (tC .non) (gSub (tFld K (tVar 0) "inside") (tVar 2) rSetL))
    (tRet (tVar 2))))
theorem pure_Wall_fetch {K : PySem.W.Frag} (T : TW K) (vs : List V) (H : Hp) (Q : VK) (E : XK) (h : sp_Wall_fetch K vs H Q E) : t_Wall_fetch K E { nx := fun _ H' => Q .non H', rt := Q } (start ["self", "parcel", "box"] vs) H := by
  obtain ⟨s, A, n, rfl, k, kE⟩ := h
  obtain ⟨tcl, tnb, tni, tnp, tnt⟩ := id T
  have hob := A.ob
  have his := A.is
  have hfl := flatOpt s.inside
  unfold t_Wall_fetch
  walk_at "go"
  refine ⟨?_, kE⟩
  rintro ⟨m, rfl, hm⟩
  obtain ⟨b, hb⟩ := fst_of hm
  obtain ⟨i1, i2, i3⟩ := hb.idx
  have hbl := hb.lt
  walk_at "go"
  refine ⟨ixN_of (by omega) (by rw [List.length_map]; omega), ?_⟩
  have eb : ((b : Nat) : Int).toNat = b := by omega
  dsimp only
  rw [eb, setNon]
  walk_at "go"
  refine k m b rfl hb _ (fun x o e n1 n2 n3 => by rw [upd_ne n2]; exact e) (A.insUpd (by rw [List.length_set]; exact A.len) (nbSet A.nb fun n q => (by cases q)))
end Pw
namespace Pw
def sp_least_box (K : PySem.W.Frag) : Sp := fun vs H Q _ => ∃ (a f : Addr) (sizes : List Int) (fs : List Nat) (size : Int), vs = [.ref a, .ref f, .int size] ∧ SqL K H a (sizes.map V.int) ∧ SqL K H f (fs.map fun i : Nat => V.int (i : Int)) ∧ sizes.length ≤ 1000 ∧ fs.length ≤ 1000 ∧
  fs.Pairwise (· < ·) ∧ (∀ b ∈ fs, b < sizes.length) ∧ ((∀ b ∈ fs, sizes.getD b 0 < size) → Q .non H) ∧ ∀ b, LB sizes fs size b → Q (.int (b : Nat)) H
theorem len_least_box {K : PySem.W.Frag} : ∀ vs H Q E, sp_least_box K vs H Q E → vs.length = 3 := by
  rintro vs H Q E ⟨_, _, _, _, _, rfl, _⟩
  rfl
def t_least_box (K : PySem.W.Frag) (E : XK) : TS :=
  tSeq (tAsg (tC .non) (gName 3))
    (tSeq (tForP (iList K (tVar 1)) (gName 4) (tIfS (tAnd (tTest (tOp rGe (tOp (rIxL K) (tVar 0) (tVar 4)) (tVar 2))) (tOr (tTest (tOp rIsNone (tVar 3) (tC .non))) (tTest (tOp rLt (tOp (rIxL K) (tVar 0) (tVar 4)) (tOp (rIxL K) (tVar 0) (tVar 3)))))) (tAsg (tVar 4) (gName 3)) (tNext)))
    (tRet (tVar 3)))
theorem pure_least_box {K : PySem.W.Frag} (vs : List V) (H : Hp) (Q : VK) (E : XK) (h : sp_least_box K vs H Q E) : t_least_box K E { nx := fun _ H' => Q .non H', rt := Q } (start ["sizes", "free", "size", "found", "box"] vs) H := by
  obtain ⟨a, f, sizes, fs, size, rfl, hA, hF, l1, l2, srt, hlt, kN, kB⟩ := h
  unfold t_least_box
  walk_at "go"
  refine forList (K := K) (a := f) (xs := fs.map fun i : Nat => V.int (i : Int)) (fun i σ H' => Stop (∃ (v : Option V), H' = H ∧ ((∃ x, σ = [some (.ref a), some (.ref f), some (.int size), some .non, x] ∧ ∀ b ∈ fs.take i, sizes.getD b 0 < size) ∨
      (∃ x b, σ = [some (.ref a), some (.ref f), some (.int size), some (.int ((b : Nat) : Int)), x] ∧ LB sizes (fs.take i) size b)))) ⟨none, rfl, .inl ⟨none, rfl, by simp⟩⟩ ?_ ?_ ?_
  · rintro i σ H' _ ⟨v, rfl, _⟩
    exact hF
  · rintro i x σ H' hi ⟨v, rfl, ⟨y, rfl, hn⟩ | ⟨y, b, rfl, hb⟩⟩
    · obtain ⟨n, hn', rfl⟩ := mapGet hi
      have hlt' := hlt n (List.mem_of_getElem? hn')
      have e : ((n : Nat) : Int).toNat = n := by omega
      walk_at "go"
      rw [e]
      refine ifD (fun c => ?_) (fun c => ?_)
      · walk_at "go"
        refine ⟨none, rfl, .inr ⟨_, n, rfl, ?_⟩⟩
        rw [takeMore hn']
        refine ⟨by simp, c, fun m hm hc => ?_⟩
        rcases List.mem_append.mp hm with q | q
        · have := hn m q; omega
        · rw [List.mem_singleton.mp q]; omega
      · refine ⟨none, rfl, .inl ⟨_, rfl, fun m hm => ?_⟩⟩
        rw [takeMore hn'] at hm
        rcases List.mem_append.mp hm with q | q
        · exact hn m q
        · rw [List.mem_singleton.mp q]; omega
    · obtain ⟨n, hn', rfl⟩ := mapGet hi
      have hlt' := hlt n (List.mem_of_getElem? hn')
      have hltb := hlt b (List.mem_of_mem_take hb.1)
      have e : ((n : Nat) : Int).toNat = n := by omega
      have eb : ((b : Nat) : Int).toNat = b := by omega
      have bn : b < n := by
        have := List.pairwise_iff_getElem.mp srt
        obtain ⟨j, hj, ej⟩ := List.mem_iff_getElem.mp hb.1
        rw [List.length_take] at hj
        rw [List.getElem_take] at ej
        have hi' := getLt hn'
        have q := this j i (by omega) hi' (by omega)
        rw [ej] at q
        have : fs[i] = n := by rw [List.getElem?_eq_getElem hi'] at hn'; exact Option.some.inj hn'
        omega
      have keep : ¬ (size ≤ sizes.getD n 0 ∧ sizes.getD n 0 < sizes.getD b 0) → LB sizes (fs.take (i + 1)) size b := fun c => by
        rw [takeMore hn']
        refine ⟨List.mem_append.mpr (.inl hb.1), hb.2.1, fun m hm hc => ?_⟩
        rcases List.mem_append.mp hm with q | q
        · exact hb.2.2 m q hc
        · rw [List.mem_singleton.mp q] at hc ⊢; omega
      walk_at "go"
      rw [e]
      refine ifD (fun c => ?_) (fun c => ?_)
      · walk_at "go"
        rw [e, eb]
        refine ifD (fun c2 => ?_) (fun c2 => ?_)
        · walk_at "go"
          refine ⟨none, rfl, .inr ⟨_, n, rfl, ?_⟩⟩
          rw [takeMore hn']
          refine ⟨by simp, c, fun m hm hc => ?_⟩
          rcases List.mem_append.mp hm with q | q
          · have := hb.2.2 m q hc
            omega
          · rw [List.mem_singleton.mp q]; omega
        · exact ⟨none, rfl, .inr ⟨_, b, rfl, keep (by omega)⟩⟩
      · exact ⟨none, rfl, .inr ⟨_, b, rfl, keep (by omega)⟩⟩
  · rintro σ H' ⟨v, rfl, ⟨y, rfl, hn⟩ | ⟨y, b, rfl, hb⟩⟩
    · rw [List.length_map, List.take_length] at hn
      walk_at "go"
      exact kN hn
    · rw [List.length_map, List.take_length] at hb
      walk_at "go"
      exact kB b hb
end Pw
namespace Pw
def sp_Wall_free (K : PySem.W.Frag) : Sp := fun vs H Q _ => ∃ (s : WS), WallAt K H s ∧ vs = [.ref s.w] ∧ RetNew H Q ((freeL s.inside).map fun i : Nat => V.int (i : Int))
theorem len_Wall_free {K : PySem.W.Frag} : ∀ vs H Q E, sp_Wall_free K vs H Q E → vs.length = 1 := by
  rintro vs H Q E ⟨_, _, rfl, _⟩
  rfl
def t_Wall_free (K : PySem.W.Frag) (E : XK) : TS :=
  tRet (tLc (iRng1 (tCons (tCB (rLenSeq K) (tCons (tFld K (tVar 0) "boxes") tNil)) tNil)) (gName 1) (tTest (tOp rIsNone (tOp (rIxL K) (tFld K (tVar 0) "inside") (tVar 1)) (tC .non))) (tVar 1) [1])
theorem pure_Wall_free {K : PySem.W.Frag} (T : TW K) (vs : List V) (H : Hp) (Q : VK) (E : XK) (h : sp_Wall_free K vs H Q E) : t_Wall_free K E { nx := fun _ H' => Q .non H', rt := Q } (start ["self", "box"] vs) H := by
  obtain ⟨s, A, rfl, k⟩ := h
  obtain ⟨tcl, tnb, tni, tnp, tnt⟩ := id T
  have hob := A.ob
  have his := A.is
  have hbx := A.bx
  have hl := A.len
  have h8 := A.l8
  unfold t_Wall_free
  walk_at "go"
  intro p hp
  refine lcRng (n := (((s.sizes.map V.int).length : Nat) : Int).toNat) (fun i => (s.inside.getD i none).isNone) (fun i : Nat => V.int (i : Int)) hp (by simp; omega) (fun _ => rfl) (fun i H' hi s' TT k' => ?_) (fun i H' hi _ s' Qv k' => ?_) (fun H' s' hD => ?_)
  · simp only [List.length_map] at hi
    walk_at "go"
    refine ⟨atMap none (by omega) (by omega), ?_⟩
    walk_at "go"
    rw [isNone_opt]
    have e : ((0 : Int) + (i : Int)).toNat = i := by omega
    rw [e]
    exact k' _ (Same.refl _)
  · walk_at "go"
    have e : (0 : Int) + (i : Int) = (i : Int) := by omega
    rw [e]
    exact k' _ (Same.refl _)
  · refine k _ p s' hp ?_
    have e : (((s.sizes.map V.int).length : Nat) : Int).toNat = s.inside.length := by simp; omega
    rw [e] at hD
    exact hD
end Pw
namespace Pw
def sp_Wall_come (K : PySem.W.Frag) : Sp := fun vs H Q E => ∃ (s : WS), WallAt K H s ∧ ∃ (size nights : Int), vs = [.ref s.w, .int size, .int nights] ∧ s.parcels.length < 1000 ∧
  (¬ (1 ≤ size ∧ size ≤ 9) → E (.ref (He.ga K "NoSize")) none H) ∧
  ((1 ≤ size ∧ size ≤ 9) → ¬ (1 ≤ nights ∧ nights ≤ 9) → E (.ref (He.ga K "NoNights")) none H) ∧
  ((1 ≤ size ∧ size ≤ 9) → (1 ≤ nights ∧ nights ≤ 9) → (∀ b ∈ freeL s.inside, s.sizes.getD b 0 < size) → ∀ H', Same H H' → E (.ref (He.ga K "NoBox")) none H') ∧
  ((1 ≤ size ∧ size ≤ 9) → (1 ≤ nights ∧ nights ≤ 9) → ∀ b H', LB s.sizes (freeL s.inside) size b → Frm s H H' → WallAt K H' (s.came b size (s.today + nights)) → Q (.int (s.parcels.length : Nat)) H')
theorem len_Wall_come {K : PySem.W.Frag} : ∀ vs H Q E, sp_Wall_come K vs H Q E → vs.length = 3 := by
  rintro vs H Q E ⟨_, _, _, _, rfl, _⟩
  rfl
def t_Wall_come (K : PySem.W.Frag) (E : XK) : TS :=
  tSeq (tIfS (tNot (tB (tCall (sp_is_size K) [] E0 (tCons (tVar 1) tNil)))) (tRaise E (He.ga K "NoSize")) (tNext))
    (tSeq (tIfS (tOr (tTest (tOp rLt (tVar 2) (tC (.int 1)))) (tTest (tOp rGt (tVar 2) (tC (.int 9))))) (tRaise E (He.ga K "NoNights")) (tNext))
    (tSeq (tAsg (tCall (sp_least_box K) [] E0 (tCons (tFld K (tVar 0) "boxes") (tCons (tMeth (He.ga K "Wall") "free" (sp_Wall_free K) [] E0 (tVar 0) tNil) (tCons (tVar 1) tNil)))) (gName 3))
    (tSeq (tIfS (tTest (tOp rIsNone (tVar 3) (tC .non))) (tRaise E (He.ga K "NoBox")) (tNext))
    (tSeq (tDrop (tBM K "list" rAppend (tFld K (tVar 0) "parcels") (tCons (tTup (tCons (tVar 1) (tCons (tOp rAddI (tFld K (tVar 0) "today") (tVar 2)) tNil))) tNil)))
    (tSeq (tAsg (tOp rSubI (tCB (rLenSeq K) (tCons (tFld K (tVar 0) "parcels") tNil)) (tC (.int 1))) (gSub (tFld K (tVar 0) "inside") (tVar 3) rSetL))
    (tRet (tOp rSubI (tCB (rLenSeq K) (tCons (tFld K (tVar 0) "parcels") tNil)) (tC (.int 1)))))))))
theorem pure_Wall_come {K : PySem.W.Frag} (T : TW K) (vs : List V) (H : Hp) (Q : VK) (E : XK) (h : sp_Wall_come K vs H Q E) : t_Wall_come K E { nx := fun _ H' => Q .non H', rt := Q } (start ["self", "size", "nights", "box"] vs) H := by
  obtain ⟨s, A, size, nights, rfl, hp, e1, e2, e3, k⟩ := h
  obtain ⟨tcl, tnb, tni, tnp, tnt⟩ := id T
  have hob := A.ob
  have hbx := A.bx
  have h8 := A.l8
  have hl := A.len
  unfold t_Wall_come
  walk_at "go"
  refine ifN (fun c => e1 c) (fun c => ?_)
  walk_at "go"
  refine ifD (fun c2 => e2 c (by omega)) (fun c2 => ?_)
  walk_at "go"
  refine ifD (fun c3 => e2 c (by omega)) (fun c3 => ?_)
  have cn : 1 ≤ nights ∧ nights ≤ 9 := by omega
  walk_at "go"
  intro H1 p s1 hp0 hp1
  have A1 := A.mono s1
  have hob1 := A1.ob
  have hbx1 := SqL.of (K := K) A1.bx
  have fl := free_len s.inside
  walk_at "go"
  refine ⟨free_lt _, fun b hb => by have := (mem_free.mp hb).1; omega, fun hn => ?_, fun b hb => ?_⟩
  · walk_at "go"
    exact e3 c cn hn _ s1
  · obtain ⟨ts, hps, htl, htt⟩ := A1.ps
    have hbl := (mem_free.mp hb.1).1
    walk_at "go"
    intro t ht
    have st : Same H1 (upd H1 t (.tup [V.int size, V.int (s.today + nights)])) := sameNew (Same.refl _) ht
    have A2 := A1.mono st
    have e : upd H1 t (.tup [V.int size, V.int (s.today + nights)]) t = some (.tup [V.int size, V.int (s.today + nights)]) := upd_same
    have hps2 := st _ _ hps
    have htt2 : ∀ (j : Nat) (t' : Addr), ts[j]? = some t' → upd H1 t (.tup [V.int size, V.int (s.today + nights)]) t' = some (.tup [.int (s.parcels.getD j (0, 0)).1, .int (s.parcels.getD j (0, 0)).2]) := fun j t' q => st _ _ (htt j t' q)
    have Z := A2.came (b := b) hps2 htl htt2 e hp
    have s2 := s1.trans st
    generalize upd H1 t (.tup [V.int size, V.int (s.today + nights)]) = H2 at A2 e hps2 htt2 Z s2
    have hob2 := A2.ob
    walk_at "go"
    have hob3 : upd H2 s.l3 (.lst (ts.map V.ref ++ [V.ref t])) s.w = some (.ins (He.ga K "Wall") s.dx (wf s.l1 s.l2 s.l3 s.today)) := by
      rw [upd_ne (ne_of hob2 hps2 (by intro q; cases q))]; exact hob2
    have his3 : upd H2 s.l3 (.lst (ts.map V.ref ++ [V.ref t])) s.l2 = some (.lst (s.inside.map optV)) := by rw [upd_ne A.n23]; exact A2.is
    have hl3 : upd H2 s.l3 (.lst (ts.map V.ref ++ [V.ref t])) s.l3 = some (.lst (ts.map V.ref ++ [V.ref t])) := upd_same
    walk_at "go"
    refine ⟨ixN_of (by omega) (by rw [List.length_map]; omega), ?_⟩
    have e5 : (((ts.map V.ref ++ [V.ref t]).length : Nat) : Int) - 1 = ((s.parcels.length : Nat) : Int) := by
      rw [List.length_append, List.length_map, List.length_singleton, htl]; omega
    have eb : ((b : Nat) : Int).toNat = b := by omega
    dsimp only
    rw [e5, eb, setOpt]
    have hob4 := Z.ob
    have hl4 : upd (upd H2 s.l3 (.lst (ts.map V.ref ++ [V.ref t]))) s.l2 (.lst ((s.inside.set b (some s.parcels.length)).map optV)) s.l3 = some (.lst (ts.map V.ref ++ [V.ref t])) := by
      rw [upd_ne (Ne.symm A.n23)]; exact hl3
    have hob4 : upd (upd H2 s.l3 (.lst (ts.map V.ref ++ [V.ref t]))) s.l2 (.lst ((s.inside.set b (some s.parcels.length)).map optV)) s.w = some (.ins (He.ga K "Wall") s.dx (wf s.l1 s.l2 s.l3 s.today)) := hob4
    walk_at "go"
    dsimp only
    rw [e5]
    refine k c cn b _ hb (fun x o ex n1 n2 n3 => ?_) Z
    rw [upd_ne n2, upd_ne n3]
    exact s2 _ _ ex
end Pw
namespace Pw
def CanGo (s : WS) (m : Nat) (box : Int) (c : Nat) : Prop := (c : Int) = box ∧ c ∈ freeL s.inside ∧ (s.parcels.getD m (0, 0)).1 ≤ s.sizes.getD c 0
def sp_Wall_move (K : PySem.W.Frag) : Sp := fun vs H Q E => ∃ (s : WS), WallAt K H s ∧ ∃ (n box : Int), vs = [.ref s.w, .int n, .int box] ∧
  (∀ (m b c : Nat), (m : Int) = n → Fst s.inside m b → CanGo s m box c → ∀ H', Frm s H H' → WallAt K H' (s.ins ((s.inside.set b none).set c (some m))) → Q .non H') ∧
  (∀ m : Nat, (m : Int) = n → some m ∈ s.inside → (¬ ∃ c, CanGo s m box c) → ∀ H', Same H H' → E (.ref (He.ga K "NoBox")) none H') ∧
  (¬ hasP s.inside n → E (.ref (He.ga K "NoParcel")) none H)
theorem len_Wall_move {K : PySem.W.Frag} : ∀ vs H Q E, sp_Wall_move K vs H Q E → vs.length = 3 := by
  rintro vs H Q E ⟨_, _, _, _, rfl, _⟩
  rfl
def t_Wall_move (K : PySem.W.Frag) (E : XK) : TS :=
  tSeq (tDrop (tMeth (He.ga K "Wall") "see" (sp_Wall_see K) [] E (tVar 0) (tCons (tVar 1) tNil)))
    (tSeq (tIfS (tOr (tTest (tOp (rInN K) (tVar 2) (tMeth (He.ga K "Wall") "free" (sp_Wall_free K) [] E0 (tVar 0) tNil))) (tTest (tOp rLt (tOp (rIxL K) (tFld K (tVar 0) "boxes") (tVar 2)) (tOp (rIxT K) (tOp (rIxL K) (tFld K (tVar 0) "parcels") (tVar 1)) (tC (.int 0)))))) (tRaise E (He.ga K "NoBox")) (tNext))
    (tSeq (tAsg (tC .non) (gSub (tFld K (tVar 0) "inside") (tBM K "list" (rIndex K) (tFld K (tVar 0) "inside") (tCons (tVar 1) tNil)) rSetL))
    (tAsg (tVar 1) (gSub (tFld K (tVar 0) "inside") (tVar 2) rSetL))))
theorem pure_Wall_move {K : PySem.W.Frag} (T : TW K) (vs : List V) (H : Hp) (Q : VK) (E : XK) (h : sp_Wall_move K vs H Q E) : t_Wall_move K E { nx := fun _ H' => Q .non H', rt := Q } (start ["self", "parcel", "box"] vs) H := by
  obtain ⟨s, A, n, box, rfl, k, kB, kE⟩ := h
  obtain ⟨tcl, tnb, tni, tnp, tnt⟩ := id T
  have hob := A.ob
  unfold t_Wall_move
  walk_at "go"
  refine ⟨?_, kE⟩
  rintro ⟨m, rfl, hm⟩
  obtain ⟨b, hb⟩ := fst_of hm
  obtain ⟨i1, i2, i3⟩ := hb.idx
  have hbl := hb.lt
  walk_at "go"
  intro H1 p s1 hp0 hp1
  have A1 := A.mono s1
  have hob1 := A1.ob
  have hbx1 := A1.bx
  have his1 := A1.is
  have hfl := flatOpt s.inside
  have hfn := flatNat (freeL s.inside)
  obtain ⟨ts, t, h1, h2, h3, h4⟩ := A1.tup (A.mem_lt hm)
  have hl := A.len
  walk_at "go"
  refine ifNB (fun c => kB m rfl hm (fun ⟨c', q1, q2, _⟩ => inNatF c ⟨c', q2, q1⟩) _ s1) (fun cin => ?_)
  obtain ⟨c, hc, rfl⟩ := inNat.mp cin
  have hcl := (mem_free.mp hc).1
  have ec : ((c : Nat) : Int).toNat = c := by omega
  walk_at "go"
  rw [ec]
  refine ifD (fun q => kB m rfl hm (fun ⟨c', q1, q2, q3⟩ => ?_) _ s1) (fun q => ?_)
  · have e : c' = c := by omega
    subst e
    omega
  walk_at "go"
  refine ⟨ixN_of (by omega) (by rw [List.length_map]; omega), ?_⟩
  have eb : ((b : Nat) : Int).toNat = b := by omega
  dsimp only
  rw [eb, setNon]
  have A2 := A1.insUpd (l := s.inside.set b none) (by rw [List.length_set]; exact A.len) (nbSet A.nb fun n q => (by cases q))
  have f2 : Frm s H (upd H1 s.l2 (.lst ((s.inside.set b none).map optV))) := fun x o e n1 n2 n3 => by rw [upd_ne n2]; exact s1 _ _ e
  generalize upd H1 s.l2 (.lst ((s.inside.set b none).map optV)) = H2 at A2 f2
  have hob2 : H2 s.w = some (.ins (He.ga K "Wall") s.dx (wf s.l1 s.l2 s.l3 s.today)) := A2.ob
  have his2 : H2 s.l2 = some (.lst ((s.inside.set b none).map optV)) := A2.is
  walk_at "go"
  refine ⟨ixN_of (by omega) (by rw [List.length_map, List.length_set]; omega), ?_⟩
  dsimp only
  rw [ec, setOpt]
  exact k m b c rfl hb ⟨rfl, hc, by omega⟩ _ (fun x o e n1 n2 n3 => by rw [upd_ne n2]; exact f2 x o e n1 n2 n3) (A2.insUpd (l := (s.inside.set b none).set c (some m)) (by rw [List.length_set, List.length_set]; exact A.len) (nbSet (nbSet A.nb fun n q => (by cases q)) fun n q => by cases q; exact A.mem_lt hm))
end Pw
namespace Pw
def sp_law_side_of (K : PySem.W.Frag) : Sp := fun vs H Q _ => ∃ (a d : Addr) (sizes : List Int) (inside : List (Option Nat)), vs = [.ref a, .ref d] ∧ SqL K H a (sizes.map V.int) ∧ OkW sizes ∧ SqL K H d (inside.map optV) ∧ FillOk sizes inside ∧
  ∀ (s : WS) (e p : Addr) (H' : Hp), Same H H' → WallAt K H' s → Side sizes inside s → H' e = some (.lst (s.inside.map optV)) → H' p = some (.tup [.ref s.w, .ref e]) → H s.w = none → H s.l1 = none → H s.l2 = none → H s.l3 = none → H e = none → e ≠ s.w → e ≠ s.l1 → e ≠ s.l2 → e ≠ s.l3 → Q (.ref p) H'
theorem len_law_side_of {K : PySem.W.Frag} : ∀ vs H Q E, sp_law_side_of K vs H Q E → vs.length = 2 := by
  rintro vs H Q E ⟨_, _, _, _, rfl, _⟩
  rfl
def t_law_side_of (K : PySem.W.Frag) (E : XK) : TS :=
  tSeq (tAsg (tMake (He.ga K "Wall") (sp_Wall_init K) [] E0 (tCons (tVar 0) tNil)) (gName 2))
    (tSeq (tDrop (tMeth (He.ga K "Wall") "fetch" (sp_Wall_fetch K) [] E0 (tVar 2) (tCons (tMeth (He.ga K "Wall") "come" (sp_Wall_come K) [] E0 (tVar 2) (tCons (tC (.int 1)) (tCons (tC (.int 1)) tNil))) tNil)))
    (tSeq (tAsg (tLc (iList K (tVar 0)) (gName 7) tYes (tC .non) [7]) (gName 3))
    (tSeq (tAsg (tLstRg (tRg1 (tCB (rLenSeq K) (tCons (tVar 0) tNil)))) (gName 4))
    (tCutP (tIfS (tTest (tOp rEq (tOp rModP (tOp (rIxL K) (tVar 0) (tC (.int 0))) (tC (.int 2))) (tC (.int 1)))) (tDrop (tBM0 K "list" rReverse (tVar 4))) (tNext))
    (tSeq (tForP (iList K (tVar 4)) (gName 5) (tIfS (tTest (tOp rNotNone (tOp (rIxL K) (tVar 1) (tVar 5)) (tC .non))) (tSeq (tAsg (tMeth (He.ga K "Wall") "come" (sp_Wall_come K) [] E0 (tVar 2) (tCons (tOp (rIxL K) (tVar 1) (tVar 5)) (tCons (tC (.int 9)) tNil))) (gName 6))
    (tCutP (tIfS (tTest (tOp rNe (tBM K "list" (rIndex K) (tMeth (He.ga K "Wall") "held" (sp_Wall_held K) [] E0 (tVar 2) tNil) (tCons (tVar 6) tNil)) (tVar 5))) (tDrop (tMeth (He.ga K "Wall") "move" (sp_Wall_move K) [] E0 (tVar 2) (tCons (tVar 6) (tCons (tVar 5) tNil)))) (tNext))
    (tAsg (tVar 6) (gSub (tVar 3) (tVar 5) rSetL)))) (tNext)))
    (tRet (tTup (tCons (tVar 2) (tCons (tVar 3) tNil)))))))))
theorem pure_law_side_of {K : PySem.W.Frag} (T : TW K) (vs : List V) (H : Hp) (Q : VK) (E : XK) (h : sp_law_side_of K vs H Q E) : t_law_side_of K E { nx := fun _ H' => Q .non H', rt := Q } (start ["sizes", "inside", "side", "held", "boxes", "box", "number", "size"] vs) H := by
  obtain ⟨a, d, sizes, inside, rfl, hA, ok, hD, fo, k⟩ := h
  have l8 := ok.2.1
  have l1k := ok.1
  have fl := fo.1
  unfold t_law_side_of
  walk_at "go"
  refine newWall (zs := sizes) hA ok fun x dx l1 l2 l3 H1 s1 A1 nx n1 n2 n3 => ?_
  have hob1 := A1.ob
  walk_at "go"
  have h0 : (0 : Nat) ∈ freeL (List.replicate sizes.length none) := mem_free.mpr ⟨by simp; omega, by rw [List.getD_eq_getElem?_getD, List.getElem?_replicate, if_pos (by omega)]; rfl⟩
  have z0 := ok.2.2 (sizes.getD 0 0) (by rw [getDlt l1k]; exact List.getElem_mem l1k)
  refine ⟨fun _ _ hn H' s' => ?_, fun _ _ b H2 hb F2 A2 => ?_⟩
  · have : sizes.getD 0 0 < 1 := hn 0 h0
    omega
  have hob2 := A2.ob
  have bl := (mem_free.mp hb.1).1
  walk_at "go"
  have nb0 : ∀ (j m : Nat), (List.replicate sizes.length (none : Option Nat))[j]? = some (some m) → m < 0 := fun j m q => by
    have := (List.mem_replicate.mp (List.mem_of_getElem? q)).2
    cases this
  have f0 : Fst ((List.replicate sizes.length (none : Option Nat)).set b (some 0)) 0 b := fst_new nb0 bl
  refine ⟨fun m b2 em hf H3 F3 A3 => ?_, fun nh => absurd ⟨0, rfl, f0.mem⟩ nh⟩
  have em : m = 0 := by
    have em : ((m : Nat) : Int) = ((0 : Nat) : Int) := em
    omega
  subst em
  have hf : Fst ((List.replicate sizes.length (none : Option Nat)).set b (some 0)) 0 b2 := hf
  have eb := f0.uniq hf
  subst eb
  have el : ((List.replicate sizes.length (none : Option Nat)).set b (some 0)).set b none = List.replicate sizes.length none := by
    rw [List.set_set]
    exact setSame (by rw [List.getElem?_replicate, if_pos (by simpa using bl)])
  have A3 : WallAt K H3 ⟨x, dx, l1, l2, l3, sizes, ((List.replicate sizes.length (none : Option Nat)).set b (some 0)).set b none, [(1, 0 + 1)], 0⟩ := A3
  rw [el] at A3
  have s3 : Same H H3 := frmSame (frmSame s1 F2 nx n2 n3) F3 nx n2 n3
  clear A1 A2 F2 F3 hob1 hob2 hf f0 el nb0 h0 hb bl
  have hA3 := s3.seq hA
  have l3k : H3 l3 ≠ none := let ⟨ts, q, _⟩ := A3.ps; fun z => by rw [q] at z; cases z
  walk_at "go"
  intro h hh
  refine lcMap (inj := V.int) (ns := sizes) (fun _ => true) (fun _ => V.non) hh hA3 (by omega) (fun _ => rfl) (fun i n H' hi s' TT k' => ?_) (fun i n H' hi _ s' Qv k' => ?_) (fun H4 s4 hh4 => ?_)
  · exact k' _ (Same.refl _)
  · walk_at "go"
    exact k' _ (Same.refl _)
  rw [filterAll, repOpt] at hh4
  have hx : h ≠ x := Ne.symm (ne_of_none A3.ob hh)
  have h1 : h ≠ l1 := Ne.symm (ne_of_none A3.bx hh)
  have h2 : h ≠ l2 := Ne.symm (ne_of_none A3.is hh)
  have h3 : h ≠ l3 := fun e => l3k (e ▸ hh)
  have A4 := A3.mono s4
  have hA4 := s4.seq hA3
  walk_at "go"
  refine ⟨RgOk.of_le (by decide) (by simp; omega) (by decide) (by simp), ?_⟩
  intro q hq
  rw [List.length_map, rgNat]
  have hqx : q ≠ x := Ne.symm (ne_of_none A4.ob hq)
  have hq2 : q ≠ l2 := Ne.symm (ne_of_none A4.is hq)
  have hq1 : q ≠ l1 := Ne.symm (ne_of_none A4.bx hq)
  have hq3 : q ≠ l3 := Ne.symm (fun e => by
    obtain ⟨ts, z, _⟩ := A4.ps
    exact ne_of_none z hq e)
  have hqh : q ≠ h := Ne.symm (ne_of_none hh4 hq)
  have sh : H h = none := s3.free hh
  have sq : H q = none := (s3.trans s4).free hq
  have s5 : Same H4 (upd H4 q (.lst ((List.range sizes.length).map fun i : Nat => V.int (i : Int)))) := sameNew (Same.refl _) hq
  have A5 := A4.mono s5
  have hh5 := s5 _ _ hh4
  have hA5 := s5.seq hA4
  have hq5 : upd H4 q (.lst ((List.range sizes.length).map fun i : Nat => V.int (i : Int))) q = some (.lst ((List.range sizes.length).map fun i : Nat => V.int (i : Int))) := upd_same
  have s5' := s3.trans (s4.trans s5)
  generalize upd H4 q (.lst ((List.range sizes.length).map fun i : Nat => V.int (i : Int))) = H5 at s5 A5 hh5 hA5 hq5 s5'
  walk_at "go"
  refine cut (fun σ H6 => Stop (∃ bx : List Nat, σ = [some (.ref a), some (.ref d), some (.ref x), some (.ref h), some (.ref q), none, none, none] ∧ Same H H6 ∧ WallAt K H6 ⟨x, dx, l1, l2, l3, sizes, List.replicate sizes.length none, [(1, 0 + 1)], 0⟩ ∧
    H6 h = some (.lst ((List.replicate sizes.length (none : Option Nat)).map optV)) ∧ H6 q = some (.lst (bx.map fun i : Nat => V.int (i : Int))) ∧ bx.Perm (List.range sizes.length))) ?_ ?_
  · walk_at "go"
    refine ifD (fun c => ?_) (fun c => ?_)
    · walk_at "go"
      refine ⟨(List.range sizes.length).reverse, rfl, sameMut s5' sq, A5.lstUpd hq5 hq1 hq2 hq3, by rw [upd_ne (Ne.symm hqh)]; exact hh5, by rw [upd_same, List.map_reverse], List.reverse_perm _⟩
    · exact ⟨_, rfl, s5', A5, hh5, hq5, List.Perm.refl _⟩
  rintro σ H6 ⟨bx, rfl, s6, A6, hh6, hq6, hperm⟩
  have nd : bx.Nodup := hperm.nodup_iff.mpr List.nodup_range
  walk_at "go"
  refine forList (K := K) (a := q) (xs := bx.map fun i : Nat => V.int (i : Int)) (fun i σ H' => Stop (∃ (v5 v6 : Option V) (is : List (Option Nat)) (ps : List (Int × Int)), σ = [some (.ref a), some (.ref d), some (.ref x), some (.ref h), some (.ref q), v5, v6, none] ∧ Same H H' ∧
    WallAt K H' ⟨x, dx, l1, l2, l3, sizes, is, ps, 0⟩ ∧ H' h = some (.lst (is.map optV)) ∧ H' q = some (.lst (bx.map fun i : Nat => V.int (i : Int))) ∧ SI sizes inside (bx.take i) is ps ∧ ps.length ≤ 1 + i)) ⟨none, none, _, _, rfl, s6, A6, hh6, hq6, SI.start, Nat.le_refl _⟩ ?_ ?_ ?_
  · rintro i σ H' _ ⟨v5, v6, is, ps, _, _, _, _, z, _⟩
    exact SqL.of z
  · rintro i v σ H7 hi ⟨v5, v6, is, ps, rfl, s7, A7, hh7, hq7, g, lp⟩
    obtain ⟨b0, hb0, rfl⟩ := mapGet hi
    have bm : b0 < sizes.length := List.mem_range.mp (hperm.mem_iff.mp (List.mem_of_getElem? hb0))
    have nd0 : b0 ∉ bx.take i := fun m => by
      obtain ⟨j, hj, ej⟩ := List.getElem_of_mem m
      rw [List.length_take] at hj
      rw [List.getElem_take] at ej
      have hil := getLt hb0
      have e2 : bx[i]? = bx[j]? := by rw [hb0, List.getElem?_eq_getElem (by omega), ej]
      have := (List.getElem?_inj hil nd).mp e2
      omega
    have bxl : bx.length = sizes.length := by rw [hperm.length_eq, List.length_range]
    have hil := getLt hb0
    obtain ⟨y, hy⟩ := getOf (xs := inside) (i := b0) (by omega)
    have hD7 := s7.seq hD
    have hat : atI (inside.map optV) ((b0 : Nat) : Int) = some (optV y) := at_of (j := b0) rfl (getMap hy)
    have hob7 := A7.ob
    cases y with
    | none =>
      have hat : atI (inside.map optV) ((b0 : Nat) : Int) = some .non := hat
      walk_at "go"
      exact ⟨_, _, is, ps, rfl, s7, A7, hh7, hq7, by rw [takeMore hb0]; exact g.skip hy nd0 bm, by omega⟩
    | some w =>
      have hat : atI (inside.map optV) ((b0 : Nat) : Int) = some (.int ((w : Nat) : Int)) := hat
      obtain ⟨w1, w2⟩ := fo.2 b0 w hy
      have z0 := ok.2.2 (sizes.getD b0 0) (by rw [getDlt bm]; exact List.getElem_mem bm)
      have i0 := g.oth b0 bm nd0
      have hf0 : b0 ∈ freeL is := mem_free.mpr ⟨getLt i0, by rw [List.getD_eq_getElem?_getD, i0]; rfl⟩
      have lp1 : ps.length < 1000 := by omega
      walk_at "go"
      refine ⟨fun _ _ hn H' s' => ?_, fun _ _ b H8 hb F8 A8 => ?_⟩
      · have := hn b0 hf0
        have : sizes.getD b0 0 < (w : Int) := this
        omega
      have A8 : WallAt K H8 ⟨x, dx, l1, l2, l3, sizes, is.set b (some ps.length), ps ++ [((w : Int), 0 + 9)], 0⟩ := A8
      have hb : LB sizes (freeL is) w b := hb
      have s8 : Same H H8 := frmSame s7 F8 nx n2 n3
      have hh8 := F8 h _ hh7 hx h2 h3
      have hq8 := F8 q _ hq7 hqx hq2 hq3
      have bl := (mem_free.mp hb.1).1
      have hf : Fst (is.set b (some ps.length)) ps.length b := fst_new g.nb bl
      have hob8 := A8.ob
      have hfl := flatOpt (is.set b (some ps.length))
      obtain ⟨i1, i2, i3⟩ := hf.idx
      walk_at "go"
      refine cut (fun σ H9 => Stop (σ = [some (.ref a), some (.ref d), some (.ref x), some (.ref h), some (.ref q), some (.int ((b0 : Nat) : Int)), some (.int ((ps.length : Nat) : Int)), none] ∧ Same H H9 ∧
        WallAt K H9 ⟨x, dx, l1, l2, l3, sizes, is.set b0 (some ps.length), ps ++ [((w : Int), 0 + 9)], 0⟩ ∧ H9 h = some (.lst (is.map optV)) ∧ H9 q = some (.lst (bx.map fun i : Nat => V.int (i : Int))))) ?_ ?_
      · walk_at "go"
        intro H9 p s9 hp0 hp
        have hp : H9 p = some (.lst ((is.set b (some ps.length)).map optV)) := hp
        have A9 := A8.mono s9
        have hob9 := A9.ob
        walk_at "go"
        refine ifN (fun c => ?_) (fun c => ?_)
        · have cb : b ≠ b0 := fun e => c (by rw [e])
          have go0 : CanGo ⟨x, dx, l1, l2, l3, sizes, is.set b (some ps.length), ps ++ [((w : Int), 0 + 9)], 0⟩ ps.length ((b0 : Nat) : Int) b0 := by
            refine ⟨rfl, mem_free.mpr ⟨by rw [List.length_set]; exact getLt i0, ?_⟩, ?_⟩
            · show (is.set b (some ps.length)).getD b0 none = none
              rw [List.getD_eq_getElem?_getD, List.getElem?_set_ne cb, i0]; rfl
            · show ((ps ++ [((w : Int), (0 : Int) + 9)]).getD ps.length (0, 0)).1 ≤ sizes.getD b0 0
              rw [List.getD_eq_getElem?_getD, List.getElem?_append_right (Nat.le_refl _), Nat.sub_self]
              exact w2
          walk_at "go"
          refine ⟨fun m b' c' em hf' hc' H10 F10 A10 => ?_, fun m em _ nc => absurd ⟨b0, ?_⟩ nc, fun nh => absurd ⟨ps.length, rfl, hf.mem⟩ nh⟩
          · have em : m = ps.length := by
              have em : ((m : Nat) : Int) = ((ps.length : Nat) : Int) := em
              omega
            subst em
            have hf' : Fst (is.set b (some ps.length)) ps.length b' := hf'
            have eb := hf.uniq hf'
            subst eb
            have ec : c' = b0 := by have := hc'.1; omega
            subst ec
            have A10 : WallAt K H10 ⟨x, dx, l1, l2, l3, sizes, ((is.set b (some ps.length)).set b none).set c' (some ps.length), ps ++ [((w : Int), 0 + 9)], 0⟩ := A10
            have inb : is[b]? = some none := by
              have q2 := (mem_free.mp hb.1).2
              rw [List.getD_eq_getElem?_getD, List.getElem?_eq_getElem bl] at q2
              rw [List.getElem?_eq_getElem bl]; exact congrArg some q2
            rw [List.set_set, setSame inb] at A10
            exact ⟨rfl, frmSame (s8.trans s9) F10 nx n2 n3, A10, F10 h _ (s9 _ _ hh8) hx h2 h3, F10 q _ (s9 _ _ hq8) hqx hq2 hq3⟩
          · have em : m = ps.length := by
              have em : ((m : Nat) : Int) = ((ps.length : Nat) : Int) := em
              omega
            subst em
            exact go0
        · have cb : b = b0 := by
            have := V.int.inj c
            omega
          subst cb
          exact ⟨rfl, s8.trans s9, A9, s9 _ _ hh8, s9 _ _ hq8⟩
      · rintro σ H9 ⟨rfl, s9, A9, hh9, hq9⟩
        walk_at "go"
        refine ⟨ixN_of (by omega) (by rw [List.length_map, g.len]; omega), ?_⟩
        have eb : ((b0 : Nat) : Int).toNat = b0 := by omega
        dsimp only
        rw [eb, setOpt]
        refine ⟨_, _, _, _, rfl, sameMut s9 sh, A9.lstUpd hh9 h1 h2 h3, upd_same, by rw [upd_ne hqh]; exact hq9, by rw [takeMore hb0]; exact g.put hy nd0 bm, ?_⟩
        rw [List.length_append, List.length_singleton]; omega
  · rintro σ H7 ⟨v5, v6, is, ps, rfl, s7, A7, hh7, hq7, g, lp⟩
    rw [List.length_map, List.take_length] at g
    walk_at "go"
    intro p hp
    have sp : Same H7 (upd H7 p (.tup [.ref x, .ref h])) := sameNew (Same.refl _) hp
    exact k _ h p _ (s7.trans sp) (A7.mono sp) (g.side fo fun b hb => hperm.mem_iff.mpr (List.mem_range.mpr hb)) (sp _ _ hh7) upd_same nx n1 n2 n3 sh hx h1 h2 h3
end Pw
theorem Pw.cut5 {zs : List Int} : cutV (zs.map V.int) none (some 5) = (zs.take 5).map V.int := by
  unfold cutV
  simp [HT.sIx]
theorem Pw.ok5 {zs : List Int} (h : Pw.OkW zs) : Pw.OkW (zs.take 5) := ⟨by rw [List.length_take]; have := h.1; omega, by rw [List.length_take]; have := h.2.1; omega, fun x hx => h.2.2 x (List.mem_of_mem_take hx)⟩
theorem Pw.atEnd {xs : List V} {v : V} (h : xs[xs.length - 1]? = some v) : atI xs (-1) = some v := by
  have hl : 0 < xs.length := by
    cases xs with
    | nil => simp at h
    | cons a r => simp
  unfold atI ixN
  rw [if_neg (by decide), if_pos (by omega)]
  show xs[_]? = some v
  rw [← h]
  congr 1
  omega
theorem Pw.okT {Q : VK} {H : Hp} {c : Prop} [Decidable c] (h : c) (k : Q (.bl true) H) : Q (.bl (decide c)) H := by
  rw [decide_eq_true h]; exact k
def Pw.rowS (n : Nat) : List Int := (List.range n).map fun k : Nat => (1 : Int) + (k : Int)
def Pw.rowC (n : Nat) : Pw.Cfg := none :: (List.range (n - 1)).map fun k : Nat => some (1 + k)
theorem Pw.rowS_len (n : Nat) : (Pw.rowS n).length = n := by unfold Pw.rowS; simp
theorem Pw.rowS_at {n b : Nat} (h : b < n) : (Pw.rowS n).getD b 0 = 1 + (b : Int) := by
  unfold Pw.rowS
  rw [List.getD_eq_getElem?_getD, List.getElem?_map, List.getElem?_range h]; rfl
theorem Pw.rowS_ok {n : Nat} (h1 : 1 ≤ n) (h8 : n ≤ 8) : Pw.OkW (Pw.rowS n) := by
  refine ⟨by rw [Pw.rowS_len]; exact h1, by rw [Pw.rowS_len]; exact h8, fun x hx => ?_⟩
  obtain ⟨k, hk, rfl⟩ := List.mem_map.mp hx
  have := List.mem_range.mp hk
  omega
theorem Pw.rowC_ok {n : Nat} (h1 : 1 ≤ n) : Pw.FillOk (Pw.rowS n) (Pw.rowC n) := by
  refine ⟨by rw [Pw.rowS_len]; unfold Pw.rowC; simp; omega, fun b v h => ?_⟩
  cases b with
  | zero => cases h
  | succ b =>
    have h : ((List.range (n - 1)).map fun k : Nat => some (1 + k))[b]? = some (some v) := h
    rw [List.getElem?_map] at h
    cases q : (List.range (n - 1))[b]? with
    | none => rw [q] at h; cases h
    | some z =>
      rw [q] at h
      obtain ⟨l, e⟩ := List.getElem?_eq_some_iff.mp q
      rw [List.getElem_range] at e
      rw [List.length_range] at l
      have e2 : 1 + z = v := Option.some.inj (Option.some.inj h)
      rw [Pw.rowS_at (by omega)]
      omega
namespace Pw
def sp_law_k10 (K : PySem.W.Frag) : Sp := fun vs H Q _ => ∃ (a : Addr) (ns : List Int), vs = [.ref a] ∧ SqL K H a (ns.map V.int) ∧ ns.length ≤ 63 ∧ ∀ H', Q (.bl true) H'
theorem len_law_k10 {K : PySem.W.Frag} : ∀ vs H Q E, sp_law_k10 K vs H Q E → vs.length = 1 := by
  rintro vs H Q E ⟨_, _, rfl, _⟩
  rfl
def t_law_k10 (K : PySem.W.Frag) (E : XK) : TS :=
  tSeq (tAsg (tSl (rSlL K) (tCall (sp_law_sizes_by K) [] E0 (tCons (tVar 0) (tCons (tC (.int 0)) tNil))) tNoPart (tPart (tC (.int 5)))) (gName 1))
    (tSeq (tAsg (tCall (sp_law_filled_by K) [] E0 (tCons (tVar 0) (tCons (tC (.int 100)) (tCons (tVar 1) tNil)))) (gName 2))
    (tSeq (tAsg (tOp rAddI (tC (.int 1)) (tCall (sp_law_drawn K) [] E0 (tCons (tVar 0) (tCons (tC (.int 20)) (tCons (tC (.int 9)) tNil))))) (gName 3))
    (tSeq (tAsg (tOp rEq (tCall (sp_law_drawn K) [] E0 (tCons (tVar 0) (tCons (tC (.int 21)) (tCons (tC (.int 3)) tNil)))) (tC (.int 1))) (gName 4))
    (tCutP (tIfS (tB (tVar 4)) (tSeq (tAsg (tLc (iRng1 (tCons (tOp rAddI (tC (.int 1)) (tCall (sp_law_drawn K) [] E0 (tCons (tVar 0) (tCons (tC (.int 22)) (tCons (tC (.int 8)) tNil))))) tNil)) (gName 7) tYes (tOp rAddI (tC (.int 1)) (tVar 7)) [7]) (gName 1))
    (tSeq (tAsg (tOp rCat (tLst (tCons (tC .non) tNil)) (tLc (iRng1 (tCons (tOp rSubI (tCB (rLenSeq K) (tCons (tVar 1) tNil)) (tC (.int 1))) tNil)) (gName 7) tYes (tOp rAddI (tC (.int 1)) (tVar 7)) [7])) (gName 2))
    (tAsg (tOp (rIxL K) (tVar 1) (tUn rNeg (tC (.int 1)))) (gName 3)))) (tNext))
    (tSeq (tAsg (tCall (sp_room_for_k10 K) [] E0 (tCons (tOp (rIxT K) (tCall (sp_law_side_of K) [] E0 (tCons (tVar 1) (tCons (tVar 2) tNil))) (tC (.int 0))) (tCons (tVar 3) tNil))) (gName 5))
    (tSeq (tAsg (tOp rSubI (tCB (rLenSeq K) (tCons (tVar 1) tNil)) (tC (.int 1))) (gName 6))
    (tSeq (tIfS (tNot (tB (tVar 4))) (tAsg (tCall (sp_law_steps K) [] E0 (tCons (tVar 1) (tCons (tVar 2) (tCons (tVar 3) (tCons (tC (.int 6)) tNil))))) (gName 6)) (tNext))
    (tSeq (tIfS (tTest (tOp rEq (tOp (rIxT K) (tVar 5) (tC (.int 0))) (tC (.str "many")))) (tRet (tAndV (tOp rIsNone (tVar 6) (tC .non)) (tNotV (tVar 4)))) (tNext))
    (tRet (tAndV (tOp rEq (tOp (rIxT K) (tVar 5) (tC (.int 0))) (tC (.str "moves"))) (tOp rEq (tCB (rLenSeq K) (tCons (tOp (rIxT K) (tVar 5) (tC (.int 1))) tNil)) (tVar 6))))))))))))
theorem pure_law_k10 {K : PySem.W.Frag} (T : TW K) (vs : List V) (H : Hp) (Q : VK) (E : XK) (h : sp_law_k10 K vs H Q E) : t_law_k10 K E { nx := fun _ H' => Q .non H', rt := Q } (start ["script", "sizes", "inside", "size", "row", "found", "due", "k"] vs) H := by
  obtain ⟨a, ns, rfl, hS, hl, k⟩ := h
  unfold t_law_k10
  walk_at "go"
  intro zs ok H1 D s1 hD0 hD
  have lz := ok.2.1
  have hS1 := s1.seq hS
  walk_at "go"
  intro I hI
  rw [cut5]
  have ok5 := ok5 ok
  have l5 : (zs.take 5).length ≤ 5 := by rw [List.length_take]; omega
  have s2 : Same H1 (upd H1 I (.lst ((zs.take 5).map V.int))) := sameNew (Same.refl _) hI
  have hI2 : upd H1 I (.lst ((zs.take 5).map V.int)) I = some (.lst ((zs.take 5).map V.int)) := upd_same
  generalize zs.take 5 = ys at s2 hI2 ok5 l5
  have s12 := s1.trans s2
  generalize upd H1 I (.lst (ys.map V.int)) = H2 at s2 hI2 s12
  clear hD s1 hD0 hS1 s2 hI ok lz
  have hS2 := s12.seq hS
  walk_at "go"
  intro xs H3 J fo s3 hJ0 hJ
  have s13 := s12.trans s3
  have hI3 := s3 _ _ hI2
  have hS3 := s13.seq hS
  clear hI2 hS2 s3 hJ0 s12
  walk_at "go"
  intro z0 z1
  walk_at "go"
  intro w0 w1
  walk_at "go"
  generalize drawn ns 20 9 = sz at z0 z1
  generalize drawn ns 21 3 = way at w0 w1
  generalize decide (V.int way = V.int 1) = row
  clear w0 w1 way
  walk_at "go"
  refine cut (fun σ H' => Stop (∃ (I J : Addr) (zs : List Int) (xs : Cfg) (size : Int), σ = [some (.ref a), some (.ref I), some (.ref J), some (.int size), some (.bl row), none, none, none] ∧ Same H H' ∧ H' I = some (.lst (zs.map V.int)) ∧ H' J = some (.lst (xs.map optV)) ∧ OkW zs ∧ FillOk zs xs ∧ 1 ≤ size ∧ size ≤ 9 ∧
    ((row = true ∧ ∃ n : Nat, 1 ≤ n ∧ n ≤ 8 ∧ zs = rowS n ∧ xs = rowC n ∧ size = (n : Int)) ∨ (row = false ∧ zs.length ≤ 5)))) ?_ ?_
  · walk_at "go"
    refine ifB (fun c => ?_) (fun c => ?_)
    · subst c
      walk_at "go"
      intro d0 d1
      walk_at "go"
      intro D4 hD4
      have n1 : 1 ≤ (1 + drawn ns 22 8).toNat := by omega
      have n8 : (1 + drawn ns 22 8).toNat ≤ 8 := by omega
      generalize (1 + drawn ns 22 8).toNat = n at n1 n8 ⊢
      clear d0 d1 hI3 hJ ok5 fo l5
      refine lcRng (n := n) (fun _ => true) (fun i : Nat => V.int (1 + (i : Int))) hD4 (by omega) (fun _ => rfl) (fun i H' hi s' TT k' => k' _ (Same.refl _)) (fun i H' hi _ s' Qv k' => ?_) (fun H5 s5 h5 => ?_)
      · have fin := k' _ (Same.refl _)
        rw [show (i : Int) = 0 + (i : Int) by omega] at fin
        walk_at "go"
        exact fin
      rw [filterAll] at h5
      have h5 : H5 D4 = some (.lst ((rowS n).map V.int)) := by rw [h5]; unfold rowS; rw [List.map_map]; rfl
      have s35 := s13.trans s5
      walk_at "go"
      intro q1 hq1
      have s6 : Same H5 (upd H5 q1 (.lst [.non])) := sameNew (Same.refl _) hq1
      have h6 := s6 _ _ h5
      have hq6 : upd H5 q1 (.lst [.non]) q1 = some (.lst [.non]) := upd_same
      have s36 := s35.trans s6
      generalize upd H5 q1 (.lst [.non]) = H6 at h6 hq6 s36
      clear s6 h5 s5 s35 hq1 hD4
      have lr : (rowS n).length = n := rowS_len n
      walk_at "go"
      intro q2 hq2
      refine lcRng (n := Int.toNat (((((rowS n).map V.int).length : Nat) : Int) - 1)) (fun _ => true) (fun i : Nat => V.int (1 + (i : Int))) hq2 (by rw [List.length_map]; omega) (fun _ => rfl) (fun i H' hi s' TT k' => k' _ (Same.refl _)) (fun i H' hi _ s' Qv k' => ?_) (fun H7 s7 h7 => ?_)
      · have fin := k' _ (Same.refl _)
        rw [show (i : Int) = 0 + (i : Int) by omega] at fin
        walk_at "go"
        exact fin
      have e : Int.toNat (((((rowS n).map V.int).length : Nat) : Int) - 1) = n - 1 := by rw [List.length_map]; omega
      rw [filterAll, e] at h7
      have h67 := s7 _ _ h6
      have hq67 := s7 _ _ hq6
      have s37 := s36.trans s7
      walk_at "go"
      intro q3 hq3
      have s8 : Same H7 (upd H7 q3 (.lst ([.non] ++ (List.range (n - 1)).map fun i : Nat => V.int (1 + (i : Int))))) := sameNew (Same.refl _) hq3
      have hq8 : upd H7 q3 (.lst ([.non] ++ (List.range (n - 1)).map fun i : Nat => V.int (1 + (i : Int)))) q3 = some (.lst ((rowC n).map optV)) := by
        rw [upd_same]
        unfold rowC
        rw [List.map_cons, List.map_map]
        refine congrArg (fun l => some (HO.lst (V.non :: l))) (List.map_congr_left fun i _ => ?_)
        show V.int (1 + (i : Int)) = V.int ((1 + i : Nat) : Int)
        rw [show ((1 + i : Nat) : Int) = 1 + (i : Int) by omega]
      have h68 := s8 _ _ h67
      have s38 := s37.trans s8
      have hat : atI ((rowS n).map V.int) (-1) = some (.int (n : Int)) := atEnd (by
        rw [List.length_map, lr]
        refine getMap (x := (n : Int)) ?_
        unfold rowS
        rw [List.getElem?_map, List.getElem?_range (by omega)]
        show some ((1 : Int) + ((n - 1 : Nat) : Int)) = some (n : Int)
        rw [show ((1 : Int) + ((n - 1 : Nat) : Int)) = (n : Int) by omega])
      generalize upd H7 q3 (.lst ([.non] ++ (List.range (n - 1)).map fun i : Nat => V.int (1 + (i : Int)))) = H8 at hq8 h68 s38
      walk_at "go"
      exact ⟨D4, q3, rowS n, rowC n, (n : Int), rfl, s38, h68, hq8, rowS_ok n1 n8, rowC_ok n1, by omega, by omega, .inl ⟨rfl, n, n1, n8, rfl, rfl, rfl⟩⟩
    · subst c
      exact ⟨I, J, ys, xs, _, rfl, s13, hI3, hJ, ok5, fo, by show 1 ≤ 1 + sz; omega, by show 1 + sz ≤ 9; omega, .inr ⟨rfl, l5⟩⟩
  clear z0 z1 hI3 hJ hS3 s13 fo l5 ok5
  rintro σ H4 ⟨I, J, zs, xs, size, rfl, s4, hI4, hJ4, ok, fo, z1, z9, way⟩
  have l8 := ok.2.1
  have lx := fo.1
  walk_at "go"
  intro w e p H5 s5 A5 S he hp f0 f1 f2 f3 f4 f5 f6 f7 f8
  clear f0 f1 f2 f3 f4 f5 f6 f7 f8 he
  have s45 := s4.trans s5
  have hI5 := s5 _ _ hI4
  have hJ5 := s5 _ _ hJ4
  have ok9 : 1 ≤ size ∧ size ≤ 9 := ⟨z1, z9⟩
  clear hI4 hJ4 s4 s5
  walk_at "go"
  refine ⟨fun least p2 H6 full s6 hp2 => ?_, fun e2 mv p2 l H6 way2 emp mn lmv s6 hm hp2 => ?_⟩
  · have noway : ∀ m x, PathC zs size xs m x → xs[x]? ≠ some none := fun m x hw hx => by
      obtain ⟨n, hn⟩ := full m x (hw.wall S lx)
      rw [S.non x hx] at hn
      cases hn
    have hI6 := s6 _ _ hI5
    have hJ6 := s6 _ _ hJ5
    rcases way with ⟨rfl, n, n1, n8, rfl, rfl, rfl⟩ | ⟨rfl, l5⟩
    · exfalso
      have h := rowWay n1 (n - 1) (by omega)
      rw [show n - 1 - (n - 1) = 0 by omega] at h
      exact noway _ _ h rfl
    · walk_at "go"
      refine ⟨fun kk c1 H7 rn rd nr s7 => absurd (fewestMany noway rn rd) id, fun nr H7 s7 => ?_⟩
      have hp7 := s7 _ _ hp2
      walk_at "go"
      exact k _
  · have hI6 := s6 _ _ hI5
    have hJ6 := s6 _ _ hJ5
    have way3 := way2.cfg S lx
    have lmv : mv.length < zs.length := by have := lmv; rw [S.sz] at this; exact this
    have eb : xs[e2]? = some none := by
      cases q : xs[e2]? with
      | none =>
        have := way3.lt
        rw [List.getElem?_eq_none_iff] at q
        omega
      | some y =>
        cases y with
        | none => rfl
        | some v =>
          obtain ⟨m, hm2, _⟩ := S.som e2 v q
          rw [emp] at hm2
          cases hm2
    have mn2 : ∀ m x, PathC zs size xs m x → xs[x]? = some none → mv.length ≤ m := fun m x hw hx => mn m x (hw.wall S lx) (S.non x hx)
    obtain ⟨us, hu, hul⟩ := hm.len
    rcases way with ⟨rfl, n, n1, n8, rfl, rfl, rfl⟩ | ⟨rfl, l5⟩
    · have h := rowWay n1 (n - 1) (by omega)
      rw [show n - 1 - (n - 1) = 0 by omega] at h
      have h1 := mn2 _ _ h rfl
      have h2 : e2 = 0 := by
        cases e2 with
        | zero => rfl
        | succ b =>
          have eb : ((List.range (n - 1)).map fun k : Nat => some (1 + k))[b]? = some none := eb
          rw [List.getElem?_map] at eb
          cases q : (List.range (n - 1))[b]? with
          | none => rw [q] at eb; cases eb
          | some z => rw [q] at eb; cases eb
      subst h2
      have h3 := rowPath way3 n1
      have lr : (rowS n).length = n := rowS_len n
      walk_at "go"
      refine okT (congrArg V.int ?_) (k _)
      show ((us.length : Nat) : Int) = (((rowS n).map V.int).length : Int) - 1
      rw [List.length_map]
      omega
    · walk_at "go"
      refine ⟨fun kk c1 H7 rn rd nr s7 => ?_, fun nr H7 s7 => absurd (fewestNone way3 eb (by omega) nr) id⟩
      have ek := fewest way3 eb mn2 rn rd nr
      have hp7 := s7 _ _ hp2
      have hu7 := s7 _ _ hu
      subst ek
      walk_at "go"
      exact okT (congrArg V.int (by omega)) (k _)
end Pw
namespace Pw
def top (i : Nat) : Stmt := PySem.Challenge.pw_parcelwall_k10_whole_the_fewest_moves.main.body.getD i (.Pass ⟨0, 0, 0, 0⟩)
abbrev R : PySem.W.OpenRow := PySem.W.OpenLaw.row PySem.Challenge.rw_parcelwall_k10_whole_the_fewest_moves
abbrev s_law_drawn : Stmt := (top 18)
def d_law_drawn : He.DefD := ⟨("_law_drawn", none), "_law_drawn", "_law_drawn", defArgs s_law_drawn, defBody s_law_drawn, defScope s_law_drawn, [], []⟩
abbrev s_law_filled_by : Stmt := (top 23)
def d_law_filled_by : He.DefD := ⟨("_law_filled_by", none), "_law_filled_by", "_law_filled_by", defArgs s_law_filled_by, defBody s_law_filled_by, defScope s_law_filled_by, [], []⟩
abbrev s_Wall_held : Stmt := (inClass (top 13) 2)
def d_Wall_held : He.DefD := ⟨("Wall", some "held"), "held", "Wall.held", defArgs s_Wall_held, defBody s_Wall_held, defScope s_Wall_held, [], []⟩
abbrev s_Wall_sizes : Stmt := (inClass (top 13) 1)
def d_Wall_sizes : He.DefD := ⟨("Wall", some "sizes"), "sizes", "Wall.sizes", defArgs s_Wall_sizes, defBody s_Wall_sizes, defScope s_Wall_sizes, [], []⟩
abbrev s_Wall_see : Stmt := (inClass (top 13) 5)
def d_Wall_see : He.DefD := ⟨("Wall", some "see"), "see", "Wall.see", defArgs s_Wall_see, defBody s_Wall_see, defScope s_Wall_see, [], []⟩
abbrev s_Wall_size_of : Stmt := (inClass (top 13) 6)
def d_Wall_size_of : He.DefD := ⟨("Wall", some "size_of"), "size_of", "Wall.size_of", defArgs s_Wall_size_of, defBody s_Wall_size_of, defScope s_Wall_size_of, [], []⟩
abbrev s_reach_k10 : Stmt := (top 15)
def d_reach_k10 : He.DefD := ⟨("reach", none), "reach", "reach", defArgs s_reach_k10, defBody s_reach_k10, defScope s_reach_k10, [], []⟩
abbrev s_is_size : Stmt := (top 11)
def d_is_size : He.DefD := ⟨("is_size", none), "is_size", "is_size", defArgs s_is_size, defBody s_is_size, defScope s_is_size, [], []⟩
abbrev s_room_for_k10 : Stmt := (top 16)
def d_room_for_k10 : He.DefD := ⟨("room_for", none), "room_for", "room_for", defArgs s_room_for_k10, defBody s_room_for_k10, defScope s_room_for_k10, [], []⟩
abbrev s_law_sizes_by : Stmt := (top 22)
def d_law_sizes_by : He.DefD := ⟨("_law_sizes_by", none), "_law_sizes_by", "_law_sizes_by", defArgs s_law_sizes_by, defBody s_law_sizes_by, defScope s_law_sizes_by, [], []⟩
abbrev s_law_ready : Stmt := (top 25)
def d_law_ready : He.DefD := ⟨("_law_ready", none), "_law_ready", "_law_ready", defArgs s_law_ready, defBody s_law_ready, defScope s_law_ready, [], []⟩
abbrev s_law_moved_k10 : Stmt := (top 26)
def d_law_moved_k10 : He.DefD := ⟨("_law_moved", none), "_law_moved", "_law_moved", defArgs s_law_moved_k10, defBody s_law_moved_k10, defScope s_law_moved_k10, [], []⟩
abbrev s_law_steps : Stmt := (top 27)
def d_law_steps : He.DefD := ⟨("_law_steps", none), "_law_steps", "_law_steps", defArgs s_law_steps, defBody s_law_steps, defScope s_law_steps, [], []⟩
abbrev s_Wall_init : Stmt := (inClass (top 13) 0)
def d_Wall_init : He.DefD := ⟨("Wall", some "__init__"), "__init__", "Wall.__init__", defArgs s_Wall_init, defBody s_Wall_init, defScope s_Wall_init, [], []⟩
abbrev s_Wall_fetch : Stmt := (inClass (top 13) 9)
def d_Wall_fetch : He.DefD := ⟨("Wall", some "fetch"), "fetch", "Wall.fetch", defArgs s_Wall_fetch, defBody s_Wall_fetch, defScope s_Wall_fetch, [], []⟩
abbrev s_least_box : Stmt := (top 12)
def d_least_box : He.DefD := ⟨("least_box", none), "least_box", "least_box", defArgs s_least_box, defBody s_least_box, defScope s_least_box, [], []⟩
abbrev s_Wall_free : Stmt := (inClass (top 13) 4)
def d_Wall_free : He.DefD := ⟨("Wall", some "free"), "free", "Wall.free", defArgs s_Wall_free, defBody s_Wall_free, defScope s_Wall_free, [], []⟩
abbrev s_Wall_come : Stmt := (inClass (top 13) 8)
def d_Wall_come : He.DefD := ⟨("Wall", some "come"), "come", "Wall.come", defArgs s_Wall_come, defBody s_Wall_come, defScope s_Wall_come, [], []⟩
abbrev s_Wall_move : Stmt := (inClass (top 13) 11)
def d_Wall_move : He.DefD := ⟨("Wall", some "move"), "move", "Wall.move", defArgs s_Wall_move, defBody s_Wall_move, defScope s_Wall_move, [], []⟩
abbrev s_law_side_of : Stmt := (top 24)
def d_law_side_of : He.DefD := ⟨("_law_side_of", none), "_law_side_of", "_law_side_of", defArgs s_law_side_of, defBody s_law_side_of, defScope s_law_side_of, [], []⟩
abbrev s_law_k10 : Stmt := (top 28)
def d_law_k10 : He.DefD := ⟨("law", none), "law", "law", defArgs s_law_k10, defBody s_law_k10, defScope s_law_k10, [], []⟩
def fn : List He.DefD := [d_law_drawn, d_law_filled_by, d_Wall_held, d_Wall_sizes, d_Wall_see, d_Wall_size_of, d_reach_k10, d_is_size, d_room_for_k10, d_law_sizes_by, d_law_ready, d_law_moved_k10, d_law_steps, d_Wall_init, d_Wall_fetch, d_least_box, d_Wall_free, d_Wall_come, d_Wall_move, d_law_side_of, d_law_k10]
def xl : List Str := ["WallError", "NoWall", "NoSize", "NoNights", "NoBox", "NoParcel"]
def fa : List He.Fa := [.free "len", .free "list", .free "min", .free "range", .free "tuple", .glo "NoBox", .glo "NoNights", .glo "NoParcel", .glo "NoSize", .glo "NoWall", .glo "Wall", .glo "_law_drawn", .glo "_law_filled_by", .glo "_law_moved", .glo "_law_ready", .glo "_law_side_of", .glo "_law_sizes_by", .glo "_law_steps", .glo "is_size", .glo "law", .glo "least_box", .glo "reach", .glo "room_for", .int "MOST_BOXES" 8, .int "MOST_SIZE" 9, .exc "NoBox", .exc "NoNights", .exc "NoParcel", .exc "NoSize", .exc "NoWall", .cls "Wall", .noat "Wall" "boxes", .noat "Wall" "inside", .noat "Wall" "parcels", .noat "Wall" "today", .mkr "Wall", .meth "Wall" "come", .meth "Wall" "fetch", .meth "Wall" "free", .meth "Wall" "held", .meth "Wall" "move", .meth "Wall" "see", .meth "Wall" "size_of", .meth "Wall" "sizes"]
theorem f_len {h : Heap} {mg : Str → Option Value} {K : PySem.W.Frag} (KX : K.In h) (G : h.Ns mainGlobals mg) (c : He.SaysD fa fn K) : mg "len" = none := He.free_ok KX G (c.fact 0)
theorem f_list {h : Heap} {mg : Str → Option Value} {K : PySem.W.Frag} (KX : K.In h) (G : h.Ns mainGlobals mg) (c : He.SaysD fa fn K) : mg "list" = none := He.free_ok KX G (c.fact 1)
theorem f_min {h : Heap} {mg : Str → Option Value} {K : PySem.W.Frag} (KX : K.In h) (G : h.Ns mainGlobals mg) (c : He.SaysD fa fn K) : mg "min" = none := He.free_ok KX G (c.fact 2)
theorem f_range {h : Heap} {mg : Str → Option Value} {K : PySem.W.Frag} (KX : K.In h) (G : h.Ns mainGlobals mg) (c : He.SaysD fa fn K) : mg "range" = none := He.free_ok KX G (c.fact 3)
theorem f_tuple {h : Heap} {mg : Str → Option Value} {K : PySem.W.Frag} (KX : K.In h) (G : h.Ns mainGlobals mg) (c : He.SaysD fa fn K) : mg "tuple" = none := He.free_ok KX G (c.fact 4)
theorem g_NoBox {h : Heap} {mg : Str → Option Value} {K : PySem.W.Frag} (KX : K.In h) (G : h.Ns mainGlobals mg) (c : He.SaysD fa fn K) : mg "NoBox" = some (.ref (He.ga K "NoBox")) := He.glo_ok KX G (c.fact 5)
theorem g_NoNights {h : Heap} {mg : Str → Option Value} {K : PySem.W.Frag} (KX : K.In h) (G : h.Ns mainGlobals mg) (c : He.SaysD fa fn K) : mg "NoNights" = some (.ref (He.ga K "NoNights")) := He.glo_ok KX G (c.fact 6)
theorem g_NoParcel {h : Heap} {mg : Str → Option Value} {K : PySem.W.Frag} (KX : K.In h) (G : h.Ns mainGlobals mg) (c : He.SaysD fa fn K) : mg "NoParcel" = some (.ref (He.ga K "NoParcel")) := He.glo_ok KX G (c.fact 7)
theorem g_NoSize {h : Heap} {mg : Str → Option Value} {K : PySem.W.Frag} (KX : K.In h) (G : h.Ns mainGlobals mg) (c : He.SaysD fa fn K) : mg "NoSize" = some (.ref (He.ga K "NoSize")) := He.glo_ok KX G (c.fact 8)
theorem g_NoWall {h : Heap} {mg : Str → Option Value} {K : PySem.W.Frag} (KX : K.In h) (G : h.Ns mainGlobals mg) (c : He.SaysD fa fn K) : mg "NoWall" = some (.ref (He.ga K "NoWall")) := He.glo_ok KX G (c.fact 9)
theorem g_Wall {h : Heap} {mg : Str → Option Value} {K : PySem.W.Frag} (KX : K.In h) (G : h.Ns mainGlobals mg) (c : He.SaysD fa fn K) : mg "Wall" = some (.ref (He.ga K "Wall")) := He.glo_ok KX G (c.fact 10)
theorem g_law_drawn {h : Heap} {mg : Str → Option Value} {K : PySem.W.Frag} (KX : K.In h) (G : h.Ns mainGlobals mg) (c : He.SaysD fa fn K) : mg "_law_drawn" = some (.ref (He.ga K "_law_drawn")) := He.glo_ok KX G (c.fact 11)
theorem g_law_filled_by {h : Heap} {mg : Str → Option Value} {K : PySem.W.Frag} (KX : K.In h) (G : h.Ns mainGlobals mg) (c : He.SaysD fa fn K) : mg "_law_filled_by" = some (.ref (He.ga K "_law_filled_by")) := He.glo_ok KX G (c.fact 12)
theorem g_law_moved {h : Heap} {mg : Str → Option Value} {K : PySem.W.Frag} (KX : K.In h) (G : h.Ns mainGlobals mg) (c : He.SaysD fa fn K) : mg "_law_moved" = some (.ref (He.ga K "_law_moved")) := He.glo_ok KX G (c.fact 13)
theorem g_law_ready {h : Heap} {mg : Str → Option Value} {K : PySem.W.Frag} (KX : K.In h) (G : h.Ns mainGlobals mg) (c : He.SaysD fa fn K) : mg "_law_ready" = some (.ref (He.ga K "_law_ready")) := He.glo_ok KX G (c.fact 14)
theorem g_law_side_of {h : Heap} {mg : Str → Option Value} {K : PySem.W.Frag} (KX : K.In h) (G : h.Ns mainGlobals mg) (c : He.SaysD fa fn K) : mg "_law_side_of" = some (.ref (He.ga K "_law_side_of")) := He.glo_ok KX G (c.fact 15)
theorem g_law_sizes_by {h : Heap} {mg : Str → Option Value} {K : PySem.W.Frag} (KX : K.In h) (G : h.Ns mainGlobals mg) (c : He.SaysD fa fn K) : mg "_law_sizes_by" = some (.ref (He.ga K "_law_sizes_by")) := He.glo_ok KX G (c.fact 16)
theorem g_law_steps {h : Heap} {mg : Str → Option Value} {K : PySem.W.Frag} (KX : K.In h) (G : h.Ns mainGlobals mg) (c : He.SaysD fa fn K) : mg "_law_steps" = some (.ref (He.ga K "_law_steps")) := He.glo_ok KX G (c.fact 17)
theorem g_is_size {h : Heap} {mg : Str → Option Value} {K : PySem.W.Frag} (KX : K.In h) (G : h.Ns mainGlobals mg) (c : He.SaysD fa fn K) : mg "is_size" = some (.ref (He.ga K "is_size")) := He.glo_ok KX G (c.fact 18)
theorem g_law {h : Heap} {mg : Str → Option Value} {K : PySem.W.Frag} (KX : K.In h) (G : h.Ns mainGlobals mg) (c : He.SaysD fa fn K) : mg "law" = some (.ref (He.ga K "law")) := He.glo_ok KX G (c.fact 19)
theorem g_least_box {h : Heap} {mg : Str → Option Value} {K : PySem.W.Frag} (KX : K.In h) (G : h.Ns mainGlobals mg) (c : He.SaysD fa fn K) : mg "least_box" = some (.ref (He.ga K "least_box")) := He.glo_ok KX G (c.fact 20)
theorem g_reach {h : Heap} {mg : Str → Option Value} {K : PySem.W.Frag} (KX : K.In h) (G : h.Ns mainGlobals mg) (c : He.SaysD fa fn K) : mg "reach" = some (.ref (He.ga K "reach")) := He.glo_ok KX G (c.fact 21)
theorem g_room_for {h : Heap} {mg : Str → Option Value} {K : PySem.W.Frag} (KX : K.In h) (G : h.Ns mainGlobals mg) (c : He.SaysD fa fn K) : mg "room_for" = some (.ref (He.ga K "room_for")) := He.glo_ok KX G (c.fact 22)
theorem c_MOST_BOXES {h : Heap} {mg : Str → Option Value} {K : PySem.W.Frag} (KX : K.In h) (G : h.Ns mainGlobals mg) (c : He.SaysD fa fn K) : ∃ t, mg "MOST_BOXES" = some (.int 8 t) := He.int_ok KX G (c.fact 23)
theorem c_MOST_SIZE {h : Heap} {mg : Str → Option Value} {K : PySem.W.Frag} (KX : K.In h) (G : h.Ns mainGlobals mg) (c : He.SaysD fa fn K) : ∃ t, mg "MOST_SIZE" = some (.int 9 t) := He.int_ok KX G (c.fact 24)
theorem x_NoBox {K : PySem.W.Frag} (c : He.SaysD fa fn K) : PySem.W.excIn K (He.ga K "NoBox") He.veBase "ValueError.__new__" = true ∧ PySem.W.keepIn K (.ref (He.ga K "NoBox")) = true ∧ PySem.W.subIn K (.ref (He.ga K "NoBox")) (.type "BaseException") = some true ∧ PySem.W.typeIn K (.ref (He.ga K "NoBox")) = some (.type "type") := He.exc_ok (c.fact 25)
theorem x_NoNights {K : PySem.W.Frag} (c : He.SaysD fa fn K) : PySem.W.excIn K (He.ga K "NoNights") He.veBase "ValueError.__new__" = true ∧ PySem.W.keepIn K (.ref (He.ga K "NoNights")) = true ∧ PySem.W.subIn K (.ref (He.ga K "NoNights")) (.type "BaseException") = some true ∧ PySem.W.typeIn K (.ref (He.ga K "NoNights")) = some (.type "type") := He.exc_ok (c.fact 26)
theorem x_NoParcel {K : PySem.W.Frag} (c : He.SaysD fa fn K) : PySem.W.excIn K (He.ga K "NoParcel") He.veBase "ValueError.__new__" = true ∧ PySem.W.keepIn K (.ref (He.ga K "NoParcel")) = true ∧ PySem.W.subIn K (.ref (He.ga K "NoParcel")) (.type "BaseException") = some true ∧ PySem.W.typeIn K (.ref (He.ga K "NoParcel")) = some (.type "type") := He.exc_ok (c.fact 27)
theorem x_NoSize {K : PySem.W.Frag} (c : He.SaysD fa fn K) : PySem.W.excIn K (He.ga K "NoSize") He.veBase "ValueError.__new__" = true ∧ PySem.W.keepIn K (.ref (He.ga K "NoSize")) = true ∧ PySem.W.subIn K (.ref (He.ga K "NoSize")) (.type "BaseException") = some true ∧ PySem.W.typeIn K (.ref (He.ga K "NoSize")) = some (.type "type") := He.exc_ok (c.fact 28)
theorem x_NoWall {K : PySem.W.Frag} (c : He.SaysD fa fn K) : PySem.W.excIn K (He.ga K "NoWall") He.veBase "ValueError.__new__" = true ∧ PySem.W.keepIn K (.ref (He.ga K "NoWall")) = true ∧ PySem.W.subIn K (.ref (He.ga K "NoWall")) (.type "BaseException") = some true ∧ PySem.W.typeIn K (.ref (He.ga K "NoWall")) = some (.type "type") := He.exc_ok (c.fact 29)
theorem clW {K : PySem.W.Frag} (c : He.SaysD fa fn K) : Cls K (He.ga K "Wall") := He.cls_ok (c.fact 30)
theorem tW {K : PySem.W.Frag} (c : He.SaysD fa fn K) : TW K := ⟨clW c, He.noat_ok (c.fact 31), He.noat_ok (c.fact 32), He.noat_ok (c.fact 33), He.noat_ok (c.fact 34)⟩
theorem mkW {K : PySem.W.Frag} (c : He.SaysD fa fn K) : Mk K (He.ga K "Wall") (He.ma K (He.ga K "Wall") "__init__") := He.mkr_ok (c.fact 35)
theorem m_Wall_come {K : PySem.W.Frag} (c : He.SaysD fa fn K) : Meth K (He.ga K "Wall") "come" (He.ma K (He.ga K "Wall") "come") := He.meth_ok (c.fact 36)
theorem m_Wall_fetch {K : PySem.W.Frag} (c : He.SaysD fa fn K) : Meth K (He.ga K "Wall") "fetch" (He.ma K (He.ga K "Wall") "fetch") := He.meth_ok (c.fact 37)
theorem m_Wall_free {K : PySem.W.Frag} (c : He.SaysD fa fn K) : Meth K (He.ga K "Wall") "free" (He.ma K (He.ga K "Wall") "free") := He.meth_ok (c.fact 38)
theorem m_Wall_held {K : PySem.W.Frag} (c : He.SaysD fa fn K) : Meth K (He.ga K "Wall") "held" (He.ma K (He.ga K "Wall") "held") := He.meth_ok (c.fact 39)
theorem m_Wall_move {K : PySem.W.Frag} (c : He.SaysD fa fn K) : Meth K (He.ga K "Wall") "move" (He.ma K (He.ga K "Wall") "move") := He.meth_ok (c.fact 40)
theorem m_Wall_see {K : PySem.W.Frag} (c : He.SaysD fa fn K) : Meth K (He.ga K "Wall") "see" (He.ma K (He.ga K "Wall") "see") := He.meth_ok (c.fact 41)
theorem m_Wall_size_of {K : PySem.W.Frag} (c : He.SaysD fa fn K) : Meth K (He.ga K "Wall") "size_of" (He.ma K (He.ga K "Wall") "size_of") := He.meth_ok (c.fact 42)
theorem m_Wall_sizes {K : PySem.W.Frag} (c : He.SaysD fa fn K) : Meth K (He.ga K "Wall") "sizes" (He.ma K (He.ga K "Wall") "sizes") := He.meth_ok (c.fact 43)
theorem sc_law_drawn : FnScope ["script", "k", "many", "cell", "stir"] ["script", "k", "many"] (defScope s_law_drawn) := ⟨rfl, rfl, rfl, by decide +kernel, rfl, by decide +kernel, by decide +kernel⟩
theorem ok_law_drawn {P : Program} {w : World} {base : Heap} {h : Heap} {mg : Str → Option Value} {K : PySem.W.Frag} (KX : K.In h) (G : h.Ns mainGlobals mg) (c : He.SaysD fa fn K) (xs : XS K xl) : OkF P w K mg base CX0 1 (He.fAd K d_law_drawn.at_) ["script", "k", "many"] (sp_law_drawn K) := by
  obtain ⟨fd, F⟩ := c.def_ 0 (d := d_law_drawn) rfl
  have nd := sc_law_drawn.nd
  refine ⟨fd, F.ok sc_law_drawn (len_law_drawn (K := K)) (fun cdv A outer s H vs Q E hr hsp => ⟨t_law_drawn K E, PSs.nox ?_, pure_law_drawn vs H Q E hsp⟩), F.bindsN (fun _ _ _ _ _ _ us hl => match us, hl with | [_, _, _], _ => rfl), F.kp⟩
  exact pss_cons (ps_set (i := 3) nd rfl (Or.inl rfl) (pe_int))
      (pss_cons (ps_if (pt_cmpR op_gt (pe_callB call_len_seq (by rfl) (f_len KX G c) (by decide +kernel) (pa_cons (pv 0) pa_nil)) (pe_int) (nomark _))
        (pss_one (ps_set (i := 3) nd rfl (Or.inl rfl) (pe_ix ix_list (pv 0) (pe_op op_modN (pv 1) (pe_callB call_len_seq (by rfl) (f_len KX G c) (by decide +kernel) (pa_cons (pv 0) pa_nil))) (fun _ _ => rfl))))
        (pss_nil))
      (pss_cons (ps_set (i := 4) nd rfl (Or.inl rfl) (pe_op op_mod (pe_op op_add (pe_op op_add (pe_op op_mul (pv 3) (pe_int)) (pe_op op_mul (pe_op op_add (pv 1) (pe_int)) (pe_int))) (pe_callB call_len_seq (by rfl) (f_len KX G c) (by decide +kernel) (pa_cons (pv 0) pa_nil))) (pe_int)))
      (pss_cons (ps_set (i := 4) nd rfl (Or.inl rfl) (pe_op op_mod (pe_op op_add (pe_op op_add (pe_op op_mul (pv 4) (pv 4)) (pe_op op_mul (pv 1) (pe_int))) (pe_int)) (pe_int)))
      (pss_one (ps_ret (pe_op op_modN (pe_op op_fdiv (pe_op op_mod (pe_op op_mul (pv 4) (pe_int)) (pe_int)) (pe_int)) (pv 2)))))))
theorem sc_law_filled_by : FnScope ["script", "base", "sizes", "held", "box", "size"] ["script", "base", "sizes"] (defScope s_law_filled_by) := ⟨rfl, rfl, rfl, by decide +kernel, rfl, by decide +kernel, by decide +kernel⟩
theorem ok_law_filled_by {P : Program} {w : World} {base : Heap} {h : Heap} {mg : Str → Option Value} {K : PySem.W.Frag} (KX : K.In h) (G : h.Ns mainGlobals mg) (c : He.SaysD fa fn K) (xs : XS K xl) : OkF P w K mg base CX0 2 (He.fAd K d_law_filled_by.at_) ["script", "base", "sizes"] (sp_law_filled_by K) := by
  obtain ⟨fd, F⟩ := c.def_ 1 (d := d_law_filled_by) rfl
  obtain ⟨fd_law_drawn, G_law_drawn, b_law_drawn, k_law_drawn⟩ := ok_law_drawn (P := P) (w := w) (base := base) KX G c xs
  have nd := sc_law_filled_by.nd
  refine ⟨fd, F.ok sc_law_filled_by (len_law_filled_by (K := K)) (fun cdv A outer s H vs Q E hr hsp => ⟨t_law_filled_by K E, PSs.nox ?_, pure_law_filled_by vs H Q E hsp⟩), F.bindsN (fun _ _ _ _ _ _ us hl => match us, hl with | [_, _, _], _ => rfl), F.kp⟩
  exact pss_cons (ps_setLc (i := 3) (own := [("size", 5)]) (g := gName 5) rfl nd rfl rfl (sw_true rfl rfl rfl (by decide +kernel)) (pi_list (pv 2)) (blkOk_by (N := ["script", "base", "sizes", "held", "box", "size"]) (sc := defScope s_law_filled_by) (by decide +kernel)) (fun _ _ _ _ _ => pg_name (i := 5) nd rfl (Or.inl rfl)) (fun _ _ _ _ _ => pts_nil) (fun _ _ _ _ _ => pe_non))
      (pss_cons (ps_forP (PassesOwn.never) rfl (pi_range1 rfl (f_range KX G c) (pa_cons (pe_callB call_len_seq (by rfl) (f_len KX G c) (by decide +kernel) (pa_cons (pv 2) pa_nil)) pa_nil)) (pg_name (i := 4) nd rfl (Or.inl rfl))
        (pss_one (ps_if (pt_cmpR op_gt (pe_call G_law_drawn (hr.mono (by decide : 1 ≤ 1)) rfl (g_law_drawn KX G c) k_law_drawn b_law_drawn .nil pass0 (pa_cons (pv 0) (pa_cons (pe_op op_add (pv 1) (pe_op op_mul (pe_int) (pv 4))) (pa_cons (pe_int) pa_nil)))) (pe_int) (nomark _))
        (pss_one (ps_asg (pe_op op_add (pe_int) (pe_call G_law_drawn (hr.mono (by decide : 1 ≤ 1)) rfl (g_law_drawn KX G c) k_law_drawn b_law_drawn .nil pass0 (pa_cons (pv 0) (pa_cons (pe_op op_add (pe_op op_add (pv 1) (pe_op op_mul (pe_int) (pv 4))) (pe_int)) (pa_cons (pe_ix ix_list (pv 2) (pv 4) (fun _ _ => rfl)) pa_nil))))) (pg_sub (pv 3) (pv 4) set_list)))
        (pss_nil))))
      (pss_one (ps_ret (pv 3))))
theorem sc_Wall_held : FnScope ["self"] ["self"] (defScope s_Wall_held) := ⟨rfl, rfl, rfl, by decide +kernel, rfl, by decide +kernel, by decide +kernel⟩
theorem ok_Wall_held {P : Program} {w : World} {base : Heap} {h : Heap} {mg : Str → Option Value} {K : PySem.W.Frag} (KX : K.In h) (G : h.Ns mainGlobals mg) (c : He.SaysD fa fn K) (xs : XS K xl) : OkF P w K mg base CX0 1 (He.fAd K d_Wall_held.at_) ["self"] (sp_Wall_held K) := by
  obtain ⟨fd, F⟩ := c.def_ 2 (d := d_Wall_held) rfl
  have nd := sc_Wall_held.nd
  refine ⟨fd, F.ok sc_Wall_held (len_Wall_held (K := K)) (fun cdv A outer s H vs Q E hr hsp => ⟨t_Wall_held K E, PSs.nox ?_, pure_Wall_held (tW c) vs H Q E hsp⟩), F.bindsN (fun _ _ _ _ _ _ us hl => match us, hl with | [_], _ => rfl), F.kp⟩
  exact pss_one (ps_ret (pe_callTy call_list_of (by rfl) (f_list KX G c) (by decide +kernel) (pa_cons (pe_fld (pv 0) rfl) pa_nil)))
theorem sc_Wall_sizes : FnScope ["self"] ["self"] (defScope s_Wall_sizes) := ⟨rfl, rfl, rfl, by decide +kernel, rfl, by decide +kernel, by decide +kernel⟩
theorem ok_Wall_sizes {P : Program} {w : World} {base : Heap} {h : Heap} {mg : Str → Option Value} {K : PySem.W.Frag} (KX : K.In h) (G : h.Ns mainGlobals mg) (c : He.SaysD fa fn K) (xs : XS K xl) : OkF P w K mg base CX0 1 (He.fAd K d_Wall_sizes.at_) ["self"] (sp_Wall_sizes K) := by
  obtain ⟨fd, F⟩ := c.def_ 3 (d := d_Wall_sizes) rfl
  have nd := sc_Wall_sizes.nd
  refine ⟨fd, F.ok sc_Wall_sizes (len_Wall_sizes (K := K)) (fun cdv A outer s H vs Q E hr hsp => ⟨t_Wall_sizes K E, PSs.nox ?_, pure_Wall_sizes (tW c) vs H Q E hsp⟩), F.bindsN (fun _ _ _ _ _ _ us hl => match us, hl with | [_], _ => rfl), F.kp⟩
  exact pss_one (ps_ret (pe_callTy call_list_of (by rfl) (f_list KX G c) (by decide +kernel) (pa_cons (pe_fld (pv 0) rfl) pa_nil)))
theorem sc_Wall_see : FnScope ["self", "parcel"] ["self", "parcel"] (defScope s_Wall_see) := ⟨rfl, rfl, rfl, by decide +kernel, rfl, by decide +kernel, by decide +kernel⟩
theorem ok_Wall_see {P : Program} {w : World} {base : Heap} {h : Heap} {mg : Str → Option Value} {K : PySem.W.Frag} (KX : K.In h) (G : h.Ns mainGlobals mg) (c : He.SaysD fa fn K) (xs : XS K xl) : OkF P w K mg base (L2.CX P w) 1 (He.fAd K d_Wall_see.at_) ["self", "parcel"] (sp_Wall_see K) := by
  obtain ⟨fd, F⟩ := c.def_ 4 (d := d_Wall_see) rfl
  have nd := sc_Wall_see.nd
  refine ⟨fd, F.ok sc_Wall_see (len_Wall_see (K := K)) (fun cdv A outer s H vs Q E hr hsp => ⟨t_Wall_see K E, id ?_, pure_Wall_see (tW c) vs H Q E hsp⟩), F.bindsN (fun _ _ _ _ _ _ us hl => match us, hl with | [_, _], _ => rfl), F.kp⟩
  exact pss_one (ps_if (PW.pt (pw_or (pt_cmpR op_isN (pv 1) (pe_non) (nomark _)) (pw_or1 (pt_cmpR op_notInN (pv 1) (pe_fld (pv 0) rfl) (by rfl)))))
        (pss_one (ps_raise rfl (takes_of rfl rfl rfl rfl) (pmk_own PySem.F.excBase_ValueError (x_NoParcel c).1 (g_NoParcel KX G c) (x_NoParcel c).2.1 (raises_own (x_NoParcel c).2.2.1 (x_NoParcel c).2.2.2) (by exact rfl))))
        (pss_nil))
theorem sc_Wall_size_of : FnScope ["self", "parcel"] ["self", "parcel"] (defScope s_Wall_size_of) := ⟨rfl, rfl, rfl, by decide +kernel, rfl, by decide +kernel, by decide +kernel⟩
theorem ok_Wall_size_of {P : Program} {w : World} {base : Heap} {h : Heap} {mg : Str → Option Value} {K : PySem.W.Frag} (KX : K.In h) (G : h.Ns mainGlobals mg) (c : He.SaysD fa fn K) (xs : XS K xl) : OkF P w K mg base (L2.CX P w) 2 (He.fAd K d_Wall_size_of.at_) ["self", "parcel"] (sp_Wall_size_of K) := by
  obtain ⟨fd, F⟩ := c.def_ 5 (d := d_Wall_size_of) rfl
  obtain ⟨fd_Wall_see, G_Wall_see, b_Wall_see, k_Wall_see⟩ := ok_Wall_see (P := P) (w := w) (base := base) KX G c xs
  have nd := sc_Wall_size_of.nd
  refine ⟨fd, F.ok sc_Wall_size_of (len_Wall_size_of (K := K)) (fun cdv A outer s H vs Q E hr hsp => ⟨t_Wall_size_of K E, id ?_, pure_Wall_size_of (tW c) vs H Q E hsp⟩), F.bindsN (fun _ _ _ _ _ _ us hl => match us, hl with | [_, _], _ => rfl), F.kp⟩
  exact pss_cons (ps_expr (pe_meth (pv 0) (clW c) (m_Wall_see c) G_Wall_see (hr.mono (by decide : 1 ≤ 1)) b_Wall_see .nil (passes_call (takes_of rfl rfl rfl rfl) (fun _ _ _ _ h => h)) (pa_cons (pv 1) pa_nil)))
      (pss_one (ps_ret (pe_ix ix_tup (pe_ix ix_list (pe_fld (pv 0) rfl) (pv 1) (fun _ _ => rfl)) (pe_int) (fun _ _ => rfl))))
theorem sc_reach_k10 : FnScope ["wall", "size", "sizes", "held", "back", "queue", "box", "done", "here"] ["wall", "size"] (defScope s_reach_k10) := ⟨rfl, rfl, rfl, by decide +kernel, rfl, by decide +kernel, by decide +kernel⟩
theorem ok_reach_k10 {P : Program} {w : World} {base : Heap} {h : Heap} {mg : Str → Option Value} {K : PySem.W.Frag} (KX : K.In h) (G : h.Ns mainGlobals mg) (c : He.SaysD fa fn K) (xs : XS K xl) : OkF P w K mg base CX0 3 (He.fAd K d_reach_k10.at_) ["wall", "size"] (sp_reach_k10 K) := by
  obtain ⟨fd, F⟩ := c.def_ 6 (d := d_reach_k10) rfl
  obtain ⟨fd_Wall_size_of, G_Wall_size_of, b_Wall_size_of, k_Wall_size_of⟩ := ok_Wall_size_of (P := P) (w := w) (base := base) KX G c xs
  obtain ⟨fd_Wall_held, G_Wall_held, b_Wall_held, k_Wall_held⟩ := ok_Wall_held (P := P) (w := w) (base := base) KX G c xs
  obtain ⟨fd_Wall_sizes, G_Wall_sizes, b_Wall_sizes, k_Wall_sizes⟩ := ok_Wall_sizes (P := P) (w := w) (base := base) KX G c xs
  have nd := sc_reach_k10.nd
  refine ⟨fd, F.ok sc_reach_k10 (len_reach_k10 (K := K)) (fun cdv A outer s H vs Q E hr hsp => ⟨t_reach_k10 K E, PSs.nox ?_, pure_reach_k10 vs H Q E hsp⟩), F.bindsN (fun _ _ _ _ _ _ us hl => match us, hl with | [_, _], _ => rfl), F.kp⟩
  exact pss_cons (ps_set (i := 2) nd rfl (Or.inr rfl) (pe_meth0 (pv 0) (clW c) (m_Wall_sizes c) G_Wall_sizes (hr.mono (by decide : 1 ≤ 2)) b_Wall_sizes .nil pass0 ))
      (pss_cons (ps_set (i := 3) nd rfl (Or.inl rfl) (pe_meth0 (pv 0) (clW c) (m_Wall_held c) G_Wall_held (hr.mono (by decide : 1 ≤ 2)) b_Wall_held .nil pass0 ))
      (pss_cons (ps_set (i := 4) nd rfl (Or.inl rfl) (pe_dnewK))
      (pss_cons (ps_setLc (i := 5) (own := [("box", 6)]) (g := gName 6) rfl nd rfl rfl (sw_true rfl rfl rfl (by decide +kernel)) (pi_range1 rfl (f_range KX G c) (pa_cons (pe_callB call_len_seq (by rfl) (f_len KX G c) (by decide +kernel) (pa_cons (pv 2) pa_nil)) pa_nil)) (blkOk_by (N := ["wall", "size", "sizes", "held", "back", "queue", "box", "done", "here"]) (sc := defScope s_reach_k10) (by decide +kernel)) (fun _ _ _ _ _ => pg_name (i := 6) nd rfl (Or.inl rfl)) (fun _ _ _ _ _ => pts_one (pt_cmpR op_ge (pe_ix ix_list (pv 2) (pv 6) (fun _ _ => rfl)) (pv 1) (nomark _))) (fun _ _ _ _ _ => pv 6))
      (pss_cons (ps_forP (PassesOwn.never) rfl (pi_list (pv 5)) (pg_name (i := 6) nd rfl (Or.inl rfl))
        (pss_one (ps_dput (hu_of hr) (pv 4) (pv 6) (pe_non) rfl)))
      (pss_cons (ps_set (i := 7) nd rfl (Or.inl rfl) (pe_int))
      (pss_cons (ps_whileP (PassesOwn.never) (pt_cmpR op_lt (pv 7) (pe_callB call_len_seq (by rfl) (f_len KX G c) (by decide +kernel) (pa_cons (pv 5) pa_nil)) (nomark _))
        (pss_cons (ps_set (i := 8) nd rfl (Or.inl rfl) (pe_ix ix_list (pv 5) (pv 7) (fun _ _ => rfl)))
      (pss_cons (ps_set (i := 7) nd rfl (Or.inl rfl) (pe_op op_add (pv 7) (pe_int)))
      (pss_one (ps_if (pt_cmpR op_notN (pe_ix ix_list (pv 3) (pv 8) (fun _ _ => rfl)) (pe_non) (nomark _))
        (pss_one (ps_forP (PassesOwn.never) rfl (pi_range1 rfl (f_range KX G c) (pa_cons (pe_callB call_len_seq (by rfl) (f_len KX G c) (by decide +kernel) (pa_cons (pv 2) pa_nil)) pa_nil)) (pg_name (i := 6) nd rfl (Or.inl rfl))
        (pss_one (ps_if (PW.pt (pw_and (pt_cmp (pc_dnotin (hu_of hr) (pv 6) (pv 4)) (by rfl)) (pw_and1 (pt_cmpR op_ge (pe_ix ix_list (pv 2) (pv 6) (fun _ _ => rfl)) (pe_meth (pv 0) (clW c) (m_Wall_size_of c) G_Wall_size_of (hr.mono (by decide : 2 ≤ 2)) b_Wall_size_of .nil passL (pa_cons (pe_ix ix_list (pv 3) (pv 8) (fun _ _ => rfl)) pa_nil)) (nomark _)))))
        (pss_cons (ps_dput (hu_of hr) (pv 4) (pv 6) (pv 8) rfl)
      (pss_one (ps_expr (pe_bm PySem.F.plainAttrs_list PySem.F.slot_list_append PySem.F.type_list_append mt_append (pv 5) (pa_cons (pv 6) pa_nil)))))
        (pss_nil)))))
        (pss_nil))))))
      (pss_one (ps_ret (pe_tup (pa_cons (pv 5) (pa_cons (pv 4) pa_nil)))))))))))
theorem sc_is_size : FnScope ["number"] ["number"] (defScope s_is_size) := ⟨rfl, rfl, rfl, by decide +kernel, rfl, by decide +kernel, by decide +kernel⟩
theorem ok_is_size {P : Program} {w : World} {base : Heap} {h : Heap} {mg : Str → Option Value} {K : PySem.W.Frag} (KX : K.In h) (G : h.Ns mainGlobals mg) (c : He.SaysD fa fn K) (xs : XS K xl) : OkF P w K mg base CX0 1 (He.fAd K d_is_size.at_) ["number"] (sp_is_size K) := by
  obtain ⟨fd, F⟩ := c.def_ 7 (d := d_is_size) rfl
  have nd := sc_is_size.nd
  refine ⟨fd, F.ok sc_is_size (len_is_size (K := K)) (fun cdv A outer s H vs Q E hr hsp => ⟨t_is_size K E, PSs.nox ?_, pure_is_size vs H Q E hsp⟩), F.bindsN (fun _ _ _ _ _ _ us hl => match us, hl with | [_], _ => rfl), F.kp⟩
  exact pss_one (ps_ret (pe_and (pe_cmpR op_le (pe_int) (pv 0) (nomark _)) (pe_one (pe_cmpR op_le (pv 0) (pe_glob rfl (c_MOST_SIZE KX G c).choose_spec ⟨_, rfl⟩) (nomark _)))))
theorem sc_room_for_k10 : FnScope ["wall", "size", "held", "found", "queue", "back", "ends", "least", "moves", "box"] ["wall", "size"] (defScope s_room_for_k10) := ⟨rfl, rfl, rfl, by decide +kernel, rfl, by decide +kernel, by decide +kernel⟩
theorem ok_room_for_k10 {P : Program} {w : World} {base : Heap} {h : Heap} {mg : Str → Option Value} {K : PySem.W.Frag} (KX : K.In h) (G : h.Ns mainGlobals mg) (c : He.SaysD fa fn K) (xs : XS K xl) : OkF P w K mg base (L2.CX P w) 4 (He.fAd K d_room_for_k10.at_) ["wall", "size"] (sp_room_for_k10 K) := by
  obtain ⟨fd, F⟩ := c.def_ 8 (d := d_room_for_k10) rfl
  obtain ⟨fd_Wall_size_of, G_Wall_size_of, b_Wall_size_of, k_Wall_size_of⟩ := ok_Wall_size_of (P := P) (w := w) (base := base) KX G c xs
  obtain ⟨fd_reach_k10, G_reach_k10, b_reach_k10, k_reach_k10⟩ := ok_reach_k10 (P := P) (w := w) (base := base) KX G c xs
  obtain ⟨fd_Wall_held, G_Wall_held, b_Wall_held, k_Wall_held⟩ := ok_Wall_held (P := P) (w := w) (base := base) KX G c xs
  obtain ⟨fd_is_size, G_is_size, b_is_size, k_is_size⟩ := ok_is_size (P := P) (w := w) (base := base) KX G c xs
  have nd := sc_room_for_k10.nd
  refine ⟨fd, F.ok sc_room_for_k10 (len_room_for_k10 (K := K)) (fun cdv A outer s H vs Q E hr hsp => ⟨t_room_for_k10 K E, id ?_, pure_room_for_k10 vs H Q E hsp⟩), F.bindsN (fun _ _ _ _ _ _ us hl => match us, hl with | [_, _], _ => rfl), F.kp⟩
  exact pss_cons (ps_if (pt_not (pt_val (pe_call G_is_size (hr.mono (by decide : 1 ≤ 3)) rfl (g_is_size KX G c) k_is_size b_is_size .nil pass0 (pa_cons (pv 1) pa_nil))))
        (pss_one (ps_raise rfl (takes_of rfl rfl rfl rfl) (pmk_own PySem.F.excBase_ValueError (x_NoSize c).1 (g_NoSize KX G c) (x_NoSize c).2.1 (raises_own (x_NoSize c).2.2.1 (x_NoSize c).2.2.2) (by exact rfl))))
        (pss_nil))
      (pss_cons (ps_set (i := 2) nd rfl (Or.inr rfl) (pe_meth0 (pv 0) (clW c) (m_Wall_held c) G_Wall_held (hr.mono (by decide : 1 ≤ 3)) b_Wall_held .nil pass0 ))
      (pss_cons (ps_set (i := 3) nd rfl (Or.inl rfl) (pe_call G_reach_k10 (hr.mono (by decide : 3 ≤ 3)) rfl (g_reach KX G c) k_reach_k10 b_reach_k10 .nil pass0 (pa_cons (pv 0) (pa_cons (pv 1) pa_nil))))
      (pss_cons (ps_set (i := 4) nd rfl (Or.inl rfl) (pe_ix ix_tup (pv 3) (pe_int) (fun _ _ => rfl)))
      (pss_cons (ps_set (i := 5) nd rfl (Or.inl rfl) (pe_ix ix_tup (pv 3) (pe_int) (fun _ _ => rfl)))
      (pss_cons (ps_setLc (i := 6) (own := [("box", 9)]) (g := gName 9) rfl nd rfl rfl (sw_true rfl rfl rfl (by decide +kernel)) (pi_list (pv 4)) (blkOk_by (N := ["wall", "size", "held", "found", "queue", "back", "ends", "least", "moves", "box"]) (sc := defScope s_room_for_k10) (by decide +kernel)) (fun _ _ _ _ _ => pg_name (i := 9) nd rfl (Or.inl rfl)) (fun _ _ _ _ _ => pts_one (pt_cmpR op_isN (pe_ix ix_list (pv 2) (pv 9) (fun _ _ => rfl)) (pe_non) (nomark _))) (fun _ _ _ _ _ => pv 9))
      (pss_cons (ps_if (pt_cmpR op_eq (pe_callB call_len_seq (by rfl) (f_len KX G c) (by decide +kernel) (pa_cons (pv 6) pa_nil)) (pe_int) (nomark _))
        (pss_cons (ps_set (i := 7) nd rfl (Or.inl rfl) (pe_callB (cr_min rfl) (by rfl) (f_min KX G c) (by decide +kernel) (pa_cons (pe_op op_cat (pe_lst (pa_cons (pv 1) pa_nil)) (pe_lc (own := [("box", 9)]) (g := gName 9) rfl nd (pi_list (pv 4)) (blkOk_by (N := ["wall", "size", "held", "found", "queue", "back", "ends", "least", "moves", "box"]) (sc := defScope s_room_for_k10) (by decide +kernel)) (fun _ _ _ _ _ => pg_name (i := 9) nd rfl (Or.inl rfl)) (fun _ _ _ _ _ => pts_nil) (fun _ _ _ _ _ => pe_meth (pv 0) (clW c) (m_Wall_size_of c) G_Wall_size_of (hr.mono (by decide : 2 ≤ 3)) b_Wall_size_of .nil passL (pa_cons (pe_ix ix_list (pv 2) (pv 9) (fun _ _ => rfl)) pa_nil)))) pa_nil)))
      (pss_one (ps_ret (pe_tup (pa_cons (pe_str) (pa_cons (pv 7) pa_nil))))))
        (pss_nil))
      (pss_cons (ps_set (i := 8) nd rfl (Or.inl rfl) (pe_lst pa_nil))
      (pss_cons (ps_set (i := 9) nd rfl (Or.inl rfl) (pe_ix ix_list (pv 6) (pe_int) (fun _ _ => rfl)))
      (pss_cons (ps_whileP (passes_of rfl) (pt_cmpR op_notN (pe_dget (hu_of hr) (pv 5) (pv 9) (fun _ _ => rfl)) (pe_non) (nomark _))
        (pss_cons (ps_expr (pe_bm PySem.F.plainAttrs_list PySem.F.slot_list_append PySem.F.type_list_append mt_append (pv 8) (pa_cons (pe_tup (pa_cons (pe_ix ix_list (pv 2) (pe_dget (hu_of hr) (pv 5) (pv 9) (fun _ _ => rfl)) (fun _ _ => rfl)) (pa_cons (pv 9) pa_nil))) pa_nil)))
      (pss_one (ps_set (i := 9) nd rfl (Or.inl rfl) (pe_dget (hu_of hr) (pv 5) (pv 9) (fun _ _ => rfl))))))
      (pss_one (ps_ret (pe_tup (pa_cons (pe_str) (pa_cons (pv 8) pa_nil))))))))))))))
theorem sc_law_sizes_by : FnScope ["script", "base", "many", "top", "k"] ["script", "base"] (defScope s_law_sizes_by) := ⟨rfl, rfl, rfl, by decide +kernel, rfl, by decide +kernel, by decide +kernel⟩
theorem ok_law_sizes_by {P : Program} {w : World} {base : Heap} {h : Heap} {mg : Str → Option Value} {K : PySem.W.Frag} (KX : K.In h) (G : h.Ns mainGlobals mg) (c : He.SaysD fa fn K) (xs : XS K xl) : OkF P w K mg base CX0 2 (He.fAd K d_law_sizes_by.at_) ["script", "base"] (sp_law_sizes_by K) := by
  obtain ⟨fd, F⟩ := c.def_ 9 (d := d_law_sizes_by) rfl
  obtain ⟨fd_law_drawn, G_law_drawn, b_law_drawn, k_law_drawn⟩ := ok_law_drawn (P := P) (w := w) (base := base) KX G c xs
  have nd := sc_law_sizes_by.nd
  refine ⟨fd, F.ok sc_law_sizes_by (len_law_sizes_by (K := K)) (fun cdv A outer s H vs Q E hr hsp => ⟨t_law_sizes_by K E, PSs.nox ?_, pure_law_sizes_by vs H Q E hsp⟩), F.bindsN (fun _ _ _ _ _ _ us hl => match us, hl with | [_, _], _ => rfl), F.kp⟩
  exact pss_cons (ps_set (i := 2) nd rfl (Or.inl rfl) (pe_op op_add (pe_int) (pe_call G_law_drawn (hr.mono (by decide : 1 ≤ 1)) rfl (g_law_drawn KX G c) k_law_drawn b_law_drawn .nil pass0 (pa_cons (pv 0) (pa_cons (pv 1) (pa_cons (pe_int) pa_nil))))))
      (pss_cons (ps_set (i := 3) nd rfl (Or.inr rfl) (pe_ix ix_list (pe_lst (pa_cons (pe_int) (pa_cons (pe_int) (pa_cons (pe_int) pa_nil)))) (pe_call G_law_drawn (hr.mono (by decide : 1 ≤ 1)) rfl (g_law_drawn KX G c) k_law_drawn b_law_drawn .nil pass0 (pa_cons (pv 0) (pa_cons (pe_op op_add (pv 1) (pe_int)) (pa_cons (pe_int) pa_nil)))) (fun _ _ => rfl)))
      (pss_one (ps_ret (pe_lc (own := [("k", 4)]) (g := gName 4) rfl nd (pi_range1 rfl (f_range KX G c) (pa_cons (pv 2) pa_nil)) (blkOk_by (N := ["script", "base", "many", "top", "k"]) (sc := defScope s_law_sizes_by) (by decide +kernel)) (fun _ _ _ _ _ => pg_name (i := 4) nd rfl (Or.inl rfl)) (fun _ _ _ _ _ => pts_nil) (fun _ _ _ _ _ => pe_op op_add (pe_int) (pe_call G_law_drawn (hr.mono (by decide : 1 ≤ 1)) rfl (g_law_drawn KX G c) k_law_drawn b_law_drawn .nil pass0 (pa_cons (pv 0) (pa_cons (pe_op op_add (pe_op op_add (pv 1) (pe_int)) (pv 4)) (pa_cons (pv 3) pa_nil)))))))))
theorem sc_law_ready : FnScope ["sizes", "inside", "size", "box"] ["sizes", "inside", "size"] (defScope s_law_ready) := ⟨rfl, rfl, rfl, by decide +kernel, rfl, by decide +kernel, by decide +kernel⟩
theorem ok_law_ready {P : Program} {w : World} {base : Heap} {h : Heap} {mg : Str → Option Value} {K : PySem.W.Frag} (KX : K.In h) (G : h.Ns mainGlobals mg) (c : He.SaysD fa fn K) (xs : XS K xl) : OkF P w K mg base CX0 1 (He.fAd K d_law_ready.at_) ["sizes", "inside", "size"] (sp_law_ready K) := by
  obtain ⟨fd, F⟩ := c.def_ 10 (d := d_law_ready) rfl
  have nd := sc_law_ready.nd
  refine ⟨fd, F.ok sc_law_ready (len_law_ready (K := K)) (fun cdv A outer s H vs Q E hr hsp => ⟨t_law_ready K E, PSs.nox ?_, pure_law_ready vs H Q E hsp⟩), F.bindsN (fun _ _ _ _ _ _ us hl => match us, hl with | [_, _, _], _ => rfl), F.kp⟩
  exact pss_cons (ps_forP (PassesOwn.never) rfl (pi_range1 rfl (f_range KX G c) (pa_cons (pe_callB call_len_seq (by rfl) (f_len KX G c) (by decide +kernel) (pa_cons (pv 0) pa_nil)) pa_nil)) (pg_name (i := 3) nd rfl (Or.inl rfl))
        (pss_one (ps_if (PW.pt (pw_and (pt_cmpR op_isN (pe_ix ix_tup (pv 1) (pv 3) (fun _ _ => rfl)) (pe_non) (nomark _)) (pw_and1 (pt_cmpR op_ge (pe_ix ix_list (pv 0) (pv 3) (fun _ _ => rfl)) (pv 2) (nomark _)))))
        (pss_one (ps_ret (pe_bl)))
        (pss_nil))))
      (pss_one (ps_ret (pe_bl)))
theorem sc_law_moved_k10 : FnScope ["sizes", "inside", "found", "here", "box", "made"] ["sizes", "inside"] (defScope s_law_moved_k10) := ⟨rfl, rfl, rfl, by decide +kernel, rfl, by decide +kernel, by decide +kernel⟩
theorem ok_law_moved_k10 {P : Program} {w : World} {base : Heap} {h : Heap} {mg : Str → Option Value} {K : PySem.W.Frag} (KX : K.In h) (G : h.Ns mainGlobals mg) (c : He.SaysD fa fn K) (xs : XS K xl) : OkF P w K mg base CX0 1 (He.fAd K d_law_moved_k10.at_) ["sizes", "inside"] (sp_law_moved_k10 K) := by
  obtain ⟨fd, F⟩ := c.def_ 11 (d := d_law_moved_k10) rfl
  have nd := sc_law_moved_k10.nd
  refine ⟨fd, F.ok sc_law_moved_k10 (len_law_moved_k10 (K := K)) (fun cdv A outer s H vs Q E hr hsp => ⟨t_law_moved_k10 K E, PSs.nox ?_, pure_law_moved_k10 vs H Q E hsp⟩), F.bindsN (fun _ _ _ _ _ _ us hl => match us, hl with | [_, _], _ => rfl), F.kp⟩
  exact pss_cons (ps_set (i := 2) nd rfl (Or.inl rfl) (pe_lst pa_nil))
      (pss_cons (ps_forP (PassesOwn.never) rfl (pi_range1 rfl (f_range KX G c) (pa_cons (pe_callB call_len_seq (by rfl) (f_len KX G c) (by decide +kernel) (pa_cons (pv 0) pa_nil)) pa_nil)) (pg_name (i := 3) nd rfl (Or.inl rfl))
        (pss_one (ps_forP (PassesOwn.never) rfl (pi_range1 rfl (f_range KX G c) (pa_cons (pe_callB call_len_seq (by rfl) (f_len KX G c) (by decide +kernel) (pa_cons (pv 0) pa_nil)) pa_nil)) (pg_name (i := 4) nd rfl (Or.inl rfl))
        (pss_one (ps_if (PW.pt (pw_and (pt_cmpR op_notN (pe_ix ix_tup (pv 1) (pv 3) (fun _ _ => rfl)) (pe_non) (nomark _)) (pw_and (pt_cmpR op_isN (pe_ix ix_tup (pv 1) (pv 4) (fun _ _ => rfl)) (pe_non) (nomark _)) (pw_and1 (pt_cmpR op_le (pe_ix ix_tup (pv 1) (pv 3) (fun _ _ => rfl)) (pe_ix ix_list (pv 0) (pv 4) (fun _ _ => rfl)) (nomark _))))))
        (pss_cons (ps_set (i := 5) nd rfl (Or.inl rfl) (pe_callTy call_list_of (by rfl) (f_list KX G c) (by decide +kernel) (pa_cons (pv 1) pa_nil)))
      (pss_cons (ps_asg (pe_ix ix_tup (pv 1) (pv 3) (fun _ _ => rfl)) (pg_sub (pv 5) (pv 4) set_list))
      (pss_cons (ps_asg (pe_non) (pg_sub (pv 5) (pv 3) set_list))
      (pss_one (ps_expr (pe_bm PySem.F.plainAttrs_list PySem.F.slot_list_append PySem.F.type_list_append mt_append (pv 2) (pa_cons (pe_callTy cr_tupOf (by rfl) (f_tuple KX G c) (by decide +kernel) (pa_cons (pv 5) pa_nil)) pa_nil)))))))
        (pss_nil))))))
      (pss_one (ps_ret (pv 2))))
theorem sc_law_steps : FnScope ["sizes", "inside", "size", "bound", "seen", "level", "steps", "further", "one", "other"] ["sizes", "inside", "size", "bound"] (defScope s_law_steps) := ⟨rfl, rfl, rfl, by decide +kernel, rfl, by decide +kernel, by decide +kernel⟩
theorem ok_law_steps {P : Program} {w : World} {base : Heap} {h : Heap} {mg : Str → Option Value} {K : PySem.W.Frag} (KX : K.In h) (G : h.Ns mainGlobals mg) (c : He.SaysD fa fn K) (xs : XS K xl) : OkF P w K mg base CX0 2 (He.fAd K d_law_steps.at_) ["sizes", "inside", "size", "bound"] (sp_law_steps K) := by
  obtain ⟨fd, F⟩ := c.def_ 12 (d := d_law_steps) rfl
  obtain ⟨fd_law_moved_k10, G_law_moved_k10, b_law_moved_k10, k_law_moved_k10⟩ := ok_law_moved_k10 (P := P) (w := w) (base := base) KX G c xs
  obtain ⟨fd_law_ready, G_law_ready, b_law_ready, k_law_ready⟩ := ok_law_ready (P := P) (w := w) (base := base) KX G c xs
  have nd := sc_law_steps.nd
  refine ⟨fd, F.ok sc_law_steps (len_law_steps (K := K)) (fun cdv A outer s H vs Q E hr hsp => ⟨t_law_steps K E, PSs.nox ?_, pure_law_steps vs H Q E hsp⟩), F.bindsN (fun _ _ _ _ _ _ us hl => match us, hl with | [_, _, _, _], _ => rfl), F.kp⟩
  exact pss_cons (ps_set (i := 4) nd rfl (Or.inl rfl) (pe_seenNew (Nat.lt_of_succ_lt (hu_of hr)) (pe_callTy cr_tupOf (by rfl) (f_tuple KX G c) (by decide +kernel) (pa_cons (pv 1) pa_nil)) (pe_bl)))
      (pss_cons (ps_set (i := 5) nd rfl (Or.inl rfl) (pe_lst (pa_cons (pe_callTy cr_tupOf (by rfl) (f_tuple KX G c) (by decide +kernel) (pa_cons (pv 1) pa_nil)) pa_nil)))
      (pss_cons (ps_forP (PassesOwn.never) rfl (pi_range1 rfl (f_range KX G c) (pa_cons (pe_op op_add (pv 3) (pe_int)) pa_nil)) (pg_name (i := 6) nd rfl (Or.inl rfl))
        (pss_cons (ps_set (i := 7) nd rfl (Or.inl rfl) (pe_lst pa_nil))
      (pss_cons (ps_forP (PassesOwn.never) rfl (pi_list (pv 5)) (pg_name (i := 8) nd rfl (Or.inl rfl))
        (pss_cons (ps_if (pt_val (pe_call G_law_ready (hr.mono (by decide : 1 ≤ 1)) rfl (g_law_ready KX G c) k_law_ready b_law_ready .nil pass0 (pa_cons (pv 0) (pa_cons (pv 8) (pa_cons (pv 2) pa_nil)))))
        (pss_one (ps_ret (pv 6)))
        (pss_nil))
      (pss_one (ps_forP (PassesOwn.never) rfl (pi_list (pe_call G_law_moved_k10 (hr.mono (by decide : 1 ≤ 1)) rfl (g_law_moved KX G c) k_law_moved_k10 b_law_moved_k10 .nil pass0 (pa_cons (pv 0) (pa_cons (pv 8) pa_nil)))) (pg_name (i := 9) nd rfl (Or.inl rfl))
        (pss_one (ps_if (pt_cmp (pc_seenNot (hu_of hr) (pv 9) (pv 4)) (by rfl))
        (pss_cons (ps_seenPut (hu_of hr) (pv 4) (pv 9) (pe_bl) rfl)
      (pss_one (ps_expr (pe_bm PySem.F.plainAttrs_list PySem.F.slot_list_append PySem.F.type_list_append mt_append (pv 7) (pa_cons (pv 9) pa_nil)))))
        (pss_nil)))))))
      (pss_one (ps_set (i := 5) nd rfl (Or.inl rfl) (pv 7))))))
      (pss_one (ps_ret (pe_non)))))
theorem sc_Wall_init : FnScope ["self", "sizes", "size"] ["self", "sizes"] (defScope s_Wall_init) := ⟨rfl, rfl, rfl, by decide +kernel, rfl, by decide +kernel, by decide +kernel⟩
theorem ok_Wall_init {P : Program} {w : World} {base : Heap} {h : Heap} {mg : Str → Option Value} {K : PySem.W.Frag} (KX : K.In h) (G : h.Ns mainGlobals mg) (c : He.SaysD fa fn K) (xs : XS K xl) : OkF P w K mg base (L2.CX P w) 2 (He.fAd K d_Wall_init.at_) ["self", "sizes"] (sp_Wall_init K) := by
  obtain ⟨fd, F⟩ := c.def_ 13 (d := d_Wall_init) rfl
  obtain ⟨fd_is_size, G_is_size, b_is_size, k_is_size⟩ := ok_is_size (P := P) (w := w) (base := base) KX G c xs
  have nd := sc_Wall_init.nd
  refine ⟨fd, F.ok sc_Wall_init (len_Wall_init (K := K)) (fun cdv A outer s H vs Q E hr hsp => ⟨t_Wall_init K E, id ?_, pure_Wall_init (tW c) vs H Q E hsp⟩), F.bindsN (fun _ _ _ _ _ _ us hl => match us, hl with | [_, _], _ => rfl), F.kp⟩
  exact pss_cons (ps_if (PW.pt (pw_or (pt_cmpR op_lt (pe_callB call_len_seq (by rfl) (f_len KX G c) (by decide +kernel) (pa_cons (pv 1) pa_nil)) (pe_int) (nomark _)) (pw_or1 (pt_cmpR op_gt (pe_callB call_len_seq (by rfl) (f_len KX G c) (by decide +kernel) (pa_cons (pv 1) pa_nil)) (pe_glob rfl (c_MOST_BOXES KX G c).choose_spec ⟨_, rfl⟩) (nomark _)))))
        (pss_one (ps_raise rfl (takes_of rfl rfl rfl rfl) (pmk_own PySem.F.excBase_ValueError (x_NoWall c).1 (g_NoWall KX G c) (x_NoWall c).2.1 (raises_own (x_NoWall c).2.2.1 (x_NoWall c).2.2.2) (by exact rfl))))
        (pss_nil))
      (pss_cons (ps_forP (passes_of rfl) rfl (pi_list (pv 1)) (pg_name (i := 2) nd rfl (Or.inl rfl))
        (pss_one (ps_if (pt_not (pt_val (pe_call G_is_size (hr.mono (by decide : 1 ≤ 1)) rfl (g_is_size KX G c) k_is_size b_is_size .nil pass0 (pa_cons (pv 2) pa_nil))))
        (pss_one (ps_raise rfl (takes_of rfl rfl rfl rfl) (pmk_own PySem.F.excBase_ValueError (x_NoWall c).1 (g_NoWall KX G c) (x_NoWall c).2.1 (raises_own (x_NoWall c).2.2.1 (x_NoWall c).2.2.2) (by exact rfl))))
        (pss_nil))))
      (pss_cons (ps_fld (pv 0) (pe_callTy call_list_of (by rfl) (f_list KX G c) (by decide +kernel) (pa_cons (pv 1) pa_nil)) rfl)
      (pss_cons (ps_fld (pv 0) (pe_lc (own := [("size", 2)]) (g := gName 2) rfl nd (pi_list (pv 1)) (blkOk_by (N := ["self", "sizes", "size"]) (sc := defScope s_Wall_init) (by decide +kernel)) (fun _ _ _ _ _ => pg_name (i := 2) nd rfl (Or.inl rfl)) (fun _ _ _ _ _ => pts_nil) (fun _ _ _ _ _ => pe_non)) rfl)
      (pss_cons (ps_fld (pv 0) (pe_lst pa_nil) rfl)
      (pss_one (ps_fld (pv 0) (pe_int) rfl))))))
theorem sc_Wall_fetch : FnScope ["self", "parcel", "box"] ["self", "parcel"] (defScope s_Wall_fetch) := ⟨rfl, rfl, rfl, by decide +kernel, rfl, by decide +kernel, by decide +kernel⟩
theorem ok_Wall_fetch {P : Program} {w : World} {base : Heap} {h : Heap} {mg : Str → Option Value} {K : PySem.W.Frag} (KX : K.In h) (G : h.Ns mainGlobals mg) (c : He.SaysD fa fn K) (xs : XS K xl) : OkF P w K mg base (L2.CX P w) 2 (He.fAd K d_Wall_fetch.at_) ["self", "parcel"] (sp_Wall_fetch K) := by
  obtain ⟨fd, F⟩ := c.def_ 14 (d := d_Wall_fetch) rfl
  obtain ⟨fd_Wall_see, G_Wall_see, b_Wall_see, k_Wall_see⟩ := ok_Wall_see (P := P) (w := w) (base := base) KX G c xs
  have nd := sc_Wall_fetch.nd
  refine ⟨fd, F.ok sc_Wall_fetch (len_Wall_fetch (K := K)) (fun cdv A outer s H vs Q E hr hsp => ⟨t_Wall_fetch K E, id ?_, pure_Wall_fetch (tW c) vs H Q E hsp⟩), F.bindsN (fun _ _ _ _ _ _ us hl => match us, hl with | [_, _], _ => rfl), F.kp⟩
  exact pss_cons (ps_expr (pe_meth (pv 0) (clW c) (m_Wall_see c) G_Wall_see (hr.mono (by decide : 1 ≤ 1)) b_Wall_see .nil (passes_call (takes_of rfl rfl rfl rfl) (fun _ _ _ _ h => h)) (pa_cons (pv 1) pa_nil)))
      (pss_cons (ps_set (i := 2) nd rfl (Or.inl rfl) (pe_bm PySem.F.plainAttrs_list PySem.F.slot_list_index PySem.F.type_list_index mt_index (pe_fld (pv 0) rfl) (pa_cons (pv 1) pa_nil)))
      (pss_cons (ps_asg (pe_non) (pg_sub (pe_fld (pv 0) rfl) (pv 2) set_list))
      (pss_one (ps_ret (pv 2)))))
theorem sc_least_box : FnScope ["sizes", "free", "size", "found", "box"] ["sizes", "free", "size"] (defScope s_least_box) := ⟨rfl, rfl, rfl, by decide +kernel, rfl, by decide +kernel, by decide +kernel⟩
theorem ok_least_box {P : Program} {w : World} {base : Heap} {h : Heap} {mg : Str → Option Value} {K : PySem.W.Frag} (KX : K.In h) (G : h.Ns mainGlobals mg) (c : He.SaysD fa fn K) (xs : XS K xl) : OkF P w K mg base CX0 1 (He.fAd K d_least_box.at_) ["sizes", "free", "size"] (sp_least_box K) := by
  obtain ⟨fd, F⟩ := c.def_ 15 (d := d_least_box) rfl
  have nd := sc_least_box.nd
  refine ⟨fd, F.ok sc_least_box (len_least_box (K := K)) (fun cdv A outer s H vs Q E hr hsp => ⟨t_least_box K E, PSs.nox ?_, pure_least_box vs H Q E hsp⟩), F.bindsN (fun _ _ _ _ _ _ us hl => match us, hl with | [_, _, _], _ => rfl), F.kp⟩
  exact pss_cons (ps_set (i := 3) nd rfl (Or.inl rfl) (pe_non))
      (pss_cons (ps_forP (PassesOwn.never) rfl (pi_list (pv 1)) (pg_name (i := 4) nd rfl (Or.inl rfl))
        (pss_one (ps_if (PW.pt (pw_and (pt_cmpR op_ge (pe_ix ix_list (pv 0) (pv 4) (fun _ _ => rfl)) (pv 2) (nomark _)) (pw_and1 (PW.pt (pw_or (pt_cmpR op_isN (pv 3) (pe_non) (nomark _)) (pw_or1 (pt_cmpR op_lt (pe_ix ix_list (pv 0) (pv 4) (fun _ _ => rfl)) (pe_ix ix_list (pv 0) (pv 3) (fun _ _ => rfl)) (nomark _))))))))
        (pss_one (ps_set (i := 3) nd rfl (Or.inl rfl) (pv 4)))
        (pss_nil))))
      (pss_one (ps_ret (pv 3))))
theorem sc_Wall_free : FnScope ["self", "box"] ["self"] (defScope s_Wall_free) := ⟨rfl, rfl, rfl, by decide +kernel, rfl, by decide +kernel, by decide +kernel⟩
theorem ok_Wall_free {P : Program} {w : World} {base : Heap} {h : Heap} {mg : Str → Option Value} {K : PySem.W.Frag} (KX : K.In h) (G : h.Ns mainGlobals mg) (c : He.SaysD fa fn K) (xs : XS K xl) : OkF P w K mg base CX0 1 (He.fAd K d_Wall_free.at_) ["self"] (sp_Wall_free K) := by
  obtain ⟨fd, F⟩ := c.def_ 16 (d := d_Wall_free) rfl
  have nd := sc_Wall_free.nd
  refine ⟨fd, F.ok sc_Wall_free (len_Wall_free (K := K)) (fun cdv A outer s H vs Q E hr hsp => ⟨t_Wall_free K E, PSs.nox ?_, pure_Wall_free (tW c) vs H Q E hsp⟩), F.bindsN (fun _ _ _ _ _ _ us hl => match us, hl with | [_], _ => rfl), F.kp⟩
  exact pss_one (ps_ret (pe_lc (own := [("box", 1)]) (g := gName 1) rfl nd (pi_range1 rfl (f_range KX G c) (pa_cons (pe_callB call_len_seq (by rfl) (f_len KX G c) (by decide +kernel) (pa_cons (pe_fld (pv 0) rfl) pa_nil)) pa_nil)) (blkOk_by (N := ["self", "box"]) (sc := defScope s_Wall_free) (by decide +kernel)) (fun _ _ _ _ _ => pg_name (i := 1) nd rfl (Or.inl rfl)) (fun _ _ _ _ _ => pts_one (pt_cmpR op_isN (pe_ix ix_list (pe_fld (pv 0) rfl) (pv 1) (fun _ _ => rfl)) (pe_non) (nomark _))) (fun _ _ _ _ _ => pv 1)))
theorem sc_Wall_come : FnScope ["self", "size", "nights", "box"] ["self", "size", "nights"] (defScope s_Wall_come) := ⟨rfl, rfl, rfl, by decide +kernel, rfl, by decide +kernel, by decide +kernel⟩
theorem ok_Wall_come {P : Program} {w : World} {base : Heap} {h : Heap} {mg : Str → Option Value} {K : PySem.W.Frag} (KX : K.In h) (G : h.Ns mainGlobals mg) (c : He.SaysD fa fn K) (xs : XS K xl) : OkF P w K mg base (L2.CX P w) 2 (He.fAd K d_Wall_come.at_) ["self", "size", "nights"] (sp_Wall_come K) := by
  obtain ⟨fd, F⟩ := c.def_ 17 (d := d_Wall_come) rfl
  obtain ⟨fd_least_box, G_least_box, b_least_box, k_least_box⟩ := ok_least_box (P := P) (w := w) (base := base) KX G c xs
  obtain ⟨fd_Wall_free, G_Wall_free, b_Wall_free, k_Wall_free⟩ := ok_Wall_free (P := P) (w := w) (base := base) KX G c xs
  obtain ⟨fd_is_size, G_is_size, b_is_size, k_is_size⟩ := ok_is_size (P := P) (w := w) (base := base) KX G c xs
  have nd := sc_Wall_come.nd
  refine ⟨fd, F.ok sc_Wall_come (len_Wall_come (K := K)) (fun cdv A outer s H vs Q E hr hsp => ⟨t_Wall_come K E, id ?_, pure_Wall_come (tW c) vs H Q E hsp⟩), F.bindsN (fun _ _ _ _ _ _ us hl => match us, hl with | [_, _, _], _ => rfl), F.kp⟩
  exact pss_cons (ps_if (pt_not (pt_val (pe_call G_is_size (hr.mono (by decide : 1 ≤ 1)) rfl (g_is_size KX G c) k_is_size b_is_size .nil pass0 (pa_cons (pv 1) pa_nil))))
        (pss_one (ps_raise rfl (takes_of rfl rfl rfl rfl) (pmk_own PySem.F.excBase_ValueError (x_NoSize c).1 (g_NoSize KX G c) (x_NoSize c).2.1 (raises_own (x_NoSize c).2.2.1 (x_NoSize c).2.2.2) (by exact rfl))))
        (pss_nil))
      (pss_cons (ps_if (PW.pt (pw_or (pt_cmpR op_lt (pv 2) (pe_int) (nomark _)) (pw_or1 (pt_cmpR op_gt (pv 2) (pe_glob rfl (c_MOST_SIZE KX G c).choose_spec ⟨_, rfl⟩) (nomark _)))))
        (pss_one (ps_raise rfl (takes_of rfl rfl rfl rfl) (pmk_own PySem.F.excBase_ValueError (x_NoNights c).1 (g_NoNights KX G c) (x_NoNights c).2.1 (raises_own (x_NoNights c).2.2.1 (x_NoNights c).2.2.2) (by exact rfl))))
        (pss_nil))
      (pss_cons (ps_set (i := 3) nd rfl (Or.inl rfl) (pe_call G_least_box (hr.mono (by decide : 1 ≤ 1)) rfl (g_least_box KX G c) k_least_box b_least_box .nil pass0 (pa_cons (pe_fld (pv 0) rfl) (pa_cons (pe_meth0 (pv 0) (clW c) (m_Wall_free c) G_Wall_free (hr.mono (by decide : 1 ≤ 1)) b_Wall_free .nil pass0 ) (pa_cons (pv 1) pa_nil)))))
      (pss_cons (ps_if (pt_cmpR op_isN (pv 3) (pe_non) (nomark _))
        (pss_one (ps_raise rfl (takes_of rfl rfl rfl rfl) (pmk_own PySem.F.excBase_ValueError (x_NoBox c).1 (g_NoBox KX G c) (x_NoBox c).2.1 (raises_own (x_NoBox c).2.2.1 (x_NoBox c).2.2.2) (by exact rfl))))
        (pss_nil))
      (pss_cons (ps_expr (pe_bm PySem.F.plainAttrs_list PySem.F.slot_list_append PySem.F.type_list_append mt_append (pe_fld (pv 0) rfl) (pa_cons (pe_tup (pa_cons (pv 1) (pa_cons (pe_op op_add (pe_fld (pv 0) rfl) (pv 2)) pa_nil))) pa_nil)))
      (pss_cons (ps_asg (pe_op op_sub (pe_callB call_len_seq (by rfl) (f_len KX G c) (by decide +kernel) (pa_cons (pe_fld (pv 0) rfl) pa_nil)) (pe_int)) (pg_sub (pe_fld (pv 0) rfl) (pv 3) set_list))
      (pss_one (ps_ret (pe_op op_sub (pe_callB call_len_seq (by rfl) (f_len KX G c) (by decide +kernel) (pa_cons (pe_fld (pv 0) rfl) pa_nil)) (pe_int)))))))))
theorem sc_Wall_move : FnScope ["self", "parcel", "box"] ["self", "parcel", "box"] (defScope s_Wall_move) := ⟨rfl, rfl, rfl, by decide +kernel, rfl, by decide +kernel, by decide +kernel⟩
theorem ok_Wall_move {P : Program} {w : World} {base : Heap} {h : Heap} {mg : Str → Option Value} {K : PySem.W.Frag} (KX : K.In h) (G : h.Ns mainGlobals mg) (c : He.SaysD fa fn K) (xs : XS K xl) : OkF P w K mg base (L2.CX P w) 2 (He.fAd K d_Wall_move.at_) ["self", "parcel", "box"] (sp_Wall_move K) := by
  obtain ⟨fd, F⟩ := c.def_ 18 (d := d_Wall_move) rfl
  obtain ⟨fd_Wall_free, G_Wall_free, b_Wall_free, k_Wall_free⟩ := ok_Wall_free (P := P) (w := w) (base := base) KX G c xs
  obtain ⟨fd_Wall_see, G_Wall_see, b_Wall_see, k_Wall_see⟩ := ok_Wall_see (P := P) (w := w) (base := base) KX G c xs
  have nd := sc_Wall_move.nd
  refine ⟨fd, F.ok sc_Wall_move (len_Wall_move (K := K)) (fun cdv A outer s H vs Q E hr hsp => ⟨t_Wall_move K E, id ?_, pure_Wall_move (tW c) vs H Q E hsp⟩), F.bindsN (fun _ _ _ _ _ _ us hl => match us, hl with | [_, _, _], _ => rfl), F.kp⟩
  exact pss_cons (ps_expr (pe_meth (pv 0) (clW c) (m_Wall_see c) G_Wall_see (hr.mono (by decide : 1 ≤ 1)) b_Wall_see .nil (passes_call (takes_of rfl rfl rfl rfl) (fun _ _ _ _ h => h)) (pa_cons (pv 1) pa_nil)))
      (pss_cons (ps_if (PW.pt (pw_or (pt_cmpR op_notInN (pv 2) (pe_meth0 (pv 0) (clW c) (m_Wall_free c) G_Wall_free (hr.mono (by decide : 1 ≤ 1)) b_Wall_free .nil pass0 ) (by rfl)) (pw_or1 (pt_cmpR op_lt (pe_ix ix_list (pe_fld (pv 0) rfl) (pv 2) (fun _ _ => rfl)) (pe_ix ix_tup (pe_ix ix_list (pe_fld (pv 0) rfl) (pv 1) (fun _ _ => rfl)) (pe_int) (fun _ _ => rfl)) (nomark _)))))
        (pss_one (ps_raise rfl (takes_of rfl rfl rfl rfl) (pmk_own PySem.F.excBase_ValueError (x_NoBox c).1 (g_NoBox KX G c) (x_NoBox c).2.1 (raises_own (x_NoBox c).2.2.1 (x_NoBox c).2.2.2) (by exact rfl))))
        (pss_nil))
      (pss_cons (ps_asg (pe_non) (pg_sub (pe_fld (pv 0) rfl) (pe_bm PySem.F.plainAttrs_list PySem.F.slot_list_index PySem.F.type_list_index mt_index (pe_fld (pv 0) rfl) (pa_cons (pv 1) pa_nil)) set_list))
      (pss_one (ps_asg (pv 1) (pg_sub (pe_fld (pv 0) rfl) (pv 2) set_list)))))
theorem sc_law_side_of : FnScope ["sizes", "inside", "side", "held", "boxes", "box", "number", "size"] ["sizes", "inside"] (defScope s_law_side_of) := ⟨rfl, rfl, rfl, by decide +kernel, rfl, by decide +kernel, by decide +kernel⟩
theorem ok_law_side_of {P : Program} {w : World} {base : Heap} {h : Heap} {mg : Str → Option Value} {K : PySem.W.Frag} (KX : K.In h) (G : h.Ns mainGlobals mg) (c : He.SaysD fa fn K) (xs : XS K xl) : OkF P w K mg base CX0 4 (He.fAd K d_law_side_of.at_) ["sizes", "inside"] (sp_law_side_of K) := by
  obtain ⟨fd, F⟩ := c.def_ 19 (d := d_law_side_of) rfl
  obtain ⟨fd_Wall_held, G_Wall_held, b_Wall_held, k_Wall_held⟩ := ok_Wall_held (P := P) (w := w) (base := base) KX G c xs
  obtain ⟨fd_Wall_move, G_Wall_move, b_Wall_move, k_Wall_move⟩ := ok_Wall_move (P := P) (w := w) (base := base) KX G c xs
  obtain ⟨fd_Wall_come, G_Wall_come, b_Wall_come, k_Wall_come⟩ := ok_Wall_come (P := P) (w := w) (base := base) KX G c xs
  obtain ⟨fd_Wall_fetch, G_Wall_fetch, b_Wall_fetch, k_Wall_fetch⟩ := ok_Wall_fetch (P := P) (w := w) (base := base) KX G c xs
  obtain ⟨fd_Wall_init, G_Wall_init, b_Wall_init, k_Wall_init⟩ := ok_Wall_init (P := P) (w := w) (base := base) KX G c xs
  have nd := sc_law_side_of.nd
  refine ⟨fd, F.ok sc_law_side_of (len_law_side_of (K := K)) (fun cdv A outer s H vs Q E hr hsp => ⟨t_law_side_of K E, PSs.nox ?_, pure_law_side_of (tW c) vs H Q E hsp⟩), F.bindsN (fun _ _ _ _ _ _ us hl => match us, hl with | [_, _], _ => rfl), F.kp⟩
  exact pss_cons (ps_set (i := 2) nd rfl (Or.inl rfl) (pe_make (mkW c) G_Wall_init (hr.mono (by decide : 3 ≤ 3)) rfl (g_Wall KX G c) b_Wall_init .nil passL (pa_cons (pv 0) pa_nil)))
      (pss_cons (ps_expr (pe_meth (pv 2) (clW c) (m_Wall_fetch c) G_Wall_fetch (hr.mono (by decide : 2 ≤ 3)) b_Wall_fetch .nil passL (pa_cons (pe_meth (pv 2) (clW c) (m_Wall_come c) G_Wall_come (hr.mono (by decide : 2 ≤ 3)) b_Wall_come .nil passL (pa_cons (pe_int) (pa_cons (pe_int) pa_nil))) pa_nil)))
      (pss_cons (ps_setLc (i := 3) (own := [("size", 7)]) (g := gName 7) rfl nd rfl rfl (sw_true rfl rfl rfl (by decide +kernel)) (pi_list (pv 0)) (blkOk_by (N := ["sizes", "inside", "side", "held", "boxes", "box", "number", "size"]) (sc := defScope s_law_side_of) (by decide +kernel)) (fun _ _ _ _ _ => pg_name (i := 7) nd rfl (Or.inl rfl)) (fun _ _ _ _ _ => pts_nil) (fun _ _ _ _ _ => pe_non))
      (pss_cons (ps_set (i := 4) nd rfl (Or.inl rfl) (pe_listRg rfl (by rfl) (f_list KX G c) (prg_1 (by rfl) (f_range KX G c) (pe_callB call_len_seq (by rfl) (f_len KX G c) (by decide +kernel) (pa_cons (pv 0) pa_nil)))))
      (pss_cutP (ps_if (pt_cmpR op_eq (pe_op op_mod (pe_ix ix_list (pv 0) (pe_int) (fun _ _ => rfl)) (pe_int)) (pe_int) (nomark _))
        (pss_one (ps_expr (pe_bm0 PySem.F.plainAttrs_list PySem.F.slot_list_reverse PySem.F.type_list_reverse mt_reverse (pv 4))))
        (pss_nil))
      (pss_cons (ps_forP (PassesOwn.never) rfl (pi_list (pv 4)) (pg_name (i := 5) nd rfl (Or.inl rfl))
        (pss_one (ps_if (pt_cmpR op_notN (pe_ix ix_list (pv 1) (pv 5) (fun _ _ => rfl)) (pe_non) (nomark _))
        (pss_cons (ps_set (i := 6) nd rfl (Or.inl rfl) (pe_meth (pv 2) (clW c) (m_Wall_come c) G_Wall_come (hr.mono (by decide : 2 ≤ 3)) b_Wall_come .nil passL (pa_cons (pe_ix ix_list (pv 1) (pv 5) (fun _ _ => rfl)) (pa_cons (pe_int) pa_nil))))
      (pss_cutP (ps_if (pt_cmpR op_ne (pe_bm PySem.F.plainAttrs_list PySem.F.slot_list_index PySem.F.type_list_index mt_index (pe_meth0 (pv 2) (clW c) (m_Wall_held c) G_Wall_held (hr.mono (by decide : 1 ≤ 3)) b_Wall_held .nil pass0 ) (pa_cons (pv 6) pa_nil)) (pv 5) (nomark _))
        (pss_one (ps_expr (pe_meth (pv 2) (clW c) (m_Wall_move c) G_Wall_move (hr.mono (by decide : 2 ≤ 3)) b_Wall_move .nil passL (pa_cons (pv 6) (pa_cons (pv 5) pa_nil)))))
        (pss_nil))
      (pss_one (ps_asg (pv 6) (pg_sub (pv 3) (pv 5) set_list)))))
        (pss_nil))))
      (pss_one (ps_ret (pe_tup (pa_cons (pv 2) (pa_cons (pv 3) pa_nil))))))))))
theorem sc_law_k10 : FnScope ["script", "sizes", "inside", "size", "row", "found", "due", "k"] ["script"] (defScope s_law_k10) := ⟨rfl, rfl, rfl, by decide +kernel, rfl, by decide +kernel, by decide +kernel⟩
theorem ok_law_k10 {P : Program} {w : World} {base : Heap} {h : Heap} {mg : Str → Option Value} {K : PySem.W.Frag} (KX : K.In h) (G : h.Ns mainGlobals mg) (c : He.SaysD fa fn K) (xs : XS K xl) {fd : FuncData} (F : FunD K d_law_k10.name d_law_k10.qual d_law_k10.params d_law_k10.body d_law_k10.scope [] [] (He.fAd K d_law_k10.at_) fd) : FnOk P w K mg base CX0 5 (He.fAd K d_law_k10.at_) fd ["script"] (sp_law_k10 K) := by
  obtain ⟨fd_law_steps, G_law_steps, b_law_steps, k_law_steps⟩ := ok_law_steps (P := P) (w := w) (base := base) KX G c xs
  obtain ⟨fd_room_for_k10, G_room_for_k10, b_room_for_k10, k_room_for_k10⟩ := ok_room_for_k10 (P := P) (w := w) (base := base) KX G c xs
  obtain ⟨fd_law_side_of, G_law_side_of, b_law_side_of, k_law_side_of⟩ := ok_law_side_of (P := P) (w := w) (base := base) KX G c xs
  obtain ⟨fd_law_drawn, G_law_drawn, b_law_drawn, k_law_drawn⟩ := ok_law_drawn (P := P) (w := w) (base := base) KX G c xs
  obtain ⟨fd_law_filled_by, G_law_filled_by, b_law_filled_by, k_law_filled_by⟩ := ok_law_filled_by (P := P) (w := w) (base := base) KX G c xs
  obtain ⟨fd_law_sizes_by, G_law_sizes_by, b_law_sizes_by, k_law_sizes_by⟩ := ok_law_sizes_by (P := P) (w := w) (base := base) KX G c xs
  have nd := sc_law_k10.nd
  refine F.ok sc_law_k10 (len_law_k10 (K := K)) (fun cdv A outer s H vs Q E hr hsp => ⟨t_law_k10 K E, PSs.nox ?_, pure_law_k10 (tW c) vs H Q E hsp⟩)
  exact pss_cons (ps_set (i := 1) nd rfl (Or.inl rfl) (pe_slice sl_list (pe_call G_law_sizes_by (hr.mono (by decide : 2 ≤ 4)) rfl (g_law_sizes_by KX G c) k_law_sizes_by b_law_sizes_by .nil pass0 (pa_cons (pv 0) (pa_cons (pe_int) pa_nil))) po_none (po_some (pe_int))))
      (pss_cons (ps_set (i := 2) nd rfl (Or.inl rfl) (pe_call G_law_filled_by (hr.mono (by decide : 2 ≤ 4)) rfl (g_law_filled_by KX G c) k_law_filled_by b_law_filled_by .nil pass0 (pa_cons (pv 0) (pa_cons (pe_int) (pa_cons (pv 1) pa_nil)))))
      (pss_cons (ps_set (i := 3) nd rfl (Or.inl rfl) (pe_op op_add (pe_int) (pe_call G_law_drawn (hr.mono (by decide : 1 ≤ 4)) rfl (g_law_drawn KX G c) k_law_drawn b_law_drawn .nil pass0 (pa_cons (pv 0) (pa_cons (pe_int) (pa_cons (pe_int) pa_nil))))))
      (pss_cons (ps_set (i := 4) nd rfl (Or.inl rfl) (pe_cmpR op_eq (pe_call G_law_drawn (hr.mono (by decide : 1 ≤ 4)) rfl (g_law_drawn KX G c) k_law_drawn b_law_drawn .nil pass0 (pa_cons (pv 0) (pa_cons (pe_int) (pa_cons (pe_int) pa_nil)))) (pe_int) (nomark _)))
      (pss_cutP (ps_if (pt_val (pv 4))
        (pss_cons (ps_setLc (i := 1) (own := [("k", 7)]) (g := gName 7) rfl nd rfl rfl (sw_true rfl rfl rfl (by decide +kernel)) (pi_range1 rfl (f_range KX G c) (pa_cons (pe_op op_add (pe_int) (pe_call G_law_drawn (hr.mono (by decide : 1 ≤ 4)) rfl (g_law_drawn KX G c) k_law_drawn b_law_drawn .nil pass0 (pa_cons (pv 0) (pa_cons (pe_int) (pa_cons (pe_int) pa_nil))))) pa_nil)) (blkOk_by (N := ["script", "sizes", "inside", "size", "row", "found", "due", "k"]) (sc := defScope s_law_k10) (by decide +kernel)) (fun _ _ _ _ _ => pg_name (i := 7) nd rfl (Or.inl rfl)) (fun _ _ _ _ _ => pts_nil) (fun _ _ _ _ _ => pe_op op_add (pe_int) (pv 7)))
      (pss_cons (ps_set (i := 2) nd rfl (Or.inl rfl) (pe_op op_cat (pe_lst (pa_cons (pe_non) pa_nil)) (pe_lc (own := [("k", 7)]) (g := gName 7) rfl nd (pi_range1 rfl (f_range KX G c) (pa_cons (pe_op op_sub (pe_callB call_len_seq (by rfl) (f_len KX G c) (by decide +kernel) (pa_cons (pv 1) pa_nil)) (pe_int)) pa_nil)) (blkOk_by (N := ["script", "sizes", "inside", "size", "row", "found", "due", "k"]) (sc := defScope s_law_k10) (by decide +kernel)) (fun _ _ _ _ _ => pg_name (i := 7) nd rfl (Or.inl rfl)) (fun _ _ _ _ _ => pts_nil) (fun _ _ _ _ _ => pe_op op_add (pe_int) (pv 7)))))
      (pss_one (ps_set (i := 3) nd rfl (Or.inl rfl) (pe_ix ix_list (pv 1) (pe_un un_neg (pe_int)) (fun _ _ => rfl))))))
        (pss_nil))
      (pss_cons (ps_set (i := 5) nd rfl (Or.inl rfl) (pe_call G_room_for_k10 (hr.mono (by decide : 4 ≤ 4)) rfl (g_room_for KX G c) k_room_for_k10 b_room_for_k10 .nil passL (pa_cons (pe_ix ix_tup (pe_call G_law_side_of (hr.mono (by decide : 4 ≤ 4)) rfl (g_law_side_of KX G c) k_law_side_of b_law_side_of .nil pass0 (pa_cons (pv 1) (pa_cons (pv 2) pa_nil))) (pe_int) (fun _ _ => rfl)) (pa_cons (pv 3) pa_nil))))
      (pss_cons (ps_set (i := 6) nd rfl (Or.inl rfl) (pe_op op_sub (pe_callB call_len_seq (by rfl) (f_len KX G c) (by decide +kernel) (pa_cons (pv 1) pa_nil)) (pe_int)))
      (pss_cons (ps_if (pt_not (pt_val (pv 4)))
        (pss_one (ps_set (i := 6) nd rfl (Or.inl rfl) (pe_call G_law_steps (hr.mono (by decide : 2 ≤ 4)) rfl (g_law_steps KX G c) k_law_steps b_law_steps .nil pass0 (pa_cons (pv 1) (pa_cons (pv 2) (pa_cons (pv 3) (pa_cons (pe_int) pa_nil)))))))
        (pss_nil))
      (pss_cons (ps_if (pt_cmpR op_eq (pe_ix ix_tup (pv 5) (pe_int) (fun _ _ => rfl)) (pe_str) (nomark _))
        (pss_one (ps_ret (pe_and (pe_cmpR op_isN (pv 6) (pe_non) (nomark _)) (pe_one (pe_not (pv 4))))))
        (pss_nil))
      (pss_one (ps_ret (pe_and (pe_cmpR op_eq (pe_ix ix_tup (pv 5) (pe_int) (fun _ _ => rfl)) (pe_str) (nomark _)) (pe_one (pe_cmpR op_eq (pe_callB call_len_seq (by rfl) (f_len KX G c) (by decide +kernel) (pa_cons (pe_ix ix_tup (pv 5) (pe_int) (fun _ _ => rfl)) pa_nil)) (pv 6) (nomark _))))))))))))))
def exb (K : PySem.W.Frag) : Bool := xsB K xl
abbrev hk : PySem.W.Hook := He.hookX 4 fa fn [] [] exb
def ob (s : PySem.W.SharedT) : He.AlX := He.obsX 4 fa fn [] [] exb (HandSHeadRun.getT s)
theorem ob_eq (s : PySem.W.SharedT) : ob s = hk.obs s.abs := He.obsX_eq (HandSHeadRun.getT_eq s)
theorem run (w : World) : HandSHeadRun.RunEq R (PySem.W.view R.prog [28]) hk ob 4000 ["_wall", "__name__", "WallError", "NoWall", "NoSize", "NoNights", "NoBox", "NoParcel", "MOST_BOXES", "MOST_SIZE", "is_size", "least_box", "Wall", "reach", "room_for", "_law_drawn", "_law_whole", "_law_row", "_law_rows", "_law_sizes_by", "_law_filled_by", "_law_side_of", "_law_ready", "_law_moved", "_law_steps"] w := by
  intro os
  kernel_rfl
theorem facts {P : Program} {w : World} {K : PySem.W.Frag} {h : Heap} {mg : Str → Option Value} {f : Addr} (KX : K.In h) (G : h.Ns mainGlobals mg) (hfa : mg ("law" : Str) = some (.ref f)) (c : He.SaysD fa fn K) (xs : XS K xl) :
    ∃ fd : FuncData, (∀ (s : Shared) (v : Value), BindsTo s fd ⟨[v], []⟩ [("script", v)]) ∧ ∀ base : Heap, K.In base → base.Ns mainGlobals mg → FnOk P w K mg base CX0 5 f fd ["script"] (sp_law_k10 K) := by
  obtain ⟨fd, F⟩ := c.def_ 20 (d := d_law_k10) rfl
  have e := hfa.symm.trans (g_law KX G c)
  cases e
  have b := FunD.bindsA (ps := ["script"]) F fun _ _ _ _ _ _ us hl => match us, hl with | [_], _ => rfl
  exact ⟨fd, fun s v => b s [v] rfl, fun base _ _ => ok_law_k10 KX G c xs F⟩
end Pw
open PySem PySem.W PySem.Calls PyProof.Rows
theorem PySem.Challenge.cw_parcelwall_k10_whole_the_fewest_moves_holds : PySem.Challenge.rw_parcelwall_k10_whole_the_fewest_moves.Holds := by
  w_on; o_law
  refine HandSHeadRun.head_any (r := OpenLaw.row PySem.Challenge.rw_parcelwall_k10_whole_the_fewest_moves) (q := view (OpenLaw.row PySem.Challenge.rw_parcelwall_k10_whole_the_fewest_moves).prog [28]) (H := Pw.hk) (ob := Pw.ob) (M := 4000) (loose := ["_wall", "__name__", "WallError", "NoWall", "NoSize", "NoNights", "NoBox", "NoParcel", "MOST_BOXES", "MOST_SIZE", "is_size", "least_box", "Wall", "reach", "room_for", "_law_drawn", "_law_whole", "_law_row", "_law_rows", "_law_sizes_by", "_law_filled_by", "_law_side_of", "_law_ready", "_law_moved", "_law_steps"]) (d := HandSHeadRun.topDef (OpenLaw.row PySem.Challenge.rw_parcelwall_k10_whole_the_fewest_moves).prog 28) (kwd := []) Pw.ob_eq
    (by kernel_rfl) (fun s => by kernel_rfl) Pw.run (by kernel_rfl) (by kernel_rfl) (by kernel_rfl) (by rfl) (by first | assumption | decide +kernel) (by decide +kernel) ⟨rfl, rfl, rfl, rfl, rfl, by decide +kernel⟩ ?hw ?hc
  case hw => w_witness2
  case hc =>
    refine L2.walk_ofE (l := PySem.Challenge.rw_parcelwall_k10_whole_the_fewest_moves) (n := 63) (k := 5) (x := "script") (CX := L2.CX0) rfl (by decide) (by kernel_rfl) ⟨rfl, by decide, by decide⟩ ?F (fun _ _ _ _ z => z)
    intro w mg fa h Y G hmg0
    obtain ⟨K, KX, sx⟩ := Y
    have hmg : mg ("law" : PySem.Str) = some (.ref fa) := by
      have e : (HandSHeadRun.topDef (OpenLaw.row PySem.Challenge.rw_parcelwall_k10_whole_the_fewest_moves).prog 28).name = ("law" : PySem.Str) := by kernel_rfl
      rw [← e]
      exact hmg0
    obtain ⟨fd, hb, hF⟩ := Pw.facts (P := (PySem.Challenge.rw_parcelwall_k10_whole_the_fewest_moves).prog) (w := w) KX G hmg sx.t.d ⟨sx.more⟩
    exact ⟨K, fd, Pw.sp_law_k10 K, KX, hb, fun H a ns hl _ hS => ⟨a, ns, rfl, hS, hl, fun _ => rfl⟩, hF⟩
