import PyProof.Rows.All
import Wide.All
import OpenK.AllK
import Wide.FinOn
import KE.KStateDown
import HandS.ForMost
import HandS.ForExc
import HandS.Defaults
import HandS.TryMany
import HandS.SortRule
import HandS.SortInts
import HandS.SetFor
import HandS.More
import HandS.IsInst
import HandS.ExcIs
import HandS.Zip
import HandS.Evl
import HandS.Head0
import HandS.Head1
import HandS.Head2
import HandS.HeadEnd
import HandS.HeadHook1
import HandS.HeadHook2
import HandS.HeadHook3
import HandS.HeadHook4
import HandS.Conv
import HandS.Walk
import HandS.Codes
import HandS.SuiteRaise
import KE.KMinKey
import HandS.Style
import HandS.Strs
import PySem.Challenge.RW_parcelwall_k06_whole_as_many_as_can_be
set_option Elab.async false
set_option linter.all false
set_option maxRecDepth 100000
set_option maxHeartbeats 4000000
open PySem PySem.Spec PyProof.Rows L2
namespace Pw
/-! ### readings by short names -/
abbrev rAddI : R2 := rI0 fun i j => .int (i + j)
abbrev rSubI : R2 := rI0 fun i j => .int (i - j)
abbrev rMulI : R2 := rI CMul fun i j => .int (i * j)
abbrev rModP : R2 := rI (fun _ j => 0 < j) fun i j => .int (i % j)
abbrev rModN : R2 := rI (fun _ j => j ≠ 0) fun i j => .int (i.fmod j)
abbrev rDivP : R2 := rI CDiv fun i j => .int (i / j)
abbrev rPow : R2 := rI CPow fun i j => .int (i ^ j.toNat)
abbrev rNeg : V → Hp → VK → Prop := rU fun i => .int (-i)
abbrev rLt : R2 := rI0 fun i j => .bl (decide (i < j))
abbrev rLe : R2 := rI0 fun i j => .bl (decide (i ≤ j))
abbrev rGt : R2 := rI0 fun i j => .bl (decide (j < i))
abbrev rGe : R2 := rI0 fun i j => .bl (decide (j ≤ i))
abbrev rAddS : R2 := fun x y H Q => ∃ i j, x = .str i ∧ y = .str j ∧ i.length + j.length ≤ sizeLine ∧ Q (.str (i ++ j)) H
abbrev rIsNone : R2 := fun x y H Q => y = .non ∧ Q (.bl (decide (x = .non))) H
abbrev rNotNone : R2 := fun x y H Q => y = .non ∧ Q (.bl (!decide (x = .non))) H
abbrev rInSign : R2 := fun x y H Q => ∃ (c : Nat) (z : Str), x = .str ⟨#[c]⟩ ∧ y = .str z ∧ Q (.bl (decide (c ∈ z.cps.toList))) H
abbrev rNotInSign : R2 := fun x y H Q => ∃ (c : Nat) (z : Str), x = .str ⟨#[c]⟩ ∧ y = .str z ∧ Q (.bl (!decide (c ∈ z.cps.toList))) H
abbrev rLenSeq (K : PySem.W.Frag) : List V → Hp → VK → Prop := fun xs H Q => ∃ p ys, xs = [.ref p] ∧ (SqL K H p ys ∨ SqT K H p ys) ∧ Q (.int ys.length) H
abbrev rListOf (K : PySem.W.Frag) : List V → Hp → VK → Prop := fun xs H Q => ∃ p ys, xs = [.ref p] ∧ (SqL K H p ys ∨ SqT K H p ys) ∧ ∀ l, H l = none → Q (.ref l) (upd H l (.lst ys))
abbrev rLenStr : List V → Hp → VK → Prop := fun xs H Q => ∃ z, xs = [.str z] ∧ z.length ≤ sizeLine ∧ Q (.int z.length) H
abbrev rMax2 : List V → Hp → VK → Prop := fun xs H Q => ∃ i j, xs = [.int i, .int j] ∧ Q (.int (if j > i then j else i)) H
abbrev rMin2 : List V → Hp → VK → Prop := fun xs H Q => ∃ i j, xs = [.int i, .int j] ∧ Q (.int (if j < i then j else i)) H
abbrev rInsert : V → List V → Hp → VK → Prop := fun x vs H Q => ∃ (l : Addr) (xs : List V) (i : Int) (y : V), x = .ref l ∧ vs = [.int i, y] ∧ H l = some (.lst xs) ∧ xs.length < sizeLine ∧ 0 ≤ i ∧ i < 2 ^ 63 ∧ Q .non (upd H l (.lst (xs.take i.toNat ++ [y] ++ xs.drop i.toNat)))
abbrev rStrInt : List V → Hp → VK → Prop := fun xs H Q => ∃ i, xs = [.int i] ∧ i.natAbs.log2 < 1920 ∧ Q (.str (toString i)) H
abbrev rIntStr : List V → Hp → VK → Prop := fun xs H Q => ∃ a n, xs = [.str a] ∧ PySem.intText? a = some n ∧ a.length ≤ 640 ∧ Q (.int n) H
abbrev rJoin (K : PySem.W.Frag) : V → List V → Hp → VK → Prop := fun x xs H Q => ∃ a p, ∃ ys : List Str, x = .str a ∧ xs = [.ref p] ∧ (SqL K H p (ys.map V.str) ∨ SqT K H p (ys.map V.str)) ∧ (ys.map (·.length)).sum + ys.length * a.length ≤ 16777216 ∧ Q (.str (Txt.join a ys)) H
abbrev tRaise (E : XK) (C : Addr) : TS := fun _ _ H => E (.ref C) none H
/-! ### rules: a method's call, an instance made, within a try -/
/-- o.m(e, ..) within a try: what it raises is wished for at the slots as they stand -/
def tMethS (C : Addr) (m : Str) (sp : Sp) (E : L2.St → XK) (ta : TE) (t : TA) : TE := fun σ H Q => ta σ H fun x H1 => ∃ a dx fs, x = .ref a ∧ H1 a = some (.ins C dx fs) ∧ fs.lookup m = none ∧ t σ H1 fun vs H2 => sp (x :: vs) H2 Q (E σ)
theorem pe_methS {X : Cx} {CX : CXT} {k : Nat} {f C : Addr} {fd : FuncData} {ps : List Str} {sp : Sp} {E : L2.St → XK} {m : Str} {pos apos : Pos} {e o : Expr} {es : List Expr} {ta : TE} {t : TA} {pl : Sem Bool} (he : PE X o ta) (c : Cls X.K C) (hm : Meth X.K C m f)
    (F : FnOk X.prog X.w X.K X.mg X.base CX k f fd ps sp) (hr : Room k X.A) (hb : Binds X.K fd ps []) (hx : ∀ σ, PassesAt CX X σ (E σ)) (ha : PA X (e :: es) t)
    (hst : starEach (e :: es) X.env = (false, eval e X.env) :: starEach es X.env := by rfl) (hpl : (backTo pos (starEach es X.env)).any (·.1) = false := by rfl)
    (ht : eval (.Call (.Attribute o m apos) (e :: es) [] pos) X.env = (do
      let ov ← eval o X.env
      standAt apos.atName
      let (f, first) ← holding [ov] (getMethod ov m pl)
      callWith pos f first (backTo pos (starEach (e :: es) X.env)) (backToKw pos (keywordEach [] X.env))) := by rfl) :
    PE X (.Call (.Attribute o m apos) (e :: es) [] pos) (tMethS C m sp E ta t) := by
  refine ⟨fun pins s σ H Q I h => ?_⟩
  refine PySem.W.methodCall_KW (pl := pl) (thn (he.run pins s σ H _ I h) fun u s1 ⟨x, H1, I1, rx, a, dx, fs, ex, ea, l, q⟩ => ?_) ht
  subst ex
  obtain rfl : u = Value.ref a := rx
  refine getmeth_ok I1 ea c hm l ?_
  refine PySem.W.callWith_K (first := [.ref a]) (h₀ := X.base) I.ok.mod.kin hm.kp (thn (ha.run pos pins s1 σ H1 _ I1 q) fun us s2 ⟨vs, H2, I2, r, q2⟩ => ⟨I2.kIn, ?_⟩) hst hpl
  exact run_fnS (us := .ref a :: us) (vs := .ref a :: vs) F hr hb (hx σ) I2 (.cons rfl r) q2
/-! ### small words -/
theorem ifD {c A B : Prop} [Decidable c] (h1 : c → A) (h2 : ¬ c → B) : if decide c = true then A else B := by
  by_cases h : c
  · rw [decide_eq_true h, if_pos rfl]; exact h1 h
  · rw [decide_eq_false h, if_neg Bool.false_ne_true]; exact h2 h
theorem ifN {c A B : Prop} [Decidable c] (h1 : ¬ c → A) (h2 : c → B) : if (!decide c) = true then A else B := by
  by_cases h : c
  · rw [decide_eq_true h]; exact iteF (h2 h)
  · rw [decide_eq_false h]; exact iteT (h1 h)
theorem ifB {b : Bool} {A B : Prop} (h1 : b = true → A) (h2 : b = false → B) : if b = true then A else B := by
  cases b with
  | true => exact iteT (h1 rfl)
  | false => exact iteF (h2 rfl)
theorem ifNB {b : Bool} {A B : Prop} (h1 : b = false → A) (h2 : b = true → B) : if (!b) = true then A else B := by
  cases b with
  | true => exact iteF (h2 rfl)
  | false => exact iteT (h1 rfl)
theorem ifIs {b : Bool} {A B : Prop} (h : b = true) (a : A) : if b = true then A else B := by rw [h]; exact iteT a
theorem ifNo {b : Bool} {A B : Prop} (h : b = false) (a : B) : if b = true then A else B := by rw [h]; exact iteF a
/-! ### heaps -/
theorem updOld {H : Hp} {a p : Addr} {o u : HO} (h : H a = some o) (hp : H p = none) : upd H p u a = some o := by rw [upd_ne (ne_of_none h hp)]; exact h
theorem updNe {H : Hp} {a p : Addr} {o u : HO} (h : H a = some o) (hp : a ≠ p) : upd H p u a = some o := by rw [upd_ne hp]; exact h
theorem updFree {H : Hp} {p q : Addr} {o : HO} (h : upd H p o q = none) : H q = none := by
  by_cases e : q = p
  · subst e; rw [upd_same] at h; cases h
  · rw [upd_ne e] at h; exact h
theorem updFreeNe {H : Hp} {p q : Addr} {o : HO} (h : upd H p o q = none) : q ≠ p := fun e => by
  subst e; rw [upd_same] at h; cases h
theorem sameNew {H0 H : Hp} {p : Addr} {o : HO} (s : Same H0 H) (hp : H p = none) : Same H0 (upd H p o) := fun b u e => updOld (s b u e) hp
theorem sameMut {H0 H : Hp} {p : Addr} {o : HO} (s : Same H0 H) (hp : H0 p = none) : Same H0 (upd H p o) := fun b u e => by
  rw [upd_ne (ne_of_none e hp)]; exact s b u e
theorem sameGet {H H' : Hp} {a : Addr} {o : HO} (s : Same H H') (h : H a = some o) : H' a = some o := s a o h
/-! ### places in a list -/
theorem atI_of {xs : List V} {z : Int} {j : Nat} {v : V} (e : z = (j : Int)) (h : xs[j]? = some v) : atI xs z = some v := at_of e h
theorem mapGet {α : Type} {f : α → V} {xs : List α} {i : Nat} {v : V} (h : (xs.map f)[i]? = some v) : ∃ x, xs[i]? = some x ∧ v = f x := by
  rw [List.getElem?_map] at h
  cases e : xs[i]? with
  | none => rw [e] at h; cases h
  | some x => rw [e] at h; exact ⟨x, rfl, (Option.some.inj h).symm⟩
theorem getMap {α : Type} {f : α → V} {xs : List α} {i : Nat} {x : α} (h : xs[i]? = some x) : (xs.map f)[i]? = some (f x) := by
  rw [List.getElem?_map, h]; rfl
theorem atMap {α : Type} {f : α → V} {xs : List α} (d : α) {z : Int} (h0 : 0 ≤ z) (h1 : z < xs.length) : atI (xs.map f) z = some (f (xs.getD z.toNat d)) := by
  obtain ⟨x, hx⟩ : ∃ x, xs[z.toNat]? = some x := ⟨xs[z.toNat]'(by omega), List.getElem?_eq_getElem (by omega)⟩
  have e : xs.getD z.toNat d = x := by rw [List.getD_eq_getElem?_getD, hx]; rfl
  rw [e]
  exact at_of (j := z.toNat) (by omega) (getMap hx)
theorem atInt {xs : List Int} {z : Int} (h0 : 0 ≤ z) (h1 : z < xs.length) : atI (xs.map V.int) z = some (V.int (xs.getD z.toNat 0)) := atMap 0 h0 h1
theorem takeMore {α : Type} : ∀ {l : List α} {i : Nat} {x : α}, l[i]? = some x → l.take (i + 1) = l.take i ++ [x]
  | [], i, x, h => by simp at h
  | a :: l, 0, x, h => by
    have e : a = x := Option.some.inj h
    subst e; rfl
  | a :: l, i + 1, x, h => by
    have ih := takeMore (l := l) (i := i) (x := x) h
    show a :: l.take (i + 1) = a :: l.take i ++ [x]
    rw [ih]; rfl
theorem szLe {n : Nat} (h : n ≤ 100000) : n ≤ sizeLine := Nat.le_trans h (by decide)
theorem szLt {n : Nat} (h : n < 100000) : n < sizeLine := Nat.lt_of_lt_of_le h (by decide)
theorem getLt {α : Type} {xs : List α} {i : Nat} {x : α} (h : xs[i]? = some x) : i < xs.length := (List.getElem?_eq_some_iff.mp h).1
theorem getOf {α : Type} {xs : List α} {i : Nat} (h : i < xs.length) : ∃ x, xs[i]? = some x := ⟨xs[i], List.getElem?_eq_getElem h⟩
/-! ### a def of the text that holds its promise -/
def OkF (P : Program) (w : World) (K : PySem.W.Frag) (mg : Str → Option Value) (base : Heap) (CX : CXT) (k : Nat) (f : Addr) (ps : List Str) (sp : Sp) : Prop :=
  ∃ fd : FuncData, FnOk P w K mg base CX k f fd ps sp ∧ Binds K fd ps [] ∧ PySem.W.keepIn K (.ref f) = true
end Pw
namespace Pw
/-! ### the wall's class -/
structure TW (K : PySem.W.Frag) : Prop where
  cl : Cls K (He.ga K "Wall")
  nb : NoAttr K (He.ga K "Wall") "boxes"
  ni : NoAttr K (He.ga K "Wall") "inside"
  np : NoAttr K (He.ga K "Wall") "parcels"
  nt : NoAttr K (He.ga K "Wall") "today"
end Pw
namespace Pw
/-! ### loops behind a word that does not open by itself -/
@[irreducible] def ForG (J : It) (g : TG) (tb : TS) (D : Ends) (σ : L2.St) (H1 : Hp) : Prop := ∃ W : Nat → Nat → L2.St → Hp → Prop, (∃ m, W 0 m σ H1) ∧ ∀ i m σ H, W i m σ H →
  (J.stop i H ∧ D.nx σ H) ∨ (J.go i H ∧ ∃ N : L2.St → Hp → Prop, (∀ σ' H', N σ' H' → ∃ m', m' < m ∧ W (i + 1) m' σ' H') ∧ ∀ x H', J.yld i H x H' → g x σ H' fun σ2 H2 => tb { D with nx := N, ct := N, bk := D.nx } σ2 H2)
def tForP (wi : TI) (g : TG) (tb : TS) : TS := fun D σ H => wi σ H fun J H1 => ForG J g tb D σ H1
theorem tForP_eq (wi : TI) (g : TG) (tb : TS) : tForP wi g tb = tFor wi g tb := by
  funext D σ H
  unfold tForP tFor ForG
  rfl
theorem ps_forP {X : Cx} {tg iter : Expr} {body : List Stmt} {wi : TI} {g : TG} {tb : TS} {pos : Pos} (hp : PassesOwn (model X.prog X.w) X.A X.env X.xe) (hc : X.calm = true) (hi : PI X tg iter wi) (hg : PG X tg g) (hb : PSs X body tb)
    (hs : ∀ x, foldedSetIterable iter X.env x = pure x := by intro _; rfl) : PS X (.For tg iter body [] pos) (tForP wi g tb) := by
  rw [tForP_eq]
  exact ps_for hp hc hi hg hb hs
@[irreducible] def WhileG (tc : TT) (tb : TS) (D : Ends) (σ : L2.St) (H : Hp) : Prop := tWhile tc tb D σ H
def tWhileP (tc : TT) (tb : TS) : TS := fun D σ H => WhileG tc tb D σ H
theorem tWhileP_eq (tc : TT) (tb : TS) : tWhileP tc tb = tWhile tc tb := by
  funext D σ H
  unfold tWhileP WhileG
  rfl
theorem ps_whileP {X : Cx} {pos : Pos} {c : Expr} {body : List Stmt} {tc : TT} {tb : TS} (hp : PassesOwn (model X.prog X.w) X.A X.env X.xe) (hc : PT X c tc) (hb : PSs X body tb) : PS X (.While c body [] pos) (tWhileP tc tb) := by
  rw [tWhileP_eq]
  exact ps_while hp hc hb
section
variable {K : PySem.W.Frag} {g : TG} {tb : TS} {D : Ends} {σ : L2.St} {H : Hp}
theorem forList {a : Addr} {xs : List V} (Pv : Nat → L2.St → Hp → Prop) (h0 : Pv 0 σ H) (hl : ∀ i σ H, i ≤ xs.length → Pv i σ H → SqL K H a xs)
    (hs : ∀ i x σ H, xs[i]? = some x → Pv i σ H → g x σ H fun σ2 H2 => tb { D with nx := Pv (i + 1), ct := Pv (i + 1), bk := D.nx } σ2 H2) (hd : ∀ σ H, Pv xs.length σ H → D.nx σ H) : ForG (Itl K a) g tb D σ H := by
  unfold ForG
  exact for_list Pv h0 hl hs hd
theorem forTup {a : Addr} {xs : List V} (Pv : Nat → L2.St → Hp → Prop) (h0 : Pv 0 σ H) (hl : ∀ i σ H, i ≤ xs.length → Pv i σ H → SqT K H a xs)
    (hs : ∀ i x σ H, xs[i]? = some x → Pv i σ H → g x σ H fun σ2 H2 => tb { D with nx := Pv (i + 1), ct := Pv (i + 1), bk := D.nx } σ2 H2) (hd : ∀ σ H, Pv xs.length σ H → D.nx σ H) : ForG (Itt K a) g tb D σ H := by
  unfold ForG
  exact for_tup Pv h0 hl hs hd
theorem forRange {lo : Int} {n : Nat} (Pv : Nat → L2.St → Hp → Prop) (h0 : Pv 0 σ H)
    (hs : ∀ i σ H, i < n → Pv i σ H → g (.int (lo + i)) σ H fun σ2 H2 => tb { D with nx := Pv (i + 1), ct := Pv (i + 1), bk := D.nx } σ2 H2) (hd : ∀ σ H, Pv n σ H → D.nx σ H) : ForG (Itr lo n) g tb D σ H := by
  unfold ForG
  exact for_range Pv h0 hs hd
end
/-! ### comprehensions whose elements are known values -/
section
variable {K : PySem.W.Frag} {tt : TT} {te : TE} {vs : List Nat} {j : Nat} {σ : L2.St} {H1 : Hp} {D : Addr} {Qd : Hp → Prop}
theorem filterTake {α β : Type} {ns : List α} {p : α → Bool} {f : α → β} {i : Nat} {n : α} (h : ns[i]? = some n) : ((ns.take (i + 1)).filter p).map f = ((ns.take i).filter p).map f ++ (if p n = true then [f n] else []) := by
  rw [takeMore h, List.filter_append, List.map_append]
  congr 1
  by_cases c : p n = true
  · rw [if_pos c]; simp [c]
  · rw [if_neg c]; simp [c]
/-- [f(n) for n in ns if p(n)] -/
theorem lcMap {α : Type} {inj : α → V} {a : Addr} {ns : List α} (p : α → Bool) (f : α → V) (hD : H1 D = none) (hx : SqL K H1 a (ns.map inj)) (hlen : ns.length ≤ 50000) (hw : ∀ x, wipe ((wipe σ vs).set j (some x)) vs = wipe σ vs)
    (ht : ∀ (i : Nat) (n : α) H', ns[i]? = some n → Same H1 H' → ∀ T : Bool → Hp → Prop, (∀ H'', Same H' H'' → T (p n) H'') → tt ((wipe σ vs).set j (some (inj n))) H' T)
    (he : ∀ (i : Nat) (n : α) H', ns[i]? = some n → p n = true → Same H1 H' → ∀ Qv : VK, (∀ H'', Same H' H'' → Qv (f n) H'') → te ((wipe σ vs).set j (some (inj n))) H' Qv)
    (hd : ∀ H', Same H1 H' → H' D = some (.lst ((ns.filter p).map f)) → Qd H') :
    ∃ W : Nat → Nat → Hp → Prop, (∃ m, W 0 m (upd H1 D (.lst []))) ∧ ∀ i m H, W i m H →
      ((Itl K a).stop i H ∧ Qd H) ∨ ((Itl K a).go i H ∧ ∃ Nx : Hp → Prop, (∀ H', Nx H' → ∃ m', m' < m ∧ W (i + 1) m' H') ∧ ∀ x H', (Itl K a).yld i H x H' → gName j x (wipe σ vs) H' fun σ2 H2 => wipe σ2 vs = wipe σ vs ∧ tt σ2 H2 fun b H3 =>
        if b = true then te σ2 H3 fun y H4 => ∃ acc, H4 D = some (.lst acc) ∧ acc.length < sizeLine ∧ Nx (upd H4 D (.lst (acc ++ [y]))) else Nx H3) := by
  refine lc_list (K := K) (a := a) (xs := ns.map inj) (fun i H' => Same H1 H' ∧ H' D = some (.lst (((ns.take i).filter p).map f))) ⟨sameNew (Same.refl _) hD, upd_same⟩ (fun i H' _ q => q.1.seq hx) ?_ ?_
  · rintro i x H' hi ⟨s, hD'⟩
    obtain ⟨n, hn, rfl⟩ := mapGet hi
    refine ⟨hw _, ?_⟩
    refine ht i n H' hn s _ fun H3 s3 => ?_
    have e := filterTake (p := p) (f := f) hn
    refine ifB (fun c => ?_) (fun c => ?_)
    · refine he i n H3 hn c (s.trans s3) _ fun H4 s4 => ?_
      rw [if_pos c] at e
      refine ⟨_, s4 _ _ (s3 _ _ hD'), ?_, sameMut (s.trans (s3.trans s4)) hD, ?_⟩
      · have q1 : (((ns.take i).filter p).map f).length ≤ ns.length := by
          rw [List.length_map]
          exact Nat.le_trans (List.length_filter_le _ _) (by rw [List.length_take]; omega)
        exact szLt (by omega)
      · rw [e]; exact upd_same
    · rw [if_neg (by rw [c]; exact Bool.false_ne_true), List.append_nil] at e
      refine ⟨s.trans s3, ?_⟩
      rw [e]; exact s3 _ _ hD'
  · rintro H' ⟨s, hD'⟩
    rw [List.length_map, List.take_length] at hD'
    exact hd H' s hD'
/-- [f(i) for i in range(n) if p(i)] -/
theorem lcRng {lo : Int} {n : Nat} (p : Nat → Bool) (f : Nat → V) (hD : H1 D = none) (hlen : n ≤ 50000) (hw : ∀ x, wipe ((wipe σ vs).set j (some x)) vs = wipe σ vs)
    (ht : ∀ (i : Nat) H', i < n → Same H1 H' → ∀ T : Bool → Hp → Prop, (∀ H'', Same H' H'' → T (p i) H'') → tt ((wipe σ vs).set j (some (.int (lo + i)))) H' T)
    (he : ∀ (i : Nat) H', i < n → p i = true → Same H1 H' → ∀ Qv : VK, (∀ H'', Same H' H'' → Qv (f i) H'') → te ((wipe σ vs).set j (some (.int (lo + i)))) H' Qv)
    (hd : ∀ H', Same H1 H' → H' D = some (.lst (((List.range n).filter p).map f)) → Qd H') :
    ∃ W : Nat → Nat → Hp → Prop, (∃ m, W 0 m (upd H1 D (.lst []))) ∧ ∀ i m H, W i m H →
      ((Itr lo n).stop i H ∧ Qd H) ∨ ((Itr lo n).go i H ∧ ∃ Nx : Hp → Prop, (∀ H', Nx H' → ∃ m', m' < m ∧ W (i + 1) m' H') ∧ ∀ x H', (Itr lo n).yld i H x H' → gName j x (wipe σ vs) H' fun σ2 H2 => wipe σ2 vs = wipe σ vs ∧ tt σ2 H2 fun b H3 =>
        if b = true then te σ2 H3 fun y H4 => ∃ acc, H4 D = some (.lst acc) ∧ acc.length < sizeLine ∧ Nx (upd H4 D (.lst (acc ++ [y]))) else Nx H3) := by
  refine lc_range (lo := lo) (n := n) (fun i H' => Same H1 H' ∧ H' D = some (.lst (((List.range i).filter p).map f))) ⟨sameNew (Same.refl _) hD, upd_same⟩ ?_ ?_
  · rintro i H' hi ⟨s, hD'⟩
    refine ⟨hw _, ?_⟩
    refine ht i H' hi s _ fun H3 s3 => ?_
    have e : ((List.range (i + 1)).filter p).map f = ((List.range i).filter p).map f ++ (if p i = true then [f i] else []) := by
      rw [List.range_succ, List.filter_append, List.map_append]
      congr 1
      by_cases c : p i = true
      · rw [if_pos c]; simp [c]
      · rw [if_neg c]; simp [c]
    refine ifB (fun c => ?_) (fun c => ?_)
    · refine he i H3 hi c (s.trans s3) _ fun H4 s4 => ?_
      rw [if_pos c] at e
      refine ⟨_, s4 _ _ (s3 _ _ hD'), ?_, sameMut (s.trans (s3.trans s4)) hD, ?_⟩
      · have q1 : (((List.range i).filter p).map f).length ≤ i := by
          rw [List.length_map]
          exact Nat.le_trans (List.length_filter_le _ _) (by rw [List.length_range]; omega)
        exact szLt (by omega)
      · rw [e]; exact upd_same
    · rw [if_neg (by rw [c]; exact Bool.false_ne_true), List.append_nil] at e
      refine ⟨s.trans s3, ?_⟩
      rw [e]; exact s3 _ _ hD'
  · rintro H' ⟨s, hD'⟩
    exact hd H' s hD'
end
theorem filterAll {α : Type} (l : List α) : l.filter (fun _ => true) = l := by simp
/-- a new list is handed back -/
def RetNew (H : Hp) (Q : VK) (xs : List V) : Prop := ∀ H' p, Same H H' → H p = none → H' p = some (.lst xs) → Q (.ref p) H'
theorem RetNew.go {H H1 H' : Hp} {Q : VK} {xs : List V} {p : Addr} (k : RetNew H Q xs) (s : Same H H1) (s1 : Same H1 H') (hp : H1 p = none) (h : H' p = some (.lst xs)) : Q (.ref p) H' := k H' p (s.trans s1) (s.free hp) h
/-! ### the wall in the heap -/
def wf (l1 l2 l3 : Addr) (d : Int) : List (Str × V) := [("boxes", .ref l1), ("inside", .ref l2), ("parcels", .ref l3), ("today", .int d)]
theorem lk_here {k : Str} {v : V} {r : List (Str × V)} : List.lookup k ((k, v) :: r) = some v := by
  have e : (k == k) = true := beq_self_eq_true k
  simp only [List.lookup, e]
theorem lk_past {k g : Str} {v : V} {r : List (Str × V)} (h : (k == g) = false) : List.lookup k ((g, v) :: r) = List.lookup k r := by
  simp only [List.lookup, h]
theorem put_here {f : Str} {v x : V} {r : List (Str × V)} : putF f v ((f, x) :: r) = (f, v) :: r := if_pos rfl
theorem put_past {f g : Str} {v x : V} {r : List (Str × V)} (h : ¬ g = f) : putF f v ((g, x) :: r) = (g, x) :: putF f v r := if_neg h
section
variable {l1 l2 l3 : Addr} {d y : Int}
theorem wf_boxes : (wf l1 l2 l3 d).lookup ("boxes" : Str) = some (.ref l1) := lk_here
theorem wf_inside : (wf l1 l2 l3 d).lookup ("inside" : Str) = some (.ref l2) := (lk_past (by decide +kernel)).trans lk_here
theorem wf_parcels : (wf l1 l2 l3 d).lookup ("parcels" : Str) = some (.ref l3) := (lk_past (by decide +kernel)).trans ((lk_past (by decide +kernel)).trans lk_here)
theorem wf_today : (wf l1 l2 l3 d).lookup ("today" : Str) = some (.int d) := (lk_past (by decide +kernel)).trans ((lk_past (by decide +kernel)).trans ((lk_past (by decide +kernel)).trans lk_here))
theorem wf_none {m : Str} (h1 : (m == ("boxes" : Str)) = false) (h2 : (m == ("inside" : Str)) = false) (h3 : (m == ("parcels" : Str)) = false) (h4 : (m == ("today" : Str)) = false) : (wf l1 l2 l3 d).lookup m = none :=
  (lk_past h1).trans ((lk_past h2).trans ((lk_past h3).trans ((lk_past h4).trans rfl)))
theorem wf_sizes : (wf l1 l2 l3 d).lookup ("sizes" : Str) = none := wf_none (by decide +kernel) (by decide +kernel) (by decide +kernel) (by decide +kernel)
theorem wf_held : (wf l1 l2 l3 d).lookup ("held" : Str) = none := wf_none (by decide +kernel) (by decide +kernel) (by decide +kernel) (by decide +kernel)
theorem wf_day : (wf l1 l2 l3 d).lookup ("day" : Str) = none := wf_none (by decide +kernel) (by decide +kernel) (by decide +kernel) (by decide +kernel)
theorem wf_free : (wf l1 l2 l3 d).lookup ("free" : Str) = none := wf_none (by decide +kernel) (by decide +kernel) (by decide +kernel) (by decide +kernel)
theorem wf_see : (wf l1 l2 l3 d).lookup ("see" : Str) = none := wf_none (by decide +kernel) (by decide +kernel) (by decide +kernel) (by decide +kernel)
theorem wf_size_of : (wf l1 l2 l3 d).lookup ("size_of" : Str) = none := wf_none (by decide +kernel) (by decide +kernel) (by decide +kernel) (by decide +kernel)
theorem wf_left : (wf l1 l2 l3 d).lookup ("left" : Str) = none := wf_none (by decide +kernel) (by decide +kernel) (by decide +kernel) (by decide +kernel)
theorem wf_come : (wf l1 l2 l3 d).lookup ("come" : Str) = none := wf_none (by decide +kernel) (by decide +kernel) (by decide +kernel) (by decide +kernel)
theorem wf_fetch : (wf l1 l2 l3 d).lookup ("fetch" : Str) = none := wf_none (by decide +kernel) (by decide +kernel) (by decide +kernel) (by decide +kernel)
theorem wf_night : (wf l1 l2 l3 d).lookup ("night" : Str) = none := wf_none (by decide +kernel) (by decide +kernel) (by decide +kernel) (by decide +kernel)
theorem wf_move : (wf l1 l2 l3 d).lookup ("move" : Str) = none := wf_none (by decide +kernel) (by decide +kernel) (by decide +kernel) (by decide +kernel)
theorem wf_put : putF "today" (.int y) (wf l1 l2 l3 d) = wf l1 l2 l3 y := (put_past (by decide +kernel)).trans (congrArg _ ((put_past (by decide +kernel)).trans (congrArg _ ((put_past (by decide +kernel)).trans (congrArg _ put_here)))))
theorem wf_new : putF "today" (.int d) (putF "parcels" (.ref l3) (putF "inside" (.ref l2) (putF "boxes" (.ref l1) []))) = wf l1 l2 l3 d := by
  have e1 : putF "boxes" (.ref l1) [] = [(("boxes" : Str), V.ref l1)] := rfl
  have e2 : putF "inside" (.ref l2) [(("boxes" : Str), V.ref l1)] = [(("boxes" : Str), V.ref l1), ("inside", .ref l2)] := (put_past (by decide +kernel)).trans rfl
  have e3 : putF "parcels" (.ref l3) [(("boxes" : Str), V.ref l1), ("inside", .ref l2)] = [(("boxes" : Str), V.ref l1), ("inside", .ref l2), ("parcels", .ref l3)] := (put_past (by decide +kernel)).trans (congrArg _ ((put_past (by decide +kernel)).trans rfl))
  have e4 : putF "today" (.int d) [(("boxes" : Str), V.ref l1), ("inside", .ref l2), ("parcels", .ref l3)] = [(("boxes" : Str), V.ref l1), ("inside", .ref l2), ("parcels", .ref l3), ("today", .int d)] := (put_past (by decide +kernel)).trans (congrArg _ ((put_past (by decide +kernel)).trans (congrArg _ ((put_past (by decide +kernel)).trans rfl))))
  rw [e1, e2, e3, e4]; rfl
end
def optV : Option Nat → V
  | none => .non
  | some n => .int n
structure WS where
  w : Addr
  dx : Addr
  l1 : Addr
  l2 : Addr
  l3 : Addr
  sizes : List Int
  inside : List (Option Nat)
  parcels : List (Int × Int)
  today : Int
/-- a wall stands at s.w -/
structure WallAt (K : PySem.W.Frag) (H : Hp) (s : WS) : Prop where
  ob : H s.w = some (.ins (He.ga K "Wall") s.dx (wf s.l1 s.l2 s.l3 s.today))
  bx : H s.l1 = some (.lst (s.sizes.map V.int))
  is : H s.l2 = some (.lst (s.inside.map optV))
  ps : ∃ ts : List Addr, H s.l3 = some (.lst (ts.map V.ref)) ∧ ts.length = s.parcels.length ∧ ∀ (j : Nat) (t : Addr), ts[j]? = some t → H t = some (.tup [.int (s.parcels.getD j (0, 0)).1, .int (s.parcels.getD j (0, 0)).2])
  n12 : s.l1 ≠ s.l2
  n13 : s.l1 ≠ s.l3
  n23 : s.l2 ≠ s.l3
  len : s.inside.length = s.sizes.length
  l8 : s.sizes.length ≤ 8
  pl : s.parcels.length ≤ 1000
  nb : ∀ (j n : Nat), s.inside[j]? = some (some n) → n < s.parcels.length
theorem WallAt.mono {K : PySem.W.Frag} {H H' : Hp} {s : WS} (h : WallAt K H s) (e : Same H H') : WallAt K H' s :=
  ⟨e _ _ h.ob, e _ _ h.bx, e _ _ h.is, let ⟨ts, h1, h2, h3⟩ := h.ps; ⟨ts, e _ _ h1, h2, fun j t q => e _ _ (h3 j t q)⟩, h.n12, h.n13, h.n23, h.len, h.l8, h.pl, h.nb⟩
/-- all but the wall's own changing parts stands as it was -/
def Frm (s : WS) (H H' : Hp) : Prop := ∀ b o, H b = some o → b ≠ s.w → b ≠ s.l2 → b ≠ s.l3 → H' b = some o
/-- lists of sizes that make a wall; parcels' sizes -/
def OkW (ns : List Int) : Prop := 1 ≤ ns.length ∧ ns.length ≤ 8 ∧ ∀ x ∈ ns, 1 ≤ x ∧ x ≤ 9
def OkP (ns : List Int) : Prop := ∀ x ∈ ns, 1 ≤ x ∧ x ≤ 9
end Pw
namespace Pw
theorem putL {f : Str} {v : V} : ∀ {fs : List (Str × V)} {n : Nat}, fs.length ≤ n → (putF f v fs).length ≤ n + 1
  | [], n, h => by show 1 ≤ n + 1; omega
  | (g, x) :: r, n, h => by
    show (if g = f then (g, v) :: r else (g, x) :: putF f v r).length ≤ n + 1
    have h : r.length + 1 ≤ n := h
    by_cases c : g = f
    · rw [if_pos c]; show r.length + 1 ≤ n + 1; omega
    · rw [if_neg c]
      have ih := putL (f := f) (v := v) (fs := r) (n := n - 1) (by omega)
      show (putF f v r).length + 1 ≤ n + 1
      omega
theorem putL0 {f : Str} {v : V} : (putF f v []).length < 1000 := Nat.lt_of_le_of_lt (putL (Nat.le_refl 0)) (by decide)
theorem putL1 {f g : Str} {v u : V} : (putF f v (putF g u [])).length < 1000 := Nat.lt_of_le_of_lt (putL (putL (Nat.le_refl 0))) (by decide)
theorem putL2 {f g k : Str} {v u w : V} : (putF f v (putF g u (putF k w []))).length < 1000 := Nat.lt_of_le_of_lt (putL (putL (putL (Nat.le_refl 0)))) (by decide)
theorem wfL {l1 l2 l3 : Addr} {d : Int} : (wf l1 l2 l3 d).length < 1000 := by show 4 < 1000; decide
end Pw
namespace Pw
section
variable {K : PySem.W.Frag}
theorem kit_ii : PySem.W.kitOne K (.type "int") (.type "int") = some true := kit_ty (by decide +kernel)
theorem kit_ib : PySem.W.kitOne K (.type "int") (.type "bool") = some false := kit_ty (by decide +kernel)
theorem kit_il : PySem.W.kitOne K (.type "int") (.type "list") = some false := kit_ty (by decide +kernel)
theorem kit_is : PySem.W.kitOne K (.type "int") (.type "str") = some false := kit_ty (by decide +kernel)
theorem kit_ll : PySem.W.kitOne K (.type "list") (.type "list") = some true := kit_ty (by decide +kernel)
theorem kit_ls : PySem.W.kitOne K (.type "list") (.type "str") = some false := kit_ty (by decide +kernel)
theorem kit_ss : PySem.W.kitOne K (.type "str") (.type "str") = some true := kit_ty (by decide +kernel)
theorem kit_sl : PySem.W.kitOne K (.type "str") (.type "list") = some false := kit_ty (by decide +kernel)
theorem kit_tt : PySem.W.kitOne K (.type "tuple") (.type "tuple") = some true := kit_ty (by decide +kernel)
theorem kit_ns : PySem.W.kitOne K (.type "NoneType") (.type "str") = some false := kit_ty (by decide +kernel)
theorem kit_nl : PySem.W.kitOne K (.type "NoneType") (.type "list") = some false := kit_ty (by decide +kernel)
end
end Pw
namespace Pw
theorem leI {a b : Int} (h : a ≤ b) : a ≤ b := h
theorem ltI {a b : Int} (h : a < b) : a < b := h
theorem leN {a b : Nat} (h : a ≤ b) : a ≤ b := h
theorem ltN {a b : Nat} (h : a < b) : a < b := h
end Pw
namespace Pw
/-- a word at which the walk stops -/
structure Stop (P : Prop) : Prop where
  out : P
theorem insInt {xs : List Int} {n : Nat} {v : Int} : (xs.map V.int).take n ++ [V.int v] ++ (xs.map V.int).drop n = (xs.take n ++ [v] ++ xs.drop n).map V.int := by
  simp
theorem setInt {xs : List Int} {n : Nat} {v : Int} : (xs.map V.int).set n (V.int v) = (xs.set n v).map V.int := by
  rw [List.map_set]
theorem appInt {xs : List Int} {v : Int} : xs.map V.int ++ [V.int v] = (xs ++ [v]).map V.int := by
  simp
theorem getDlt {xs : List Int} {i : Nat} (hi : i < xs.length) : xs.getD i 0 = xs[i] := by rw [List.getD_eq_getElem?_getD, List.getElem?_eq_getElem hi]; rfl
theorem okGet {xs : List Int} (h : OkP xs) {i : Nat} (hi : i < xs.length) : 1 ≤ xs.getD i 0 ∧ xs.getD i 0 ≤ 9 := by
  rw [getDlt hi]
  exact h _ (List.getElem_mem hi)
theorem okSnoc {xs : List Int} {v : Int} (h : OkP xs) (h1 : 1 ≤ v ∧ v ≤ 9) : OkP (xs ++ [v]) := fun x hx => by
  rcases List.mem_append.mp hx with q | q
  · exact h x q
  · rw [List.mem_singleton.mp q]; exact h1
theorem okIns {xs : List Int} {v : Int} {n : Nat} (h : OkP xs) (h1 : 1 ≤ v ∧ v ≤ 9) : OkP (xs.take n ++ [v] ++ xs.drop n) := fun x hx => by
  rcases List.mem_append.mp hx with q | q
  · rcases List.mem_append.mp q with q | q
    · exact h x (List.mem_of_mem_take q)
    · rw [List.mem_singleton.mp q]; exact h1
  · exact h x (List.mem_of_mem_drop q)
theorem okSet {xs : List Int} {v : Int} {n : Nat} (h : OkP xs) (h1 : 1 ≤ v ∧ v ≤ 9) : OkP (xs.set n v) := fun x hx => by
  rcases List.mem_or_eq_of_mem_set hx with q | q
  · exact h x q
  · rw [q]; exact h1
theorem ixN_of {n : Nat} {i : Int} (h0 : 0 ≤ i) (h1 : i < n) : ixN n i = some i.toNat := by
  unfold ixN; rw [if_pos h0, if_pos h1]
end Pw
namespace Pw
/-! ### a statement, then the rest, with a word between them -/
@[irreducible] def CutG (t u : TS) (D : Ends) (σ : L2.St) (H : Hp) : Prop := Evl.tCut t u D σ H
def tCutP (t u : TS) : TS := fun D σ H => CutG t u D σ H
theorem tCutP_eq (t u : TS) : tCutP t u = Evl.tCut t u := by
  funext D σ H
  unfold tCutP CutG
  rfl
theorem pss_cutP {X : Cx} {st : Stmt} {rest : List Stmt} {t u : TS} (h1 : PS X st t) (h2 : PSs X rest u) : PSs X (st :: rest) (tCutP t u) := by
  rw [tCutP_eq]
  exact Evl.pss_cut h1 h2
theorem cut {t u : TS} {D : Ends} {σ : L2.St} {H : Hp} (Mid : L2.St → Hp → Prop) (h1 : t { D with nx := Mid } σ H) (h2 : ∀ σ' H', Mid σ' H' → u D σ' H') : CutG t u D σ H := by
  unfold CutG
  exact ⟨Mid, h1, h2⟩
end Pw
namespace Pw
theorem wallI {K : PySem.W.Frag} {H : Hp} {s : WS} (h : WallAt K H s) : WallAt K H s := h
end Pw
namespace Pw
theorem ifDT {c A B : Prop} [Decidable c] (h : c) (a : A) : if decide c = true then A else B := ifIs (decide_eq_true h) a
theorem ifDF {c A B : Prop} [Decidable c] (h : ¬ c) (b : B) : if decide c = true then A else B := ifNo (decide_eq_false h) b
theorem ifNT {c A B : Prop} [Decidable c] (h : ¬ c) (a : A) : if (!decide c) = true then A else B := ifIs (by rw [decide_eq_false h]; rfl) a
theorem ifNF {c A B : Prop} [Decidable c] (h : c) (b : B) : if (!decide c) = true then A else B := ifNo (by rw [decide_eq_true h]; rfl) b
end Pw
namespace Pw
theorem intEq {a b : Int} (h : a = b) : V.int a = V.int b := congrArg V.int h
theorem intNe {a b : Int} (h : a ≠ b) : ¬ V.int a = V.int b := fun e => h (V.int.inj e)
end Pw
namespace Pw
/-! ### rules at which the walk stops -/
@[irreducible] def rEqDI (K : PySem.W.Frag) : R2 := rEqD K
@[irreducible] def rNeDI (K : PySem.W.Frag) : R2 := rNeD K
@[irreducible] def rSortPO (K : PySem.W.Frag) : List V → Hp → VK → Prop := rSortedPO K
theorem op_eqDI {X : Cx} (hu : X.A.units + 64 < cLine) : OpR X (compareOp .Eq) (rEqDI X.K) := by unfold rEqDI; exact op_eqD hu
theorem op_neDI {X : Cx} (hu : X.A.units + 64 < cLine) : OpR X (compareOp .NotEq) (rNeDI X.K) := by unfold rNeDI; exact op_neD hu
theorem cr_sortPO {X : Cx} : CallR X (.builtin "sorted") (rSortPO X.K) := by unfold rSortPO; exact cr_sortedPO
end Pw
namespace Pw
/-! ### errors caught: what the classes say -/
def excCB (K : PySem.W.Frag) (D : Addr) : Bool :=
  He.eqO (PySem.W.findIn K (.ref D) "__getattribute__") (some (some (.builtin "BaseException.__getattribute__"))) && (He.eqO (PySem.W.findIn K (.ref D) "__getattr__") (some none) && (decide (PySem.W.subIn K (.ref D) (.type "BaseException") = some true) &&
  (PySem.W.hasDictIn K D && (He.eqO (PySem.W.findIn K (.ref D) "__class__") (some (some (.builtin "object.__class__"))) && (He.eqO (PySem.W.specialIn K (.builtin "object.__class__") "__get__") (some (some (.builtin "getset_descriptor.__get__"))) &&
  (decide (PySem.W.takesIn K (.builtin "object.__class__") = some true) && decide (PySem.W.mroIn K D (.type "object") = some true)))))))
theorem excC_of {K : PySem.W.Frag} {D : Addr} (h : excCB K D = true) : ExcC K D := by
  obtain ⟨h1, h⟩ := He.ba h
  obtain ⟨h2, h⟩ := He.ba h
  obtain ⟨h3, h⟩ := He.ba h
  obtain ⟨h4, h⟩ := He.ba h
  obtain ⟨h5, h⟩ := He.ba h
  obtain ⟨h6, h⟩ := He.ba h
  obtain ⟨h7, h8⟩ := He.ba h
  exact ⟨He.eqO_ok h1, He.eqO_ok h2, of_decide_eq_true h3, h4, He.eqO_ok h5, He.eqO_ok h6, of_decide_eq_true h7, of_decide_eq_true h8⟩
/-- whether an error of the class x is one of the class y -/
def isSub (x y : Str) : Bool := x == y || y == ("WallError" : Str)
def xsB (K : PySem.W.Frag) (l : List Str) : Bool := l.all fun x => excCB K (He.ga K x) && (decide (PySem.W.kitOne K (.ref (He.ga K x)) (.type "ValueError") = some true) &&
  l.all fun y => decide (PySem.W.kitOne K (.ref (He.ga K x)) (.ref (He.ga K y)) = some (isSub x y)) && decide (PySem.W.exmOne K (.ref (He.ga K x)) (.ref (He.ga K y)) = some (isSub x y)))
structure XS (K : PySem.W.Frag) (l : List Str) : Prop where
  b : xsB K l = true
namespace XS
variable {K : PySem.W.Frag} {l m : List Str}
theorem one (h : XS K l) {x : Str} (hx : x ∈ l) : ExcC K (He.ga K x) ∧ PySem.W.kitOne K (.ref (He.ga K x)) (.type "ValueError") = some true := by
  have q := List.all_eq_true.mp h.b x hx
  obtain ⟨h1, h2⟩ := He.ba q
  obtain ⟨h2, _⟩ := He.ba h2
  exact ⟨excC_of h1, of_decide_eq_true h2⟩
theorem two (h : XS K l) {x y : Str} (hx : x ∈ l) (hy : y ∈ l) : PySem.W.kitOne K (.ref (He.ga K x)) (.ref (He.ga K y)) = some (isSub x y) ∧ PySem.W.exmOne K (.ref (He.ga K x)) (.ref (He.ga K y)) = some (isSub x y) := by
  have q := List.all_eq_true.mp h.b x hx
  obtain ⟨_, q⟩ := He.ba q
  obtain ⟨_, q⟩ := He.ba q
  have q := List.all_eq_true.mp q y hy
  obtain ⟨h1, h2⟩ := He.ba q
  exact ⟨of_decide_eq_true h1, of_decide_eq_true h2⟩
theorem c (h : XS K l) {x : Str} (hx : x ∈ l) : ExcC K (He.ga K x) := (h.one hx).1
theorem v (h : XS K l) {x : Str} (hx : x ∈ l) : PySem.W.kitOne K (.ref (He.ga K x)) (.type "ValueError") = some true := (h.one hx).2
theorem kit (h : XS K l) {x y : Str} {b : Bool} (hx : x ∈ l) (hy : y ∈ l) (e : isSub x y = b) : PySem.W.kitOne K (.ref (He.ga K x)) (.ref (He.ga K y)) = some b := by rw [← e]; exact (h.two hx hy).1
theorem exm (h : XS K l) {x y : Str} {b : Bool} (hx : x ∈ l) (hy : y ∈ l) (e : isSub x y = b) : PySem.W.exmOne K (.ref (He.ga K x)) (.ref (He.ga K y)) = some b := by rw [← e]; exact (h.two hx hy).2
end XS
/-- isinstance(e, c), e the error that the suite holds, of the class cls -/
def rIsX (K : PySem.W.Frag) (cls : Value) (d : Option Addr) (a : Addr) : List V → Hp → VK → Prop := fun xs H Q => ∃ (D : Addr) (c : V) (cv : Value) (b : Bool), cls = .ref D ∧ d = none ∧ ExcC K D ∧ xs = [.ref a, c] ∧ (∀ u, RelV c u → u = cv) ∧ PySem.W.kitOne K (.ref D) cv = some b ∧ Q (.bl b) H
theorem call_isX {X : Cx} {a : Addr} {cls : Value} {d : Option Addr} {oe : Obj} {pn : List (Addr × Obj)} (hz : Zc cls d oe) (hf : ∃ vs, oe.data = .fields vs) : CallR (X.suite a ((a, oe) :: pn)) (.builtin "isinstance") (rIsX X.K cls d a) := by
  intro pins s σ H xs us Q I r h
  obtain ⟨D, c, cv, b, rfl, rfl, C, h⟩ := h
  exact call_isE C hz hf pins s σ H xs us Q I r ⟨c, cv, b, h⟩
def tTryAs (K : PySem.W.Frag) (c : Value) (i : Nat) (tb : WX → TS) (ts : Addr → Value → Option Addr → TS) (Wout : WX) : TS := fun D σ H => tb (wAs K c i ts Wout D) D σ H
def tTryOnly (K : PySem.W.Frag) (c : Value) (tb : WX → TS) (ts : Addr → Value → Option Addr → TS) (Wout : WX) : TS := fun D σ H => tb (wOnly K c ts Wout D) D σ H
def tTryMany (K : PySem.W.Frag) (l : List (Value × (Addr → Value → Option Addr → TS))) (tb : WX → TS) (Wout : WX) : TS := fun D σ H => tb (wMany K Wout D l) D σ H
abbrev wNone : WX := fun _ _ _ _ => False
abbrev wE (E : XK) : WX := fun cls d _ H => E cls d H
/-- C(e, ..) within a try -/
def tMakeS (C : Addr) (sp : Sp) (E : L2.St → XK) (t : TA) : TE := fun σ H Q => t σ H fun vs H1 => ∀ x dx, H1 x = none → H1 dx = none → dx ≠ x → sp (.ref x :: vs) (upd (upd H1 dx (.own x)) x (.ins C dx [])) (fun v H2 => v = .non ∧ Q (.ref x) H2) (E σ)
end Pw
namespace Pw
section
variable {X : Cx} {CX : CXT} {lv : Nat} {fI C : Addr} {gd : FuncData} {prs : List Str} {pr : Sp} {E : XK}
theorem makeAt {pins : List (Addr × Obj)} {σ : L2.St} {H : Hp} {st : Shared} {Q : VK} {us : List Value} {vs : List V} (M : Mk X.K C fI)
    (F : FnOk X.prog X.w X.K X.mg X.base CX lv fI gd prs pr) (room : Room (lv + 1) X.A) (bb : Binds X.K gd prs [])
    (pass : PassesAt CX X σ E) (I : Inv X pins σ H st) (rv : Vals vs us)
    (want : ∀ x dx, H x = none → H dx = none → dx ≠ x → pr (.ref x :: vs) (upd (upd H dx (.own x)) x (.ins C dx [])) (fun v H2 => v = .non ∧ Q (.ref x) H2) E) :
    wpAny (model X.prog X.w) X.A (call (.ref C) us) (EP X pins σ Q) X.xe st := by
  have want1 := want (st.heap.objs.size + 1) st.heap.objs.size (I.hok.fresh (Nat.le_succ _)) (I.hok.fresh (Nat.le_refl _))
    (Nat.ne_of_lt (Nat.lt_succ_self _))
  have J := Inv.made (C := C) I
  have rv1 : Vals (V.ref (st.heap.objs.size + 1) :: vs) (Value.ref (st.heap.objs.size + 1) :: us) := .cons rfl rv
  have len1 : (Value.ref (st.heap.objs.size + 1) :: us).length = prs.length :=
    rv1.length.symm.trans (F.len _ _ _ _ want1)
  have bb1 := bb _ (Value.ref (st.heap.objs.size + 1) :: us) J.kIn (by rw [List.append_nil]; exact len1)
  rw [List.append_nil] at bb1
  refine wpAny_call (make_map (f := fI) I.kIn M.makes M.init (beq_iff_eq.mp M.fn) ?_)
  refine codeAny_mono (F.run _ X.stack _ _ ⟨Value.ref (st.heap.objs.size + 1) :: us, []⟩ (Value.ref (st.heap.objs.size + 1) :: us) _ _ E
    (room.make C us []) (J.env0.make C us []) bb1 rv1 want1) fun res s2 got => ?_
  cases res with
  | error e => exact pass pins _ _ e s2 J got
  | ok fl =>
    cases fl with
    | ret u =>
      obtain ⟨v, H2, J2, ru, ev, q2⟩ := J.after got
      subst ev
      exact ⟨ru, ⟨V.ref (st.heap.objs.size + 1), H2, J2, rfl, q2⟩⟩
    | next => exact got.elim
    | brk => exact got.elim
    | cont => exact got.elim
theorem pe_makeS {EE : L2.St → XK} {x : Str} {p pos : Pos} {e : Expr} {es : List Expr} {t : TA} (M : Mk X.K C fI)
    (F : FnOk X.prog X.w X.K X.mg X.base CX lv fI gd prs pr) (room : Room (lv + 1) X.A) (hg : Gl X x) (hm : X.mg x = some (.ref C)) (bb : Binds X.K gd prs [])
    (pass : ∀ σ, PassesAt CX X σ (EE σ)) (ha : PA X (e :: es) t) (hdb : (x == ("__debug__" : Str)) = false := by decide)
    (he : starEach (e :: es) X.env = (false, eval e X.env) :: starEach es X.env := by rfl)
    (hpl : (backTo pos (starEach es X.env)).any (·.1) = false := by rfl) :
    PE X (.Call (.Name x p) (e :: es) [] pos) (tMakeS C pr EE t) := by
  refine ⟨fun pins s σ H Q I h => wpAny_Call_Name_kw (ld_glob I hg hm ?_ hdb)⟩
  refine PySem.W.callWith_K (h₀ := X.base) I.ok.mod.kin M.kp ?_ he hpl
  exact thn (ha.run pos pins s σ H _ I h) fun us s1 ⟨vs, H1, I1, r, q⟩ => ⟨I1.kIn, makeAt M F room bb (pass σ) I1 r q⟩
/-- o.m() within a try -/
theorem pe_methS0 {m : Str} {pos apos : Pos} {o : Expr} {ta : TE} {f : Addr} {fd : FuncData} {ps : List Str} {sp : Sp} {EE : L2.St → XK} {pl : Sem Bool} (he : PE X o ta) (c : Cls X.K C) (hm : Meth X.K C m f)
    (F : FnOk X.prog X.w X.K X.mg X.base CX lv f fd ps sp) (hr : Room lv X.A) (hb : Binds X.K fd ps []) (hx : ∀ σ, PassesAt CX X σ (EE σ))
    (ht : eval (.Call (.Attribute o m apos) [] [] pos) X.env = (do
      let ov ← eval o X.env
      standAt apos.atName
      let (f, first) ← holding [ov] (getMethod ov m pl)
      callWith pos f first (backTo pos (starEach [] X.env)) (backToKw pos (keywordEach [] X.env))) := by rfl) :
    PE X (.Call (.Attribute o m apos) [] [] pos) (tMethS C m sp EE ta tNil) := by
  refine ⟨fun pins s σ H Q I h => ?_⟩
  refine PySem.W.methodCall_KW (pl := pl) (thn (he.run pins s σ H _ I h) fun u s1 ⟨x, H1, I1, rx, a, dx, fs, ex, ea, l, q⟩ => ?_) ht
  subst ex
  obtain rfl : u = Value.ref a := rx
  refine getmeth_ok I1 ea c hm l ?_
  exact PySem.W.callWith_K0 (first := [.ref a]) I1.kIn hm.kp (run_fnS (us := [.ref a]) (vs := [.ref a]) F hr hb (hx σ) I1 (.cons rfl .nil) q)
end
end Pw
namespace Pw
theorem relRef {a : Addr} : ∀ u, RelV (V.ref a) u → u = Value.ref a := fun _ h => h
theorem relTy {t : String} : ∀ u, RelV (V.ty t) u → u = Value.type t := fun _ h => h
theorem qRefl {Q : VK} {H : Hp} {x : V} (h : Q (.bl true) H) : Q (.bl (decide (x = x))) H := by rw [decide_eq_true rfl]; exact h
theorem qDec {Q : VK} {H : Hp} {p : Prop} [Decidable p] (hp : p) (h : Q (.bl true) H) : Q (.bl (decide p)) H := by rw [decide_eq_true hp]; exact h
theorem inAll {l n : List Str} (h : (n.all fun x => l.contains x) = true) {x : Str} (hx : x ∈ n) : x ∈ l := List.contains_iff_mem.mp (List.all_eq_true.mp h x hx)
theorem listInt {H : Hp} {p : Addr} {ns : List Nat} (h : H p = some (.lst (ns.map fun i : Nat => V.int (i : Int)))) : H p = some (.lst ((ns.map fun i : Nat => (i : Int)).map V.int)) := by rw [h, List.map_map]; rfl
theorem repOpt {ns : List Int} : ns.map (fun _ => V.non) = (List.replicate ns.length (none : Option Nat)).map optV := by
  rw [List.map_replicate]
  induction ns with
  | nil => rfl
  | cons x r ih => rw [List.map_cons, List.length_cons, List.replicate_succ, ih]; rfl
theorem freeLen (l : List (Option Nat)) : ((List.range l.length).filter fun i => (l.getD i none).isNone).length ≤ l.length := by
  have h := List.length_filter_le (fun i => (l.getD i none).isNone) (List.range l.length)
  rw [List.length_range] at h; exact h
end Pw
namespace Pw
theorem intNon {i : Int} : ¬ V.int i = V.non := fun h => by cases h
theorem strNe {a b : Str} (h : a ≠ b) : ¬ V.str a = V.str b := fun e => h (V.str.inj e)
end Pw
namespace Pw
abbrev rInN (K : PySem.W.Frag) : R2 := fun x y H Q => ∃ p xs, y = .ref p ∧ (SqL K H p xs ∨ SqT K H p xs) ∧ flatV x = true ∧ xs.all flatV = true ∧ Q (.bl (!inV x xs)) H
theorem op_notInN {X : Cx} : OpR X (compareOp .NotIn) (rInN X.K) := op_notIn_seq
end Pw
namespace Pw
theorem cmulL {i j : Int} (h : -(2 ^ 64) < i ∧ i < 2 ^ 64) : CMul i j := .inl h
theorem cmulR {i j : Int} (h : -(2 ^ 64) < j ∧ j < 2 ^ 64) : CMul i j := .inr h
theorem cpow109 : CPow 10 9 := ⟨by decide, by decide, by decide⟩
end Pw
namespace Pw
theorem cxN_to {P : Program} {w : World} {outer : List Env} {H : Hp} {s s' : Shared} {E : XK} {u : Value} (c : L2N.CX P w outer H s E u s') : L2.CX P w outer H s E u s' := by
  obtain ⟨a, B, H', cls, d, e, fl, r⟩ := c
  exact ⟨a, B, H', cls, d, e, L2H.flyingZ_imp (fun _ z => z.zc) fl, r⟩
theorem passesN {X : Cx} {E : XK} (h : Passes (L2.CX X.prog X.w) X E) : Passes (L2N.CX X.prog X.w) X E := fun pins σ H s e s' I c => h pins σ H s e s' I (cxN_to c)
theorem passAtN {X : Cx} {W : WX} (tk : L2.Takes X W) (σ : L2.St) : PassesAt (L2N.CX X.prog X.w) X σ (WE W σ) := fun pins H s e s' I c => L2.passAt tk σ pins H s e s' I (cxN_to c)
end Pw
namespace Pw
theorem whileI {tc : TT} {tb : TS} {D : Ends} {σ : L2.St} {H : Hp} (Pv : Nat → L2.St → Hp → Prop) (h0 : ∃ m, Pv m σ H)
    (hs : ∀ m σ H, Pv m σ H → tc σ H fun b H1 => if b = true then ∃ N : L2.St → Hp → Prop, (∀ σ' H', N σ' H' → ∃ m', m' < m ∧ Pv m' σ' H') ∧ tb { D with nx := N, ct := N, bk := D.nx } σ H1 else D.nx σ H1) : WhileG tc tb D σ H := by
  unfold WhileG
  exact ⟨Pv, h0, hs⟩
end Pw
namespace Pw
abbrev rInY (K : PySem.W.Frag) : R2 := fun x y H Q => ∃ p xs, y = .ref p ∧ (SqL K H p xs ∨ SqT K H p xs) ∧ flatV x = true ∧ xs.all flatV = true ∧ Q (.bl (inV x xs)) H
theorem op_inY {X : Cx} : OpR X (compareOp .In) (rInY X.K) := op_in_seq
end Pw
local macro_rules | `(tactic| walk_at "arith") => `(tactic| first | omega | (simp only [List.length_map, List.length_append, List.length_cons, List.length_nil, List.length_take, List.length_replicate, List.length_range, Int.zero_add, Int.toNat_natCast] at *; omega))
local macro_rules | `(tactic| walk_at "same") => `(tactic| first
  | assumption
  | exact Same.refl _
  | (refine Pw.sameNew ?_ ?_; (walk_at "same"); (walk_at "free"))
  | (refine Pw.sameMut ?_ ?_; (walk_at "same"); (walk_at "free"))
  | (refine Same.trans (H1 := ?mid) ?s1 ?s2; (case s2 => assumption); (case s1 => walk_at "same")))
local macro_rules | `(tactic| walk_at "free") => `(tactic| first
  | assumption
  | (refine Pw.updFree (p := ?pp) (o := ?oo) ?f; (case f => assumption))
  | (refine Same.free (H' := ?mid) ?s ?f; (case f => assumption); (case s => walk_at "same")))
local macro_rules | `(tactic| walk_at "ne") => `(tactic| first
  | assumption
  | (apply Ne.symm; assumption)
  | (refine ne_of_none (H := ?hh) (o := ?oo) ?h1 ?h2; (case h2 => assumption); (case h1 => walk_at "heap"))
  | (apply Ne.symm; refine ne_of_none (H := ?hh) ?h1 ?h2; (case h2 => assumption); (case h1 => walk_at "heap")))
local macro_rules | `(tactic| walk_at "heap") => `(tactic| first
  | assumption
  | exact upd_same
  | (refine Pw.updOld (o := ?oo) ?h ?f; (case h => walk_at "heap"); (case f => walk_at "free"))
  | (refine Pw.updNe (o := ?oo) ?h ?n; (case h => walk_at "heap"); (case n => walk_at "ne"))
  | (refine Pw.sameGet (H := ?hh) (o := ?oo) ?s ?h; (case s => assumption); (case h => walk_at "heap")))
local macro_rules | `(tactic| walk_at "sq") => `(tactic| first
  | assumption
  | (refine Same.seq (H := ?hh) (xs := ?xx) ?s ?h; (case h => assumption); (case s => walk_at "same"))
  | (refine SqL.of (xs := ?xx) ?h; (case h => walk_at "heap"))
  | (refine SqT.of (xs := ?xx) ?h; (case h => walk_at "heap")))
local macro_rules | `(tactic| walk_at "wall") => `(tactic| first
  | assumption
  | (refine Pw.WallAt.mono (H := ?hh) ?h ?s; (case h => assumption); (case s => walk_at "same")))
local macro_rules | `(tactic| walk_at "leaf") => `(tactic| first
  | with_reducible rfl
  | with_reducible exact Pw.kit_ii
  | with_reducible exact Pw.relRef
  | with_reducible exact Pw.relTy
  | with_reducible exact Pw.kit_ib
  | with_reducible exact Pw.kit_ll
  | with_reducible exact Pw.kit_tt
  | with_reducible exact Pw.kit_ss
  | with_reducible exact Pw.kit_il
  | with_reducible exact Pw.kit_is
  | with_reducible exact Pw.kit_ls
  | with_reducible exact Pw.kit_sl
  | with_reducible exact Pw.kit_ns
  | with_reducible exact Pw.kit_nl
  | with_reducible assumption
  | (with_reducible refine Pw.leI ?_; (first | walk_at "arith" | exact Pw.szLe (by walk_at "arith") | exact Pw.szLt (by walk_at "arith") | decide))
  | (with_reducible refine Pw.ltI ?_; (first | walk_at "arith" | exact Pw.szLe (by walk_at "arith") | exact Pw.szLt (by walk_at "arith") | decide))
  | (with_reducible refine Pw.leN ?_; (first | walk_at "arith" | exact Pw.szLe (by walk_at "arith") | exact Pw.szLt (by walk_at "arith") | decide))
  | (with_reducible refine Pw.ltN ?_; (first | walk_at "arith" | exact Pw.szLe (by walk_at "arith") | exact Pw.szLt (by walk_at "arith") | decide))
  | rfl
  | assumption
  | with_reducible exact Pw.wf_boxes
  | with_reducible exact Pw.wf_inside
  | with_reducible exact Pw.wf_parcels
  | with_reducible exact Pw.wf_today
  | with_reducible exact Pw.wf_sizes
  | with_reducible exact Pw.wf_held
  | with_reducible exact Pw.wf_day
  | with_reducible exact Pw.wf_free
  | with_reducible exact Pw.wf_see
  | with_reducible exact Pw.wf_size_of
  | with_reducible exact Pw.wf_left
  | with_reducible exact Pw.wf_come
  | with_reducible exact Pw.wf_fetch
  | with_reducible exact Pw.wf_night
  | with_reducible exact Pw.wf_move
  | exact ClsV.ty _
  | exact ClsV.own _
  | with_reducible exact TyX.base (TyOf.int _)
  | with_reducible exact TyX.base (TyOf.bl _)
  | with_reducible exact TyX.base (TyOf.str _)
  | with_reducible exact TyX.base TyOf.non
  | (refine TyX.base (TyOf.lst (xs := ?xx) ?q); (case q => walk_at "heap"))
  | (refine TyX.base (TyOf.tup (xs := ?xx) ?q); (case q => walk_at "heap"))
  | with_reducible exact Pw.putL0
  | with_reducible exact Pw.putL1
  | with_reducible exact Pw.putL2
  | with_reducible exact Pw.wfL
  | walk_at "sq"
  | walk_at "heap"
  | walk_at "arith"
  | (with_reducible refine Pw.wallI ?h; (case h => walk_at "wall"))
  | (refine Or.inl ?q; (case q => walk_at "sq"))
  | (refine Or.inr ?q; (case q => walk_at "sq"))
  | (refine Exists.intro ?ww ?q; (case q => walk_at "sq"))
  | (refine Or.inl (And.intro rfl (Exists.intro ?ww ?q)); (case q => walk_at "sq"))
  | (refine Or.inl (And.intro ?r (Exists.intro ?ww ?q)); (case r => rfl); (case q => walk_at "sq"))
  | exact Pw.atInt (by walk_at "arith") (by walk_at "arith")
  | with_reducible exact Pw.cpow109
  | (with_reducible refine Pw.cmulL ?_; decide)
  | (with_reducible refine Pw.cmulR ?_; decide)
  | decide)
local macro_rules | `(tactic| walk_at "sure") => `(tactic| first | with_reducible assumption | with_reducible rfl | with_reducible exact Pw.intNon | (with_reducible refine Pw.strNe ?_; decide +kernel) | (with_reducible refine Pw.intEq ?_; walk_at "arith") | (with_reducible refine Pw.intNe ?_; walk_at "arith") | walk_at "arith")
local macro_rules | `(tactic| walk_at "if") => `(tactic| first
  | (with_reducible refine Pw.ifDT ?c ?_; (case c => walk_at "sure"))
  | (with_reducible refine Pw.ifDF ?c ?_; (case c => walk_at "sure"))
  | (with_reducible refine Pw.ifNT ?c ?_; (case c => walk_at "sure"))
  | (with_reducible refine Pw.ifNF ?c ?_; (case c => walk_at "sure")))
local macro_rules | `(tactic| walk_at "go") => `(tactic| repeat (first | apply Exists.intro | (refine And.intro ?l ?_; (case l => walk_at "leaf")) | walk_at "if"))
namespace Pw
/-- what the law draws -/
def drawn (ns : List Int) (k many : Int) : Int :=
  let cell := if 0 < (ns.length : Int) then ns.getD (k.fmod ns.length).toNat 0 else 7
  let s1 := (cell * 48271 + (k + 1) * 7919 + ns.length) % 2147483647
  let s2 := (s1 * s1 + k * 16807 + 11) % 2147483647
  (s2 * 48271 % 2147483647 / 16).fmod many
theorem drawn_in (ns : List Int) (k : Int) {many : Int} (h : 0 < many) : 0 ≤ drawn ns k many ∧ drawn ns k many < many := by
  unfold drawn
  exact ⟨Int.fmod_nonneg_of_pos _ h, Int.fmod_lt_of_pos _ h⟩
def sp_law_drawn (K : PySem.W.Frag) : Sp := fun vs H Q _ => ∃ (a : Addr) (ns : List Int) (k many : Int), vs = [.ref a, .int k, .int many] ∧ SqL K H a (ns.map V.int) ∧ ns.length ≤ 63 ∧ 0 < many ∧
  (0 ≤ drawn ns k many → drawn ns k many < many → Q (.int (drawn ns k many)) H)
theorem len_law_drawn {K : PySem.W.Frag} : ∀ vs H Q E, sp_law_drawn K vs H Q E → vs.length = 3 := by
  rintro vs H Q E ⟨_, _, _, _, rfl, _⟩
  rfl
def t_law_drawn (K : PySem.W.Frag) (E : XK) : TS :=
  tSeq (tAsg (tC (.int 7)) (gName 3))
    (tSeq (tIfS (tTest (tOp rGt (tCB (rLenSeq K) (tCons (tVar 0) tNil)) (tC (.int 0)))) (tAsg (tOp (rIxL K) (tVar 0) (tOp rModN (tVar 1) (tCB (rLenSeq K) (tCons (tVar 0) tNil)))) (gName 3)) (tNext))
    (tSeq (tAsg (tOp rModP (tOp rAddI (tOp rAddI (tOp rMulI (tVar 3) (tC (.int 48271))) (tOp rMulI (tOp rAddI (tVar 1) (tC (.int 1))) (tC (.int 7919)))) (tCB (rLenSeq K) (tCons (tVar 0) tNil))) (tC (.int 2147483647))) (gName 4))
    (tSeq (tAsg (tOp rModP (tOp rAddI (tOp rAddI (tOp rMulI (tVar 4) (tVar 4)) (tOp rMulI (tVar 1) (tC (.int 16807)))) (tC (.int 11))) (tC (.int 2147483647))) (gName 4))
    (tRet (tOp rModN (tOp rDivP (tOp rModP (tOp rMulI (tVar 4) (tC (.int 48271))) (tC (.int 2147483647))) (tC (.int 16))) (tVar 2))))))
theorem pure_law_drawn {K : PySem.W.Frag} (vs : List V) (H : Hp) (Q : VK) (E : XK) (h : sp_law_drawn K vs H Q E) : t_law_drawn K E { nx := fun _ H' => Q .non H', rt := Q } (start ["script", "k", "many", "cell", "stir"] vs) H := by
  obtain ⟨a, ns, k, many, rfl, hS, hl, hm, q⟩ := h
  have hd := drawn_in ns k hm
  have q := q hd.1 hd.2
  have fin : ∀ cell : Int, cell = (if 0 < (ns.length : Int) then ns.getD (k.fmod ns.length).toNat 0 else 7) → ∀ σ : L2.St, σ = [some (.ref a), some (.int k), some (.int many), some (.int cell), none] →
      (tSeq (tAsg (tOp rModP (tOp rAddI (tOp rAddI (tOp rMulI (tVar 3) (tC (.int 48271))) (tOp rMulI (tOp rAddI (tVar 1) (tC (.int 1))) (tC (.int 7919)))) (tCB (rLenSeq K) (tCons (tVar 0) tNil))) (tC (.int 2147483647))) (gName 4))
    (tSeq (tAsg (tOp rModP (tOp rAddI (tOp rAddI (tOp rMulI (tVar 4) (tVar 4)) (tOp rMulI (tVar 1) (tC (.int 16807)))) (tC (.int 11))) (tC (.int 2147483647))) (gName 4))
    (tRet (tOp rModN (tOp rDivP (tOp rModP (tOp rMulI (tVar 4) (tC (.int 48271))) (tC (.int 2147483647))) (tC (.int 16))) (tVar 2))))) { nx := fun _ H' => Q .non H', rt := Q } σ H := by
    intro cell ec σ es
    subst es
    have b1 := Int.emod_nonneg (cell * 48271 + (k + 1) * 7919 + ((ns.map V.int).length : Int)) (show (2147483647 : Int) ≠ 0 by decide)
    have b2 := Int.emod_lt_of_pos (cell * 48271 + (k + 1) * 7919 + ((ns.map V.int).length : Int)) (show (0 : Int) < 2147483647 by decide)
    walk_at "go"
    refine ⟨.inl ⟨by omega, by omega⟩, ?_⟩
    walk_at "go"
    refine ⟨⟨by decide, by decide⟩, ?_⟩
    walk_at "go"
    have e : drawn ns k many = ((((cell * 48271 + (k + 1) * 7919 + ns.length) % 2147483647 * ((cell * 48271 + (k + 1) * 7919 + ns.length) % 2147483647) + k * 16807 + 11) % 2147483647) * 48271 % 2147483647 / 16).fmod many := by
      unfold drawn; rw [← ec]
    rw [e] at q
    rw [List.length_map]
    exact q
  unfold t_law_drawn
  walk_at "go"
  refine ifD (fun h1 => ?_) (fun h1 => ?_)
  · walk_at "go"
    rw [List.length_map] at h1 ⊢
    have f1 := Int.fmod_nonneg_of_pos k h1
    have f2 := Int.fmod_lt_of_pos k h1
    refine ⟨atInt f1 f2, ?_⟩
    refine fin _ ?_ _ rfl
    rw [if_pos h1]
  · refine fin 7 ?_ _ rfl
    rw [List.length_map] at h1
    rw [if_neg h1]
end Pw
namespace Pw
def sp_law_sizes_by (K : PySem.W.Frag) : Sp := fun vs H Q _ => ∃ (a : Addr) (ns : List Int) (b : Int), vs = [.ref a, .int b] ∧ SqL K H a (ns.map V.int) ∧ ns.length ≤ 63 ∧ ∀ sizes : List Int, OkW sizes → RetNew H Q (sizes.map V.int)
theorem len_law_sizes_by {K : PySem.W.Frag} : ∀ vs H Q E, sp_law_sizes_by K vs H Q E → vs.length = 2 := by
  rintro vs H Q E ⟨_, _, _, rfl, _⟩
  rfl
def t_law_sizes_by (K : PySem.W.Frag) (E : XK) : TS :=
  tSeq (tAsg (tOp rAddI (tC (.int 1)) (tCall (sp_law_drawn K) [] E0 (tCons (tVar 0) (tCons (tVar 1) (tCons (tC (.int 8)) tNil))))) (gName 2))
    (tSeq (tAsg (tOp (rIxL K) (tLst (tCons (tC (.int 3)) (tCons (tC (.int 5)) (tCons (tC (.int 9)) tNil)))) (tCall (sp_law_drawn K) [] E0 (tCons (tVar 0) (tCons (tOp rAddI (tVar 1) (tC (.int 1))) (tCons (tC (.int 3)) tNil))))) (gName 3))
    (tRet (tLc (iRng1 (tCons (tVar 2) tNil)) (gName 4) tYes (tOp rAddI (tC (.int 1)) (tCall (sp_law_drawn K) [] E0 (tCons (tVar 0) (tCons (tOp rAddI (tOp rAddI (tVar 1) (tC (.int 2))) (tVar 4)) (tCons (tVar 3) tNil))))) [4])))
theorem pure_law_sizes_by {K : PySem.W.Frag} (vs : List V) (H : Hp) (Q : VK) (E : XK) (h : sp_law_sizes_by K vs H Q E) : t_law_sizes_by K E { nx := fun _ H' => Q .non H', rt := Q } (start ["script", "base", "many", "top", "k"] vs) H := by
  obtain ⟨a, ns, b, rfl, hS, hl, k⟩ := h
  unfold t_law_sizes_by
  walk_at "go"
  intro d0 d1
  walk_at "go"
  intro p hp
  walk_at "go"
  intro e0 e1
  walk_at "go"
  refine ⟨atInt (xs := [3, 5, 9]) e0 e1, ?_⟩
  have ht : 1 ≤ ([3, 5, 9] : List Int).getD (drawn ns (b + 1) 3).toNat 0 ∧ ([3, 5, 9] : List Int).getD (drawn ns (b + 1) 3).toNat 0 ≤ (9 : Int) := by
    have q : (drawn ns (b + 1) 3).toNat = 0 ∨ (drawn ns (b + 1) 3).toNat = 1 ∨ (drawn ns (b + 1) 3).toNat = 2 := by omega
    rcases q with q | q | q <;> rw [q] <;> decide
  generalize ([3, 5, 9] : List Int).getD (drawn ns (b + 1) 3).toNat 0 = top at ht ⊢
  generalize drawn ns b 8 = many at d0 d1 ⊢
  walk_at "go"
  intro D hD
  have hS1 : SqL K (upd H p (.lst [V.int 3, V.int 5, V.int 9])) a (ns.map V.int) := (sameNew (Same.refl _) hp).seq hS
  refine lcRng (n := (1 + many).toNat) (fun _ => true) (fun i : Nat => V.int (1 + drawn ns (b + 2 + (0 + (i : Int))) top)) hD (by omega) (fun _ => rfl) (fun i H' hi s' TT k' => ?_) (fun i H' hi _ s' Qv k' => ?_) (fun H' s' hD' => ?_)
  · exact k' _ (Same.refl _)
  · walk_at "go"
    intro d2 d3
    walk_at "go"
    exact k' _ (Same.refl _)
  · rw [filterAll] at hD'
    refine k ((List.range (1 + many).toNat).map fun i : Nat => 1 + drawn ns (b + 2 + (0 + (i : Int))) top) ⟨by simp; omega, by simp; omega, ?_⟩ _ D ((sameNew (Same.refl _) hp).trans s') (updFree hD) ?_
    · intro x hx
      obtain ⟨i, _, rfl⟩ := List.mem_map.mp hx
      have := drawn_in ns (b + 2 + (0 + (i : Int))) (many := top) (by omega)
      omega
    · rw [hD', List.map_map]; rfl
end Pw
namespace Pw
def sp_Wall_sizes (K : PySem.W.Frag) : Sp := fun vs H Q _ => ∃ (s : WS), WallAt K H s ∧ vs = [.ref s.w] ∧ RetNew H Q (s.sizes.map V.int)
theorem len_Wall_sizes {K : PySem.W.Frag} : ∀ vs H Q E, sp_Wall_sizes K vs H Q E → vs.length = 1 := by
  rintro vs H Q E ⟨_, _, rfl, _⟩
  rfl
def t_Wall_sizes (K : PySem.W.Frag) (E : XK) : TS :=
  tRet (tCB (rListOf K) (tCons (tFld K (tVar 0) "boxes") tNil))
theorem pure_Wall_sizes {K : PySem.W.Frag} (T : TW K) (vs : List V) (H : Hp) (Q : VK) (E : XK) (h : sp_Wall_sizes K vs H Q E) : t_Wall_sizes K E { nx := fun _ H' => Q .non H', rt := Q } (start ["self"] vs) H := by
  obtain ⟨s, A, rfl, k⟩ := h
  obtain ⟨tcl, tnb, tni, tnp, tnt⟩ := id T
  have hob := A.ob
  have hbx := A.bx
  unfold t_Wall_sizes
  walk_at "go"
  intro p hp
  exact k _ p (sameNew (Same.refl _) hp) hp upd_same
end Pw
namespace Pw
def sp_is_size (K : PySem.W.Frag) : Sp := fun vs H Q _ => ∃ n : Int, vs = [.int n] ∧ Q (.bl (decide (1 ≤ n ∧ n ≤ 9))) H
theorem len_is_size {K : PySem.W.Frag} : ∀ vs H Q E, sp_is_size K vs H Q E → vs.length = 1 := by
  rintro vs H Q E ⟨_, rfl, _⟩
  rfl
def t_is_size (K : PySem.W.Frag) (E : XK) : TS :=
  tRet (tAndV (tOp rLe (tC (.int 1)) (tVar 0)) (tOp rLe (tVar 0) (tC (.int 9))))
theorem pure_is_size {K : PySem.W.Frag} (vs : List V) (H : Hp) (Q : VK) (E : XK) (h : sp_is_size K vs H Q E) : t_is_size K E { nx := fun _ H' => Q .non H', rt := Q } (start ["number"] vs) H := by
  obtain ⟨n, rfl, k⟩ := h
  unfold t_is_size
  walk_at "go"
  refine ifD (fun h1 => ?_) (fun h1 => ?_)
  · walk_at "go"
    simpa [h1] using k
  · simpa [h1] using k
end Pw
namespace Pw
def sp_see_parcels (K : PySem.W.Frag) : Sp := fun vs H Q E => ∃ (a : Addr) (ns : List Int), vs = [.ref a] ∧ SqL K H a (ns.map V.int) ∧ (OkP ns → Q .non H) ∧ (¬ OkP ns → E (.ref (He.ga K "NoSize")) none H)
theorem len_see_parcels {K : PySem.W.Frag} : ∀ vs H Q E, sp_see_parcels K vs H Q E → vs.length = 1 := by
  rintro vs H Q E ⟨_, _, rfl, _⟩
  rfl
def t_see_parcels (K : PySem.W.Frag) (E : XK) : TS :=
  tForP (iList K (tVar 0)) (gName 1) (tIfS (tNot (tB (tCall (sp_is_size K) [] E0 (tCons (tVar 1) tNil)))) (tRaise E (He.ga K "NoSize")) (tNext))
theorem pure_see_parcels {K : PySem.W.Frag} (vs : List V) (H : Hp) (Q : VK) (E : XK) (h : sp_see_parcels K vs H Q E) : t_see_parcels K E { nx := fun _ H' => Q .non H', rt := Q } (start ["parcels", "size"] vs) H := by
  obtain ⟨a, ns, rfl, hS, k, kE⟩ := h
  unfold t_see_parcels
  walk_at "go"
  refine forList (K := K) (a := a) (xs := ns.map V.int) (fun i σ H' => ∃ v : Option V, σ = [some (.ref a), v] ∧ H' = H ∧ ∀ x ∈ ns.take i, 1 ≤ x ∧ x ≤ 9) ⟨none, rfl, rfl, by simp⟩ ?_ ?_ ?_
  · rintro i σ H' _ ⟨v, _, rfl, _⟩
    exact hS
  · rintro i x σ H' hi ⟨v, rfl, rfl, ha⟩
    obtain ⟨n, hn, rfl⟩ := mapGet hi
    walk_at "go"
    refine ifN (fun c => ?_) (fun c => ?_)
    · refine kE fun o => c (o n (List.mem_of_getElem? hn))
    · walk_at "go"
      intro x hx
      rw [takeMore hn] at hx
      rcases List.mem_append.mp hx with q | q
      · exact ha x q
      · rw [List.mem_singleton.mp q]; exact c
  · rintro σ H' ⟨v, rfl, rfl, ha⟩
    rw [List.length_map, List.take_length] at ha
    exact k ha
end Pw
namespace Pw
/-! ### data that is compared as a whole -/
structure PlD (n : Nat) (d : PyData) : Prop where
  c : d.canLay0 = true
  dp : d.depth ≤ n
theorem plInt (i : Int) : PlD 0 (.int i) := ⟨by simp [PyData.canLay0], by simp [PyData.depth]⟩
theorem plBool (b : Bool) : PlD 0 (.bool b) := ⟨by simp [PyData.canLay0], by simp [PyData.depth]⟩
theorem plStr (x : Str) (h : PyData.strOk x = true) : PlD 0 (.str x) := ⟨by simp [PyData.canLay0, h], by simp [PyData.depth]⟩
theorem plNone : PlD 0 .none := ⟨by simp [PyData.canLay0], by simp [PyData.depth]⟩
theorem PlD.up {n m : Nat} {d : PyData} (h : PlD n d) (hm : n ≤ m) : PlD m d := ⟨h.c, Nat.le_trans h.dp hm⟩
theorem plAll {n : Nat} : ∀ {ds : List PyData}, (∀ d ∈ ds, PlD n d) → PyData.canLayAll0 ds = true ∧ PyData.depthAll ds ≤ n
  | [], _ => ⟨by simp [PyData.canLayAll0], by simp [PyData.depthAll]⟩
  | d :: r, h => by
    have a := h d List.mem_cons_self
    have b := plAll (ds := r) fun x hx => h x (List.mem_cons_of_mem _ hx)
    refine ⟨?_, ?_⟩
    · simp only [PyData.canLayAll0, a.c, b.1, Bool.and_self]
    · have a2 := a.dp
      simp only [PyData.depthAll]
      omega
theorem plList {n : Nat} {ds : List PyData} (h : ∀ d ∈ ds, PlD n d) : PlD (n + 1) (.list ds) := by
  have q := plAll h
  exact ⟨by simp only [PyData.canLay0]; exact q.1, by simp only [PyData.depth]; omega⟩
theorem plTup {n : Nat} {ds : List PyData} (h : ∀ d ∈ ds, PlD n d) : PlD (n + 1) (.tuple ds) := by
  have q := plAll h
  exact ⟨by simp only [PyData.canLay0]; exact q.1, by simp only [PyData.depth]; omega⟩
theorem PlD.ok {n : Nat} {d : PyData} (h : PlD n d) (hn : n ≤ 64) : SeqAt.shaped d = true := by
  unfold SeqAt.shaped
  rw [h.c, decide_eq_true (Nat.le_trans h.dp hn)]; rfl
theorem PlD.eq {n : Nat} {d : PyData} (h : PlD n d) : PyData.eqv d d = true := SeqAt.eqv_refl d h.c
theorem dpAllMap {α : Type} {K : PySem.W.Frag} {H : Hp} {f : α → V} {g : α → PyData} (h : ∀ x, Dp K H (f x) (g x)) : ∀ xs : List α, DpAll K H (xs.map f) (xs.map g)
  | [] => .nil
  | x :: r => .cons (h x) (dpAllMap h r)
theorem dpInts {K : PySem.W.Frag} {H : Hp} {a : Addr} {ns : List Int} (h : SqL K H a (ns.map V.int)) : Dp K H (.ref a) (.list (ns.map PyData.int)) := .lst h (dpAllMap (fun x => .int x) ns)
theorem plInts (ns : List Int) : PlD 1 (.list (ns.map PyData.int)) := plList fun d hd => by
  obtain ⟨x, _, rfl⟩ := List.mem_map.mp hd
  exact plInt x
theorem plMem1 {n : Nat} {a : PyData} (h : PlD n a) : ∀ d ∈ [a], PlD n d := fun d hd => by
  rw [List.mem_singleton.mp hd]; exact h
theorem plCons {n : Nat} {a : PyData} {r : List PyData} (h : PlD n a) (h2 : ∀ d ∈ r, PlD n d) : ∀ d ∈ a :: r, PlD n d := fun d hd => by
  rcases List.mem_cons.mp hd with e | e
  · rw [e]; exact h
  · exact h2 d e
theorem plNil {n : Nat} : ∀ d ∈ ([] : List PyData), PlD n d := fun d hd => by cases hd
/-- two lists of ints in a list -/
theorem dpTwo {K : PySem.W.Frag} {H : Hp} {l a b : Addr} {xs ys : List Int} (h : SqL K H l [.ref a, .ref b]) (ha : SqL K H a (xs.map V.int)) (hb : SqL K H b (ys.map V.int)) :
    Dp K H (.ref l) (.list [.list (xs.map PyData.int), .list (ys.map PyData.int)]) := .lst h (.cons (dpInts ha) (.cons (dpInts hb) .nil))
theorem plTwo (xs ys : List Int) : PlD 2 (.list [.list (xs.map PyData.int), .list (ys.map PyData.int)]) := plList (plCons (plInts xs) (plCons (plInts ys) plNil))
/-- != of two such -/
theorem neTwo {K : PySem.W.Frag} {H : Hp} {l l' a b a' b' : Addr} {xs ys : List Int} {Q : VK} (h : SqL K H l [.ref a, .ref b]) (ha : SqL K H a (xs.map V.int)) (hb : SqL K H b (ys.map V.int))
    (h' : SqL K H l' [.ref a', .ref b']) (ha' : SqL K H a' (xs.map V.int)) (hb' : SqL K H b' (ys.map V.int)) (k : Q (.bl false) H) : rNeDI K (.ref l) (.ref l') H Q := by
  unfold rNeDI
  exact ⟨_, _, dpTwo h ha hb, dpTwo h' ha' hb', (plTwo xs ys).ok (by decide), (plTwo xs ys).ok (by decide), by rw [(plTwo xs ys).eq]; exact k⟩
theorem eqTwo {K : PySem.W.Frag} {H : Hp} {l l' a b a' b' : Addr} {xs ys : List Int} {Q : VK} (h : SqL K H l [.ref a, .ref b]) (ha : SqL K H a (xs.map V.int)) (hb : SqL K H b (ys.map V.int))
    (h' : SqL K H l' [.ref a', .ref b']) (ha' : SqL K H a' (xs.map V.int)) (hb' : SqL K H b' (ys.map V.int)) (k : Q (.bl true) H) : rEqDI K (.ref l) (.ref l') H Q := by
  unfold rEqDI
  exact ⟨_, _, dpTwo h ha hb, dpTwo h' ha' hb', (plTwo xs ys).ok (by decide), (plTwo xs ys).ok (by decide), by rw [(plTwo xs ys).eq]; exact k⟩
end Pw
namespace Pw
section
variable {K : PySem.W.Frag} {H : Hp} {x y : V} {d : PyData} {n : Nat} {Q : VK}
theorem eqSame (h : Dp K H x d) (h' : Dp K H y d) (pl : PlD n d) (k : Q (.bl true) H) (hn : n ≤ 64 := by decide) : rEqDI K x y H Q := by
  unfold rEqDI
  exact ⟨_, _, h, h', pl.ok hn, pl.ok hn, by rw [pl.eq]; exact k⟩
theorem neSame (h : Dp K H x d) (h' : Dp K H y d) (pl : PlD n d) (k : Q (.bl false) H) (hn : n ≤ 64 := by decide) : rNeDI K x y H Q := by
  unfold rNeDI
  exact ⟨_, _, h, h', pl.ok hn, pl.ok hn, by rw [pl.eq]; exact k⟩
theorem dpBools {a : Addr} (bs : List Bool) (h : SqL K H a (bs.map V.bl)) : Dp K H (.ref a) (.list (bs.map PyData.bool)) := .lst h (dpAllMap (fun x => .bl x) bs)
theorem plBools (bs : List Bool) : PlD 1 (.list (bs.map PyData.bool)) := plList fun d hd => by
  obtain ⟨x, _, rfl⟩ := List.mem_map.mp hd
  exact plBool x
theorem dpPair {p : Addr} {u v : V} {du dv : PyData} (h : H p = some (.tup [u, v])) (hu : Dp K H u du) (hv : Dp K H v dv) : Dp K H (.ref p) (.tuple [du, dv]) := .tup (SqT.of h) (.cons hu (.cons hv .nil))
theorem plPair {du dv : PyData} (hu : PlD n du) (hv : PlD n dv) : PlD (n + 1) (.tuple [du, dv]) := plTup (plCons hu (plCons hv plNil))
theorem dpNil {p : Addr} (h : SqL K H p []) : Dp K H (.ref p) (.list []) := .lst h .nil
theorem plNilL : PlD 1 (.list []) := plList plNil
end
theorem WallAt.lstUpd {K : PySem.W.Frag} {H : Hp} {s : WS} {a : Addr} {xs ys : List V} (h : WallAt K H s) (ha : H a = some (.lst xs)) (n1 : a ≠ s.l1) (n2 : a ≠ s.l2) (n3 : a ≠ s.l3) : WallAt K (upd H a (.lst ys)) s :=
  ⟨by rw [upd_ne (ne_of h.ob ha (by intro q; cases q))]; exact h.ob, by rw [upd_ne (Ne.symm n1)]; exact h.bx, by rw [upd_ne (Ne.symm n2)]; exact h.is,
   let ⟨ts, h1, h2, h3⟩ := h.ps; ⟨ts, by rw [upd_ne (Ne.symm n3)]; exact h1, h2, fun j t q => by rw [upd_ne (ne_of (h3 j t q) ha (by intro q; cases q))]; exact h3 j t q⟩, h.n12, h.n13, h.n23, h.len, h.l8, h.pl, h.nb⟩
end Pw
namespace Pw
/-! ### lists of pairs of ints -/
def pairAt (H : Hp) (v : V) : Int × Int := match v with
  | .ref t => (match H t with
    | some (.tup [.int i, .int j]) => (i, j)
    | _ => (0, 0))
  | _ => (0, 0)
theorem pairAt_of {H : Hp} {t : Addr} {i j : Int} (h : H t = some (.tup [.int i, .int j])) : pairAt H (.ref t) = (i, j) := by
  unfold pairAt
  simp only [h]
def IsPair (H : Hp) (y : V) : Prop := ∃ (t : Addr) (i j : Int), y = V.ref t ∧ H t = some (.tup [.int i, .int j])
theorem IsPair.at_ {H : Hp} {y : V} (h : IsPair H y) : ∃ t, y = V.ref t ∧ H t = some (.tup [.int (pairAt H y).1, .int (pairAt H y).2]) := by
  obtain ⟨t, i, j, rfl, e⟩ := h
  exact ⟨t, rfl, by rw [pairAt_of e]; exact e⟩
theorem IsPair.keep {H H' : Hp} {y : V} (h : IsPair H y) (s : ∀ t i j, H t = some (.tup [.int i, .int j]) → H' t = some (.tup [.int i, .int j])) : IsPair H' y ∧ pairAt H' y = pairAt H y := by
  obtain ⟨t, i, j, rfl, e⟩ := h
  exact ⟨⟨t, i, j, rfl, s _ _ _ e⟩, by rw [pairAt_of e, pairAt_of (s _ _ _ e)]⟩
/-- a list of pairs stands at p -/
structure PairL (H : Hp) (p : Addr) (ps : List (Int × Int)) : Prop where
  ex : ∃ ys : List V, H p = some (.lst ys) ∧ (∀ y ∈ ys, IsPair H y) ∧ ys.map (pairAt H) = ps
theorem mapKeep {H H' : Hp} {ys : List V} (h : ∀ y ∈ ys, IsPair H y) (s : ∀ t i j, H t = some (.tup [.int i, .int j]) → H' t = some (.tup [.int i, .int j])) : (∀ y ∈ ys, IsPair H' y) ∧ ys.map (pairAt H') = ys.map (pairAt H) :=
  ⟨fun y hy => ((h y hy).keep s).1, List.map_congr_left fun y hy => ((h y hy).keep s).2⟩
theorem PairL.mono {H H' : Hp} {p : Addr} {ps : List (Int × Int)} (h : PairL H p ps) (s : Same H H') : PairL H' p ps := by
  obtain ⟨ys, h1, h2, h3⟩ := h.ex
  have q := mapKeep (H' := H') h2 fun t i j e => s _ _ e
  exact ⟨ys, s _ _ h1, q.1, by rw [q.2, h3]⟩
theorem PairL.at_ {H : Hp} {p : Addr} {ps : List (Int × Int)} (h : PairL H p ps) {z : Int} (h0 : 0 ≤ z) (h1 : z < ps.length) :
    ∃ ys t, H p = some (.lst ys) ∧ atI ys z = some (V.ref t) ∧ H t = some (.tup [.int (ps.getD z.toNat (0, 0)).1, .int (ps.getD z.toNat (0, 0)).2]) := by
  obtain ⟨ys, e1, e2, e3⟩ := h.ex
  have hl : ys.length = ps.length := by rw [← e3, List.length_map]
  have hz : z.toNat < ys.length := by omega
  obtain ⟨t, ht, hh⟩ := (e2 ys[z.toNat] (List.getElem_mem hz)).at_
  refine ⟨ys, t, e1, at_of (j := z.toNat) (by omega) (by rw [List.getElem?_eq_getElem hz, ht]), ?_⟩
  have e : ps.getD z.toNat (0, 0) = pairAt H ys[z.toNat] := by
    rw [← e3, List.getD_eq_getElem?_getD, List.getElem?_map, List.getElem?_eq_getElem hz]; rfl
  rw [e]; exact hh
theorem PairL.len {H : Hp} {p : Addr} {ps : List (Int × Int)} (h : PairL H p ps) : ∃ ys, H p = some (.lst ys) ∧ ys.length = ps.length := by
  obtain ⟨ys, e1, _, e3⟩ := h.ex
  exact ⟨ys, e1, by rw [← e3, List.length_map]⟩
theorem PairL.nil {H : Hp} {p : Addr} (h : H p = some (.lst [])) : PairL H p [] := ⟨[], h, fun y hy => (by cases hy), rfl⟩
theorem PairL.snoc {H : Hp} {D t : Addr} {ps : List (Int × Int)} {i j : Int} (h : PairL H D ps) (ht : H t = some (.tup [.int i, .int j])) :
    ∃ ys, H D = some (.lst ys) ∧ ys.length = ps.length ∧ PairL (upd H D (.lst (ys ++ [V.ref t]))) D (ps ++ [(i, j)]) := by
  obtain ⟨ys, e1, e2, e3⟩ := h.ex
  refine ⟨ys, e1, by rw [← e3, List.length_map], ?_⟩
  have s : ∀ (t' : Addr) (i j : Int), H t' = some (.tup [.int i, .int j]) → upd H D (.lst (ys ++ [V.ref t])) t' = some (.tup [.int i, .int j]) := fun t' i j e => by
    rw [upd_ne (ne_of e e1 (by intro q; cases q))]; exact e
  have q := mapKeep (H' := upd H D (.lst (ys ++ [V.ref t]))) e2 s
  refine ⟨ys ++ [V.ref t], upd_same, fun y hy => ?_, ?_⟩
  · rcases List.mem_append.mp hy with z | z
    · exact q.1 y z
    · rw [List.mem_singleton.mp z]; exact ⟨t, i, j, rfl, s _ _ _ ht⟩
  · rw [List.map_append, q.2, e3]
    show ps ++ [pairAt _ (V.ref t)] = _
    rw [pairAt_of (s _ _ _ ht)]
def LexLe (p q : Int × Int) : Prop := p.1 < q.1 ∨ (p.1 = q.1 ∧ p.2 ≤ q.2)
/-- sorted(ps) -/
theorem sortedPairs {K : PySem.W.Frag} {H : Hp} {Q : VK} {a : Addr} {ps : List (Int × Int)} (h : PairL H a ps)
    (k : ∀ (ps' : List (Int × Int)) (p : Addr) (H' : Hp), ps'.Perm ps → ps'.Pairwise LexLe → Same H H' → H p = none → PairL H' p ps' → Q (.ref p) H') : rSortPO K [.ref a] H Q := by
  unfold rSortPO
  obtain ⟨ys, e1, e2, e3⟩ := h.ex
  refine ⟨a, ys, pairAt H, rfl, SqL.of e1, fun x hx => (e2 x hx).at_, fun zs p hs hst hp => ?_⟩
  have hperm : zs.Perm ys := hst.perm
  have s : Same H (upd H p (.lst zs)) := sameNew (Same.refl _) hp
  have hz : ∀ y ∈ zs, IsPair H y := fun y hy => e2 y (hperm.mem_iff.mp hy)
  have q := mapKeep (H' := upd H p (.lst zs)) hz fun t i j e => s _ _ e
  refine k (zs.map (pairAt H)) p _ (by rw [← e3]; exact hperm.map _) ?_ s hp ⟨zs, upd_same, q.1, q.2⟩
  rw [List.pairwise_map]
  refine List.Pairwise.imp (fun {x y} hxy => ?_) hs
  have := SrtO.lexB_no.mp hxy
  unfold LexLe
  omega
section
variable {K : PySem.W.Frag} {tt : TT} {te : TE} {vs : List Nat} {j : Nat} {σ : L2.St} {H1 : Hp} {D : Addr} {Qd : Hp → Prop}
/-- [(f(i), g(i)) for i in range(n) if p(i)] -/
theorem lcPairs {lo : Int} {n : Nat} (p : Nat → Bool) (f g : Nat → Int) (hD : H1 D = none) (hlen : n ≤ 50000) (hw : ∀ x, wipe ((wipe σ vs).set j (some x)) vs = wipe σ vs)
    (ht : ∀ (i : Nat) H', i < n → Same H1 H' → ∀ T : Bool → Hp → Prop, (∀ H'', Same H' H'' → T (p i) H'') → tt ((wipe σ vs).set j (some (.int (lo + i)))) H' T)
    (he : ∀ (i : Nat) H', i < n → p i = true → Same H1 H' → ∀ Qv : VK, (∀ t H'', Same H' H'' → H'' t = some (.tup [.int (f i), .int (g i)]) → Qv (.ref t) H'') → te ((wipe σ vs).set j (some (.int (lo + i)))) H' Qv)
    (hd : ∀ H', Same H1 H' → PairL H' D (((List.range n).filter p).map fun i => (f i, g i)) → Qd H') :
    ∃ W : Nat → Nat → Hp → Prop, (∃ m, W 0 m (upd H1 D (.lst []))) ∧ ∀ i m H, W i m H →
      ((Itr lo n).stop i H ∧ Qd H) ∨ ((Itr lo n).go i H ∧ ∃ Nx : Hp → Prop, (∀ H', Nx H' → ∃ m', m' < m ∧ W (i + 1) m' H') ∧ ∀ x H', (Itr lo n).yld i H x H' → gName j x (wipe σ vs) H' fun σ2 H2 => wipe σ2 vs = wipe σ vs ∧ tt σ2 H2 fun b H3 =>
        if b = true then te σ2 H3 fun y H4 => ∃ acc, H4 D = some (.lst acc) ∧ acc.length < sizeLine ∧ Nx (upd H4 D (.lst (acc ++ [y]))) else Nx H3) := by
  refine lc_range (lo := lo) (n := n) (fun i H' => Same H1 H' ∧ PairL H' D (((List.range i).filter p).map fun i => (f i, g i))) ⟨sameNew (Same.refl _) hD, PairL.nil upd_same⟩ ?_ ?_
  · rintro i H' hi ⟨s, hL⟩
    refine ⟨hw _, ?_⟩
    refine ht i H' hi s _ fun H3 s3 => ?_
    have e : ((List.range (i + 1)).filter p).map (fun i => (f i, g i)) = ((List.range i).filter p).map (fun i => (f i, g i)) ++ (if p i = true then [(f i, g i)] else []) := by
      rw [List.range_succ, List.filter_append, List.map_append]
      congr 1
      by_cases c : p i = true
      · rw [if_pos c]; simp [c]
      · rw [if_neg c]; simp [c]
    refine ifB (fun c => ?_) (fun c => ?_)
    · refine he i H3 hi c (s.trans s3) _ fun t H4 s4 ht4 => ?_
      rw [if_pos c] at e
      obtain ⟨ys, y1, y2, y3⟩ := (hL.mono (s3.trans s4)).snoc ht4
      refine ⟨ys, y1, ?_, sameMut (s.trans (s3.trans s4)) hD, by rw [e]; exact y3⟩
      have q1 : (((List.range i).filter p).map fun i => (f i, g i)).length ≤ i := by
        rw [List.length_map]
        exact Nat.le_trans (List.length_filter_le _ _) (by rw [List.length_range]; omega)
      exact szLt (by omega)
    · rw [if_neg (by rw [c]; exact Bool.false_ne_true), List.append_nil] at e
      exact ⟨s.trans s3, by rw [e]; exact hL.mono s3⟩
  · rintro H' ⟨s, hL⟩
    exact hd H' s hL
end
/-! ### how many are as great -/
def cntGe (xs : List Int) (s : Int) : Nat := (xs.filter fun x => decide (s ≤ x)).length
theorem cntGe_cons (x : Int) (xs : List Int) (s : Int) : cntGe (x :: xs) s = (if s ≤ x then 1 else 0) + cntGe xs s := by
  unfold cntGe
  by_cases h : s ≤ x
  · simp [h]; omega
  · simp [h]
theorem cntGe_perm {xs ys : List Int} (h : xs.Perm ys) (s : Int) : cntGe xs s = cntGe ys s := (h.filter _).length_eq
theorem cntGe_zero {xs : List Int} {s : Int} (h : ∀ y ∈ xs, y < s) : cntGe xs s = 0 := by
  induction xs with
  | nil => rfl
  | cons x r ih =>
    rw [cntGe_cons, if_neg (by have := h x List.mem_cons_self; omega), ih fun y hy => h y (List.mem_cons_of_mem _ hy)]
theorem cntGe_le (xs : List Int) (s : Int) : cntGe xs s ≤ xs.length := List.length_filter_le _ _
theorem cntGe_all {xs : List Int} {s : Int} (h : ∀ y ∈ xs, s ≤ y) : cntGe xs s = xs.length := by
  induction xs with
  | nil => rfl
  | cons x r ih =>
    rw [cntGe_cons, if_pos (h x List.mem_cons_self), ih fun y hy => h y (List.mem_cons_of_mem _ hy), List.length_cons]; omega
/-- in a falling list the first of those as great as s -/
theorem desc_cnt : ∀ {A : List Int} {s : Int}, A.Pairwise (fun x y => y ≤ x) → ∀ (k : Nat) (hk : k < A.length), s ≤ A[k] ↔ k < cntGe A s
  | [], _, _, k, hk => absurd hk (Nat.not_lt_zero _)
  | x :: r, s, h, k, hk => by
    obtain ⟨h1, h2⟩ := List.pairwise_cons.mp h
    rw [cntGe_cons]
    by_cases c : s ≤ x
    · rw [if_pos c]
      cases k with
      | zero => show s ≤ x ↔ _; exact ⟨fun _ => by omega, fun _ => c⟩
      | succ k =>
        have hk' : k < r.length := Nat.lt_of_succ_lt_succ hk
        have ih := desc_cnt (s := s) h2 k hk'
        show s ≤ r[k] ↔ _
        rw [ih]; omega
    · rw [if_neg c, cntGe_zero (fun y hy => by have := h1 y hy; omega)]
      constructor
      · intro q
        cases k with
        | zero => exact absurd q c
        | succ k =>
          have := h1 _ (List.getElem_mem (Nat.lt_of_succ_lt_succ hk))
          have q : s ≤ r[k]'(Nat.lt_of_succ_lt_succ hk) := q
          omega
      · intro q; omega
theorem fallen_le {A B : List Int} (hA : A.Pairwise fun x y => y ≤ x) (hB : B.Pairwise fun x y => y ≤ x) (h : ∀ s, 1 ≤ s → s ≤ 9 → cntGe A s ≤ cntGe B s) (hr : ∀ x ∈ A, 1 ≤ x ∧ x ≤ 9) (k : Nat) (hk : k < A.length) :
    ∃ hk' : k < B.length, A[k] ≤ B[k] := by
  have hs := hr _ (List.getElem_mem hk)
  have c1 := (desc_cnt (s := A[k]) hA k hk).mp (Int.le_refl _)
  have c2 := h A[k] hs.1 hs.2
  have c3 := cntGe_le B A[k]
  have hk' : k < B.length := by omega
  exact ⟨hk', (desc_cnt hB k hk').mpr (by omega)⟩
/-! ### a fitting -/
def Boxes (sizes parcels fs : List Int) : Prop := fs.length = parcels.length ∧ (∀ k < parcels.length, 0 ≤ fs.getD k 0 ∧ fs.getD k 0 < sizes.length ∧ parcels.getD k 0 ≤ sizes.getD (fs.getD k 0).toNat 0) ∧ fs.Nodup
def Many (sizes parcels : List Int) (s : Int) : Prop := 1 ≤ s ∧ s ≤ 9 ∧ cntGe sizes s < cntGe parcels s
/-- the falling order of xs, with the places -/
structure Fall (xs : List Int) (ps : List (Int × Int)) : Prop where
  perm : ps.Perm ((List.range xs.length).map fun i => (0 - xs.getD i 0, (i : Int)))
  srt : ps.Pairwise LexLe
namespace Fall
variable {xs : List Int} {ps : List (Int × Int)} (F : Fall xs ps)
include F
theorem len : ps.length = xs.length := by rw [F.perm.length_eq]; simp
theorem item {j : Nat} (hj : j < ps.length) : ∃ i : Nat, i < xs.length ∧ (ps.getD j (0, 0)).2 = (i : Int) ∧ (ps.getD j (0, 0)).1 = 0 - xs.getD i 0 := by
  have e : ps.getD j (0, 0) = ps[j] := by rw [List.getD_eq_getElem?_getD, List.getElem?_eq_getElem hj]; rfl
  have m := F.perm.mem_iff.mp (List.getElem_mem hj)
  obtain ⟨i, hi, q⟩ := List.mem_map.mp m
  exact ⟨i, List.mem_range.mp hi, by rw [e, ← q], by rw [e, ← q]⟩
theorem places : (ps.map (·.2)).Perm ((List.range xs.length).map fun i : Nat => (i : Int)) := by
  have q := F.perm.map (·.2)
  rw [List.map_map] at q
  exact q
theorem nodup : (ps.map (·.2)).Nodup := by
  refine F.places.nodup_iff.mpr ?_
  refine List.Pairwise.map _ (R := (· ≠ ·)) (fun a b h e => h (by omega)) List.nodup_range
theorem vals : (ps.map fun p => 0 - p.1).Perm xs := by
  have q := F.perm.map (fun p => 0 - p.1)
  rw [List.map_map] at q
  have e : (List.range xs.length).map ((fun p : Int × Int => 0 - p.1) ∘ fun i => (0 - xs.getD i 0, (i : Int))) = xs := by
    refine List.ext_getElem (by simp) fun i h1 h2 => ?_
    rw [List.getElem_map, List.getElem_range]
    show 0 - (0 - xs.getD i 0) = _
    rw [getDlt h2]; omega
  rw [e] at q
  exact q
theorem falls : (ps.map fun p => 0 - p.1).Pairwise fun x y => y ≤ x := by
  rw [List.pairwise_map]
  exact F.srt.imp fun {x y} h => by unfold LexLe at h; omega
end Fall
/-- what the two orders tell: the k-th greatest parcel goes into the k-th greatest box -/
theorem fall_fits {sizes parcels : List Int} {po pf : List (Int × Int)} (O : Fall parcels po) (F : Fall sizes pf) (okp : OkP parcels) (h : ∀ s, 1 ≤ s → s ≤ 9 → cntGe parcels s ≤ cntGe sizes s) {j : Nat} (hj : j < po.length) :
    ∃ (i b : Nat), i < parcels.length ∧ b < sizes.length ∧ j < pf.length ∧ (po.getD j (0, 0)).2 = (i : Int) ∧ (pf.getD j (0, 0)).2 = (b : Int) ∧ parcels.getD i 0 ≤ sizes.getD b 0 := by
  obtain ⟨i, hi, e1, e2⟩ := O.item hj
  obtain ⟨hk, hle⟩ := fallen_le O.falls F.falls (fun s h1 h2 => by rw [cntGe_perm O.vals, cntGe_perm F.vals]; exact h s h1 h2) (fun x hx => okp x (O.vals.mem_iff.mp hx)) j (by rw [List.length_map]; exact hj)
  have hj2 : j < pf.length := by rw [List.length_map] at hk; exact hk
  obtain ⟨b, hb, f1, f2⟩ := F.item hj2
  refine ⟨i, b, hi, hb, hj2, e1, f1, ?_⟩
  rw [List.getElem_map, List.getElem_map] at hle
  have e : po.getD j (0, 0) = po[j] := by rw [List.getD_eq_getElem?_getD, List.getElem?_eq_getElem hj]; rfl
  have f : pf.getD j (0, 0) = pf[j] := by rw [List.getD_eq_getElem?_getD, List.getElem?_eq_getElem hj2]; rfl
  rw [e] at e2
  rw [f] at f2
  omega
/-- the boxes found so far -/
def Found (po pf : List (Int × Int)) (n i : Nat) (fs : List Int) : Prop := fs.length = n ∧ ∀ j < i, fs.getD (po.getD j (0, 0)).2.toNat 0 = (pf.getD j (0, 0)).2
theorem found_set {xs : List Int} {po pf : List (Int × Int)} (O : Fall xs po) {i : Nat} {fs : List Int} (hi : i < po.length) (h : Found po pf xs.length i fs) : Found po pf xs.length (i + 1) (fs.set (po.getD i (0, 0)).2.toNat (pf.getD i (0, 0)).2) := by
  obtain ⟨hl, ha⟩ := h
  obtain ⟨a, ha1, ha2, _⟩ := O.item hi
  refine ⟨by rw [List.length_set]; exact hl, fun j hj => ?_⟩
  obtain ⟨b, hb1, hb2, _⟩ := O.item (j := j) (by omega)
  by_cases c : j = i
  · subst c
    rw [List.getD_eq_getElem?_getD, List.getElem?_set_self (by rw [ha2]; omega)]; rfl
  · have ne : (po.getD i (0, 0)).2.toNat ≠ (po.getD j (0, 0)).2.toNat := fun e => by
      have nd := O.nodup
      have hj' : j < (po.map (·.2)).length := by rw [List.length_map]; omega
      have hi' : i < (po.map (·.2)).length := by rw [List.length_map]; omega
      have q : (po.map (·.2))[i] = (po.map (·.2))[j] := by
        rw [List.getElem_map, List.getElem_map]
        have e1 : po.getD i (0, 0) = po[i] := by rw [List.getD_eq_getElem?_getD, List.getElem?_eq_getElem hi]; rfl
        have e2 : po.getD j (0, 0) = po[j]'(by omega) := by rw [List.getD_eq_getElem?_getD, List.getElem?_eq_getElem (by omega)]; rfl
        rw [← e1, ← e2]; omega
      exact c ((List.getElem_inj nd).mp q).symm
    rw [List.getD_eq_getElem?_getD, List.getElem?_set_ne ne, ← List.getD_eq_getElem?_getD]
    exact ha j (by omega)
theorem found_boxes {sizes parcels : List Int} {po pf : List (Int × Int)} (O : Fall parcels po) (F : Fall sizes pf) (okp : OkP parcels) (h : ∀ s, 1 ≤ s → s ≤ 9 → cntGe parcels s ≤ cntGe sizes s) {fs : List Int} (hf : Found po pf parcels.length po.length fs) : Boxes sizes parcels fs := by
  obtain ⟨hl, ha⟩ := hf
  have key : ∀ k < parcels.length, ∃ j, j < po.length ∧ (po.getD j (0, 0)).2 = (k : Int) := fun k hk => by
    have m : ((k : Nat) : Int) ∈ po.map (·.2) := O.places.mem_iff.mpr (List.mem_map.mpr ⟨k, List.mem_range.mpr hk, rfl⟩)
    obtain ⟨j, hj, e⟩ := List.mem_iff_getElem.mp m
    rw [List.length_map] at hj
    rw [List.getElem_map] at e
    exact ⟨j, hj, by rw [List.getD_eq_getElem?_getD, List.getElem?_eq_getElem hj]; exact e⟩
  refine ⟨hl, fun k hk => ?_, ?_⟩
  · obtain ⟨j, hj, e⟩ := key k hk
    obtain ⟨i, b, hi, hb, hj2, e1, e2, e3⟩ := fall_fits O F okp h hj
    have q := ha j hj
    have : i = k := by omega
    subst this
    rw [e1] at q
    rw [show ((i : Nat) : Int).toNat = i from rfl] at q
    rw [q, e2]
    refine ⟨by omega, by omega, ?_⟩
    rw [show ((b : Nat) : Int).toNat = b from rfl]; exact e3
  · refine List.pairwise_iff_getElem.mpr fun k k' hk hk' hlt e => ?_
    obtain ⟨j, hj, e1⟩ := key k (by omega)
    obtain ⟨j', hj', e1'⟩ := key k' (by omega)
    obtain ⟨i, b, hi, hb, hj2, f1, f2, f3⟩ := fall_fits O F okp h hj
    obtain ⟨i', b', hi', hb', hj2', f1', f2', f3'⟩ := fall_fits O F okp h hj'
    have q := ha j hj
    have q' := ha j' hj'
    rw [e1, show ((k : Nat) : Int).toNat = k from rfl, getDlt hk] at q
    rw [e1', show ((k' : Nat) : Int).toNat = k' from rfl, getDlt hk'] at q'
    have eb : (pf.getD j (0, 0)).2 = (pf.getD j' (0, 0)).2 := by rw [← q, ← q', e]
    have nd := F.nodup
    have z : (pf.map (·.2))[j]'(by rw [List.length_map]; exact hj2) = (pf.map (·.2))[j']'(by rw [List.length_map]; exact hj2') := by
      rw [List.getElem_map, List.getElem_map]
      have x1 : pf.getD j (0, 0) = pf[j] := by rw [List.getD_eq_getElem?_getD, List.getElem?_eq_getElem hj2]; rfl
      have x2 : pf.getD j' (0, 0) = pf[j'] := by rw [List.getD_eq_getElem?_getD, List.getElem?_eq_getElem hj2']; rfl
      rw [← x1, ← x2]; exact eb
    have jj := (List.getElem_inj nd).mp z
    subst jj
    omega
end Pw
namespace Pw
/-- the box that a parcel of a size comes into: the least that holds it, the first of alike ones -/
def LB (sizes : List Int) (fs : List Nat) (size : Int) (b : Nat) : Prop := b ∈ fs ∧ size ≤ sizes.getD b 0 ∧ ∀ c ∈ fs, size ≤ sizes.getD c 0 → (sizes.getD b 0 < sizes.getD c 0 ∨ (sizes.getD b 0 = sizes.getD c 0 ∧ b ≤ c))
theorem LB.uniq {sizes : List Int} {fs : List Nat} {size : Int} {b c : Nat} (h : LB sizes fs size b) (h' : LB sizes fs size c) : b = c := by
  have h1 := h.2.2 c h'.1 h'.2.1
  have h2 := h'.2.2 b h.1 h.2.1
  omega
def freeL (inside : List (Option Nat)) : List Nat := (List.range inside.length).filter fun i => (inside.getD i none).isNone
theorem mem_free {l : List (Option Nat)} {b : Nat} : b ∈ freeL l ↔ b < l.length ∧ l.getD b none = none := by
  unfold freeL
  rw [List.mem_filter, List.mem_range, Option.isNone_iff_eq_none]
theorem free_lt (l : List (Option Nat)) : (freeL l).Pairwise (· < ·) := List.Pairwise.filter _ List.pairwise_lt_range
theorem free_len (l : List (Option Nat)) : (freeL l).length ≤ l.length := freeLen l
def WS.came (s : WS) (b : Nat) (size till : Int) : WS := { s with inside := s.inside.set b (some s.parcels.length), parcels := s.parcels ++ [(size, till)] }
theorem WallAt.came {K : PySem.W.Frag} {H : Hp} {s : WS} (A : WallAt K H s) {ts : List Addr} (h1 : H s.l3 = some (.lst (ts.map V.ref))) (h2 : ts.length = s.parcels.length)
    (h3 : ∀ (j : Nat) (t : Addr), ts[j]? = some t → H t = some (.tup [.int (s.parcels.getD j (0, 0)).1, .int (s.parcels.getD j (0, 0)).2])) {t : Addr} {size till : Int} (ht : H t = some (.tup [.int size, .int till])) {b : Nat} (hp : s.parcels.length < 1000) :
    WallAt K (upd (upd H s.l3 (.lst (ts.map V.ref ++ [V.ref t]))) s.l2 (.lst ((s.inside.set b (some s.parcels.length)).map optV))) (s.came b size till) := by
  have tne : ∀ {x : Addr} {u v : V}, H x = some (.tup [u, v]) → upd (upd H s.l3 (.lst (ts.map V.ref ++ [V.ref t]))) s.l2 (.lst ((s.inside.set b (some s.parcels.length)).map optV)) x = some (.tup [u, v]) := fun {x u v} e => by
    rw [upd_ne (ne_of e A.is (by intro q; cases q)), upd_ne (ne_of e h1 (by intro q; cases q))]; exact e
  refine ⟨?_, ?_, ?_, ⟨ts ++ [t], ?_, ?_, ?_⟩, A.n12, A.n13, A.n23, ?_, A.l8, ?_, ?_⟩
  · show upd _ s.l2 _ s.w = _
    rw [upd_ne (ne_of A.ob A.is (by intro q; cases q)), upd_ne (ne_of A.ob h1 (by intro q; cases q))]; exact A.ob
  · show upd _ s.l2 _ s.l1 = _
    rw [upd_ne A.n12, upd_ne A.n13]; exact A.bx
  · show upd _ s.l2 _ s.l2 = _
    exact upd_same
  · show upd _ s.l2 _ s.l3 = _
    rw [upd_ne (Ne.symm A.n23), upd_same, List.map_append]; rfl
  · show (ts ++ [t]).length = (s.parcels ++ [(size, till)]).length
    rw [List.length_append, List.length_append, h2]; rfl
  · intro j x hx
    show _ = some (HO.tup [.int ((s.parcels ++ [(size, till)]).getD j (0, 0)).1, .int ((s.parcels ++ [(size, till)]).getD j (0, 0)).2])
    rw [List.getD_eq_getElem?_getD]
    by_cases c : j < ts.length
    · rw [List.getElem?_append_left c] at hx
      rw [List.getElem?_append_left (by omega), ← List.getD_eq_getElem?_getD]
      exact tne (h3 j x hx)
    · have hj := getLt hx
      rw [List.length_append, List.length_singleton] at hj
      have e : j = ts.length := by omega
      subst e
      rw [List.getElem?_append_right (Nat.le_refl _), Nat.sub_self] at hx
      rw [List.getElem?_append_right (by omega), h2, Nat.sub_self]
      cases hx
      exact tne ht
  · show (s.inside.set b _).length = _
    rw [List.length_set]; exact A.len
  · show (s.parcels ++ [(size, till)]).length ≤ 1000
    rw [List.length_append, List.length_singleton]; omega
  · intro j n hn
    show n < (s.parcels ++ [(size, till)]).length
    have hn : (s.inside.set b (some s.parcels.length))[j]? = some (some n) := hn
    rw [List.length_append, List.length_singleton]
    rw [List.getElem?_set] at hn
    split at hn
    · split at hn
      · have : s.parcels.length = n := Option.some.inj (Option.some.inj hn)
        omega
      · cases hn
    · have := A.nb j n hn
      omega
theorem Frm.refl (s : WS) (H : Hp) : Frm s H H := fun _ _ e _ _ _ => e
theorem Frm.trans {s : WS} {H H1 H2 : Hp} (a : Frm s H H1) (b : Frm s H1 H2) : Frm s H H2 := fun x o e n1 n2 n3 => b x o (a x o e n1 n2 n3) n1 n2 n3
theorem Frm.same {s : WS} {H H1 : Hp} (a : Same H H1) : Frm s H H1 := fun x o e _ _ _ => a x o e
theorem setOpt {l : List (Option Nat)} {b n : Nat} : (l.map optV).set b (V.int (n : Int)) = (l.set b (some n)).map optV := by
  rw [List.map_set]; rfl
theorem setNon {l : List (Option Nat)} {b : Nat} : (l.map optV).set b V.non = (l.set b none).map optV := by
  rw [List.map_set]; rfl
end Pw
namespace Pw
theorem frmSame {s : WS} {H0 H1 H2 : Hp} (a : Same H0 H1) (f : Frm s H1 H2) (n1 : H0 s.w = none) (n2 : H0 s.l2 = none) (n3 : H0 s.l3 = none) : Same H0 H2 := fun x o e => f x o (a x o e) (ne_of_none e n1) (ne_of_none e n2) (ne_of_none e n3)
theorem lstNeW {K : PySem.W.Frag} {H : Hp} {s : WS} {a : Addr} {xs : List V} (A : WallAt K H s) (h : H a = some (.lst xs)) : a ≠ s.w := ne_of h A.ob (by intro q; cases q)
end Pw
namespace Pw
theorem WallAt.keep {K : PySem.W.Frag} {H H' : Hp} {s : WS} {as : List Addr} (A : WallAt K H s) (f : ∀ b o, H b = some o → b ∉ as → H' b = some o) (nw : s.w ∉ as) (n1 : s.l1 ∉ as) (n2 : s.l2 ∉ as) (n3 : s.l3 ∉ as)
    (nt : ∀ b u v, H b = some (.tup [u, v]) → b ∉ as) : WallAt K H' s :=
  ⟨f _ _ A.ob nw, f _ _ A.bx n1, f _ _ A.is n2, let ⟨ts, h1, h2, h3⟩ := A.ps; ⟨ts, f _ _ h1 n3, h2, fun j t q => f _ _ (h3 j t q) (nt _ _ _ (h3 j t q))⟩, A.n12, A.n13, A.n23, A.len, A.l8, A.pl, A.nb⟩
/-- the heap without some things -/
def hide (H : Hp) (as : List Addr) : Hp := fun x => if x ∈ as then none else H x
theorem hide_in {H : Hp} {as : List Addr} {x : Addr} (h : x ∈ as) : hide H as x = none := if_pos h
theorem hide_out {H : Hp} {as : List Addr} {x : Addr} (h : x ∉ as) : hide H as x = H x := if_neg h
theorem hide_same (H : Hp) (as : List Addr) : Same (hide H as) H := fun x o e => by
  unfold hide at e
  split at e
  · cases e
  · exact e
theorem sameHide {H0 H : Hp} {as : List Addr} (s : Same H0 H) (h : ∀ z ∈ as, H0 z = none) : Same H0 (hide H as) := fun x o e => by
  rw [hide_out (fun m => by rw [h x m] at e; cases e)]; exact s x o e
theorem notIn {H : Hp} {as : List Addr} {x : Addr} (h : ∀ z ∈ as, H z ≠ none) (hx : H x = none) : x ∉ as := fun m => h x m hx
theorem notIn2 {H : Hp} {as : List Addr} {x : Addr} {o : HO} (h : ∀ z ∈ as, H z = none) (hx : H x = some o) : x ∉ as := fun m => by rw [h x m] at hx; cases hx
theorem nilNot {x : Addr} : x ∉ ([] : List Addr) := by simp
theorem consNot {x a : Addr} {as : List Addr} (h : x ≠ a) (t : x ∉ as) : x ∉ a :: as := by simp [h, t]
theorem someNe {H : Hp} {x : Addr} {o : HO} (h : H x = some o) : H x ≠ none := by rw [h]; intro z; cases z
theorem PairL.upd_tup {H H' : Hp} {p : Addr} {ps : List (Int × Int)} {as : List Addr} (h : PairL H p ps) (f : ∀ b o, H b = some o → b ∉ as → H' b = some o) (hp : p ∉ as) (nt : ∀ b u v, H b = some (.tup [u, v]) → b ∉ as) : PairL H' p ps := by
  obtain ⟨ys, h1, h2, h3⟩ := h.ex
  have q := mapKeep (H' := H') h2 fun t i j e => f _ _ e (nt _ _ _ e)
  exact ⟨ys, f _ _ h1 hp, q.1, by rw [q.2, h3]⟩
end Pw
namespace Pw
theorem isNone_opt (x : Option Nat) : decide (optV x = V.non) = x.isNone := by
  cases x <;> simp [optV]
end Pw
namespace Pw
/-- all but some things stands as it was -/
def Kp (as : List Addr) (H H' : Hp) : Prop := ∀ b o, H b = some o → b ∉ as → H' b = some o
theorem Kp.ofSame {as : List Addr} {H H' : Hp} (s : Same H H') : Kp as H H' := fun b o e _ => s b o e
theorem Kp.ofFrm {s : WS} {H H' : Hp} (f : Frm s H H') : Kp [s.w, s.l2, s.l3] H H' := fun b o e n => f b o e (fun q => n (by simp [q])) (fun q => n (by simp [q])) (fun q => n (by simp [q]))
theorem Kp.trans {as : List Addr} {H H1 H2 : Hp} (f : Kp as H H1) (g : Kp as H1 H2) : Kp as H H2 := fun b o e n => g b o (f b o e n) n
theorem Kp.more {as bs : List Addr} {H H' : Hp} (f : Kp as H H') (h : ∀ z ∈ as, z ∈ bs) : Kp bs H H' := fun b o e n => f b o e fun m => n (h b m)
theorem Kp.toFrm {s : WS} {H H' : Hp} (f : Kp [s.w, s.l2, s.l3] H H') : Frm s H H' := fun b o e n1 n2 n3 => f b o e (by simp [n1, n2, n3])
theorem hideStep {H0 H1 H2 : Hp} {as bs : List Addr} (s : Same (hide H0 as) H1) (k : Kp bs H1 H2) (m : ∀ z ∈ bs, z ∈ as) : Same (hide H0 as) H2 := fun x o e =>
  k x o (s x o e) fun q => by rw [hide_in (m x q)] at e; cases e
theorem hideGet {H0 : Hp} {as : List Addr} {x : Addr} {o : HO} (h : H0 x = some o) (n : x ∉ as) : hide H0 as x = some o := by rw [hide_out n]; exact h
/-- which refusal is due of a parcel that comes -/
def Rf (sizes : List Int) (inside : List (Option Nat)) (size nights : Int) (u : Str) : Prop :=
  (u = ("NoSize" : Str) ∧ ¬ (1 ≤ size ∧ size ≤ 9)) ∨ (u = ("NoNights" : Str) ∧ (1 ≤ size ∧ size ≤ 9) ∧ ¬ (1 ≤ nights ∧ nights ≤ 9)) ∨
  (u = ("NoBox" : Str) ∧ (1 ≤ size ∧ size ≤ 9) ∧ (1 ≤ nights ∧ nights ≤ 9) ∧ ∀ b ∈ freeL inside, sizes.getD b 0 < size)
theorem Rf.uniq {sizes : List Int} {inside : List (Option Nat)} {size nights : Int} {u v : Str} (h : Rf sizes inside size nights u) (h' : Rf sizes inside size nights v) : u = v := by
  rcases h with ⟨rfl, a⟩ | ⟨rfl, a, b⟩ | ⟨rfl, a, b, c⟩ <;> rcases h' with ⟨rfl, a'⟩ | ⟨rfl, a', b'⟩ | ⟨rfl, a', b', c'⟩ <;> first | rfl | (exact absurd a a') | (exact absurd a' a) | (exact absurd b b') | (exact absurd b' b)
/-- let in: into the box b -/
def In (sizes : List Int) (inside : List (Option Nat)) (size nights : Int) (b : Nat) : Prop := (1 ≤ size ∧ size ≤ 9) ∧ (1 ≤ nights ∧ nights ≤ 9) ∧ LB sizes (freeL inside) size b
theorem In.not {sizes : List Int} {inside : List (Option Nat)} {size nights : Int} {b : Nat} {u : Str} (h : In sizes inside size nights b) (h' : Rf sizes inside size nights u) : False := by
  obtain ⟨a, c, d⟩ := h
  rcases h' with ⟨_, a'⟩ | ⟨_, a', b'⟩ | ⟨_, a', b', c'⟩
  · exact a' a
  · exact b' c
  · have := c' b d.1
    have := d.2.1
    omega
end Pw
namespace Pw
def sp_least_box (K : PySem.W.Frag) : Sp := fun vs H Q _ => ∃ (a f : Addr) (sizes : List Int) (fs : List Nat) (size : Int), vs = [.ref a, .ref f, .int size] ∧ SqL K H a (sizes.map V.int) ∧ SqL K H f (fs.map fun i : Nat => V.int (i : Int)) ∧ sizes.length ≤ 1000 ∧ fs.length ≤ 1000 ∧
  fs.Pairwise (· < ·) ∧ (∀ b ∈ fs, b < sizes.length) ∧ ((∀ b ∈ fs, sizes.getD b 0 < size) → Q .non H) ∧ ∀ b, LB sizes fs size b → Q (.int (b : Nat)) H
theorem len_least_box {K : PySem.W.Frag} : ∀ vs H Q E, sp_least_box K vs H Q E → vs.length = 3 := by
  rintro vs H Q E ⟨_, _, _, _, _, rfl, _⟩
  rfl
def t_least_box (K : PySem.W.Frag) (E : XK) : TS :=
  tSeq (tAsg (tC .non) (gName 3))
    (tSeq (tForP (iList K (tVar 1)) (gName 4) (tIfS (tAnd (tTest (tOp rGe (tOp (rIxL K) (tVar 0) (tVar 4)) (tVar 2))) (tOr (tTest (tOp rIsNone (tVar 3) (tC .non))) (tTest (tOp rLt (tOp (rIxL K) (tVar 0) (tVar 4)) (tOp (rIxL K) (tVar 0) (tVar 3)))))) (tAsg (tVar 4) (gName 3)) (tNext)))
    (tRet (tVar 3)))
theorem pure_least_box {K : PySem.W.Frag} (vs : List V) (H : Hp) (Q : VK) (E : XK) (h : sp_least_box K vs H Q E) : t_least_box K E { nx := fun _ H' => Q .non H', rt := Q } (start ["sizes", "free", "size", "found", "box"] vs) H := by
  obtain ⟨a, f, sizes, fs, size, rfl, hA, hF, l1, l2, srt, hlt, kN, kB⟩ := h
  unfold t_least_box
  walk_at "go"
  refine forList (K := K) (a := f) (xs := fs.map fun i : Nat => V.int (i : Int)) (fun i σ H' => Stop (∃ (v : Option V), H' = H ∧ ((∃ x, σ = [some (.ref a), some (.ref f), some (.int size), some .non, x] ∧ ∀ b ∈ fs.take i, sizes.getD b 0 < size) ∨
      (∃ x b, σ = [some (.ref a), some (.ref f), some (.int size), some (.int ((b : Nat) : Int)), x] ∧ LB sizes (fs.take i) size b)))) ⟨none, rfl, .inl ⟨none, rfl, by simp⟩⟩ ?_ ?_ ?_
  · rintro i σ H' _ ⟨v, rfl, _⟩
    exact hF
  · rintro i x σ H' hi ⟨v, rfl, ⟨y, rfl, hn⟩ | ⟨y, b, rfl, hb⟩⟩
    · obtain ⟨n, hn', rfl⟩ := mapGet hi
      have hlt' := hlt n (List.mem_of_getElem? hn')
      have e : ((n : Nat) : Int).toNat = n := by omega
      walk_at "go"
      rw [e]
      refine ifD (fun c => ?_) (fun c => ?_)
      · walk_at "go"
        refine ⟨none, rfl, .inr ⟨_, n, rfl, ?_⟩⟩
        rw [takeMore hn']
        refine ⟨by simp, c, fun m hm hc => ?_⟩
        rcases List.mem_append.mp hm with q | q
        · have := hn m q; omega
        · rw [List.mem_singleton.mp q]; omega
      · refine ⟨none, rfl, .inl ⟨_, rfl, fun m hm => ?_⟩⟩
        rw [takeMore hn'] at hm
        rcases List.mem_append.mp hm with q | q
        · exact hn m q
        · rw [List.mem_singleton.mp q]; omega
    · obtain ⟨n, hn', rfl⟩ := mapGet hi
      have hlt' := hlt n (List.mem_of_getElem? hn')
      have hltb := hlt b (List.mem_of_mem_take hb.1)
      have e : ((n : Nat) : Int).toNat = n := by omega
      have eb : ((b : Nat) : Int).toNat = b := by omega
      have bn : b < n := by
        have := List.pairwise_iff_getElem.mp srt
        obtain ⟨j, hj, ej⟩ := List.mem_iff_getElem.mp hb.1
        rw [List.length_take] at hj
        rw [List.getElem_take] at ej
        have hi' := getLt hn'
        have q := this j i (by omega) hi' (by omega)
        rw [ej] at q
        have : fs[i] = n := by rw [List.getElem?_eq_getElem hi'] at hn'; exact Option.some.inj hn'
        omega
      have keep : ¬ (size ≤ sizes.getD n 0 ∧ sizes.getD n 0 < sizes.getD b 0) → LB sizes (fs.take (i + 1)) size b := fun c => by
        rw [takeMore hn']
        refine ⟨List.mem_append.mpr (.inl hb.1), hb.2.1, fun m hm hc => ?_⟩
        rcases List.mem_append.mp hm with q | q
        · exact hb.2.2 m q hc
        · rw [List.mem_singleton.mp q] at hc ⊢; omega
      walk_at "go"
      rw [e]
      refine ifD (fun c => ?_) (fun c => ?_)
      · walk_at "go"
        rw [e, eb]
        refine ifD (fun c2 => ?_) (fun c2 => ?_)
        · walk_at "go"
          refine ⟨none, rfl, .inr ⟨_, n, rfl, ?_⟩⟩
          rw [takeMore hn']
          refine ⟨by simp, c, fun m hm hc => ?_⟩
          rcases List.mem_append.mp hm with q | q
          · have := hb.2.2 m q hc
            omega
          · rw [List.mem_singleton.mp q]; omega
        · exact ⟨none, rfl, .inr ⟨_, b, rfl, keep (by omega)⟩⟩
      · exact ⟨none, rfl, .inr ⟨_, b, rfl, keep (by omega)⟩⟩
  · rintro σ H' ⟨v, rfl, ⟨y, rfl, hn⟩ | ⟨y, b, rfl, hb⟩⟩
    · rw [List.length_map, List.take_length] at hn
      walk_at "go"
      exact kN hn
    · rw [List.length_map, List.take_length] at hb
      walk_at "go"
      exact kB b hb
end Pw
namespace Pw
def sp_Wall_init (K : PySem.W.Frag) : Sp := fun vs H Q E => ∃ (w dx a : Addr) (ns : List Int), vs = [.ref w, .ref a] ∧ H w = some (.ins (He.ga K "Wall") dx []) ∧ SqL K H a (ns.map V.int) ∧ ns.length ≤ 1000 ∧
  (OkW ns → ∀ H' l1 l2 l3, WallAt K H' ⟨w, dx, l1, l2, l3, ns, List.replicate ns.length none, [], 0⟩ → H l1 = none → H l2 = none → H l3 = none → (∀ b o, H b = some o → b ≠ w → H' b = some o) → Q .non H') ∧
  (¬ OkW ns → E (.ref (He.ga K "NoWall")) none H)
theorem len_Wall_init {K : PySem.W.Frag} : ∀ vs H Q E, sp_Wall_init K vs H Q E → vs.length = 2 := by
  rintro vs H Q E ⟨_, _, _, _, rfl, _⟩
  rfl
def t_Wall_init (K : PySem.W.Frag) (E : XK) : TS :=
  tSeq (tIfS (tOr (tTest (tOp rLt (tCB (rLenSeq K) (tCons (tVar 1) tNil)) (tC (.int 1)))) (tTest (tOp rGt (tCB (rLenSeq K) (tCons (tVar 1) tNil)) (tC (.int 8))))) (tRaise E (He.ga K "NoWall")) (tNext))
    (tSeq (tForP (iList K (tVar 1)) (gName 2) (tIfS (tNot (tB (tCall (sp_is_size K) [] E0 (tCons (tVar 2) tNil)))) (tRaise E (He.ga K "NoWall")) (tNext)))
    (tSeq (sFld K (tVar 0) (tCB (rListOf K) (tCons (tVar 1) tNil)) "boxes")
    (tSeq (sFld K (tVar 0) (tLc (iList K (tVar 1)) (gName 2) tYes (tC .non) [2]) "inside")
    (tSeq (sFld K (tVar 0) (tLst tNil) "parcels")
    (sFld K (tVar 0) (tC (.int 0)) "today")))))
theorem pure_Wall_init {K : PySem.W.Frag} (T : TW K) (vs : List V) (H : Hp) (Q : VK) (E : XK) (h : sp_Wall_init K vs H Q E) : t_Wall_init K E { nx := fun _ H' => Q .non H', rt := Q } (start ["self", "sizes", "size"] vs) H := by
  obtain ⟨w, dx, a, ns, rfl, hw, hS, hl, k, kE⟩ := h
  obtain ⟨tcl, tnb, tni, tnp, tnt⟩ := id T
  unfold t_Wall_init
  walk_at "go"
  simp only [List.length_map]
  refine ifD (fun c => ?_) (fun c => ?_)
  · exact kE fun o => by have := o.1; omega
  walk_at "go"
  simp only [List.length_map]
  refine ifD (fun c2 => ?_) (fun c2 => ?_)
  · exact kE fun o => by have := o.2.1; omega
  walk_at "go"
  refine forList (K := K) (a := a) (xs := ns.map V.int) (fun i σ H' => ∃ v : Option V, σ = [some (.ref w), some (.ref a), v] ∧ H' = H ∧ ∀ x ∈ ns.take i, 1 ≤ x ∧ x ≤ 9) ⟨none, rfl, rfl, by simp⟩ ?_ ?_ ?_
  · rintro i σ H' _ ⟨v, _, rfl, _⟩
    exact hS
  · rintro i x σ H' hi ⟨v, rfl, rfl, ha⟩
    obtain ⟨n, hn, rfl⟩ := mapGet hi
    walk_at "go"
    refine ifN (fun c => ?_) (fun c => ?_)
    · refine kE fun o => c (o.2.2 n (List.mem_of_getElem? hn))
    · walk_at "go"
      intro x hx
      rw [takeMore hn] at hx
      rcases List.mem_append.mp hx with q | q
      · exact ha x q
      · rw [List.mem_singleton.mp q]; exact c
  · rintro σ H' ⟨v, rfl, rfl, ha⟩
    rw [List.length_map, List.take_length] at ha
    have ok : OkW ns := ⟨by omega, by omega, ha⟩
    walk_at "go"
    intro l1 h1
    have n1 : w ≠ l1 := ne_of_none hw h1
    have hS2 : SqL K (upd (upd H' l1 (.lst (ns.map V.int))) w (.ins (He.ga K "Wall") dx (putF "boxes" (.ref l1) []))) a (ns.map V.int) := by
      rcases hS with (q | ⟨o, q⟩) | q
      · refine .inl (.inl ?_)
        rw [upd_ne (ne_of q hw (by intro z; cases z)), upd_ne (ne_of_none q h1)]; exact q
      · refine .inl (.inr ⟨o, ?_⟩)
        rw [upd_ne (ne_of q hw (by intro z; cases z)), upd_ne (ne_of_none q h1)]; exact q
      · exact .inr q
    walk_at "go"
    intro l2 h2
    refine lcMap (fun _ => true) (fun _ => V.non) h2 hS2 (by omega) (fun _ => rfl) (fun i n H3 _ s3 TT k' => ?_) (fun i n H3 _ _ s3 Qv k' => ?_) (fun H3 s3 hD => ?_)
    · exact k' _ (Same.refl _)
    · exact k' _ (Same.refl _)
    rw [filterAll] at hD
    have f1 : H' l2 = none := updFree (updFree h2)
    have n2 : w ≠ l2 := ne_of_none hw f1
    have n12 : l2 ≠ l1 := fun e => by
      rw [e, upd_ne n1.symm, upd_same] at h2
      cases h2
    have hw3 : H3 w = some (.ins (He.ga K "Wall") dx (putF "boxes" (.ref l1) [])) := s3 _ _ upd_same
    have hl1 : H3 l1 = some (.lst (ns.map V.int)) := s3 _ _ (by rw [upd_ne n1.symm]; exact upd_same)
    walk_at "go"
    intro l3 h3
    have h3' : H3 l3 = none := by
      have n : l3 ≠ w := fun e => by rw [e, upd_same] at h3; cases h3
      rw [upd_ne n] at h3; exact h3
    have n3 : w ≠ l3 := ne_of_none hw3 h3'
    have n13 : l1 ≠ l3 := ne_of_none hl1 h3'
    have n23 : l2 ≠ l3 := ne_of_none hD h3'
    walk_at "go"
    have fr3 : H' l3 = none := by
      cases q : H' l3 with
      | none => rfl
      | some o =>
        have := s3 l3 o (by rw [upd_ne n3.symm, upd_ne n13.symm]; exact q)
        rw [h3'] at this; cases this
    refine k ok _ l1 l2 l3 ⟨?_, ?_, ?_, ?_, n12.symm, n13, n23, by simp, ok.2.1, by simp, ?_⟩ h1 f1 fr3 ?_
    · rw [upd_same]
      exact congrArg (fun q => some (HO.ins (He.ga K "Wall") dx q)) wf_new
    · show upd _ w _ l1 = _
      rw [upd_ne n1.symm, upd_ne n1.symm, upd_ne n13, upd_ne n1.symm]; exact hl1
    · show upd _ w _ l2 = _
      rw [upd_ne n2.symm, upd_ne n2.symm, upd_ne n23, upd_ne n2.symm, hD]
      have e : ∀ l : List Int, l.map (fun _ => V.non) = (List.replicate l.length (none : Option Nat)).map optV := fun l => by
        rw [List.map_replicate]
        induction l with
        | nil => rfl
        | cons x r ih => rw [List.map_cons, List.length_cons, List.replicate_succ, ih]; rfl
      rw [e]
    · refine ⟨[], ?_, rfl, fun j t q => by simp at q⟩
      show upd _ w _ l3 = _
      rw [upd_ne n3.symm, upd_ne n3.symm, upd_same]; rfl
    · intro j n q
      have q : (List.replicate ns.length none)[j]? = some (some n) := q
      rw [List.getElem?_replicate] at q
      split at q
      · cases q
      · cases q
    · intro b o e hb
      rw [upd_ne hb, upd_ne hb, upd_ne (fun z => by rw [z, fr3] at e; cases e), upd_ne hb]
      exact s3 b o (by rw [upd_ne hb, upd_ne (fun z => by rw [z, h1] at e; cases e)]; exact e)
theorem newWall {K : PySem.W.Frag} {H : Hp} {a : Addr} {zs : List Int} {Q : Addr → Hp → Prop} {E : XK} (hA : SqL K H a (zs.map V.int)) (ok : OkW zs)
    (k : ∀ x dx l1 l2 l3 H', Same H H' → WallAt K H' ⟨x, dx, l1, l2, l3, zs, List.replicate zs.length none, [], 0⟩ → H x = none → H l1 = none → H l2 = none → H l3 = none → Q x H') :
    ∀ x dx, H x = none → H dx = none → dx ≠ x → sp_Wall_init K [.ref x, .ref a] (upd (upd H dx (.own x)) x (.ins (He.ga K "Wall") dx [])) (fun v H2 => v = .non ∧ Q x H2) E := by
  intro x dx hx hdx hne
  have s3 : Same H (upd (upd H dx (.own x)) x (.ins (He.ga K "Wall") dx [])) := sameNew (sameNew (Same.refl _) hdx) (by rw [upd_ne (Ne.symm hne)]; exact hx)
  have l8 := ok.2.1
  refine ⟨x, dx, a, zs, rfl, upd_same, s3.seq hA, by omega, fun _ H2 l1 l2 l3 A n1 n2 n3 fr => ?_, fun nok => absurd ok nok⟩
  exact ⟨rfl, k x dx l1 l2 l3 H2 (fun c o e => fr c o (s3 c o e) (ne_of_none e hx)) A hx (s3.free n1) (s3.free n2) (s3.free n3)⟩
end Pw
namespace Pw
def geO (t : Int) : Option Int → Bool
  | some x => decide (t ≤ x)
  | none => false
/-- how many boxes hold a parcel as great -/
def cntO (os : List (Option Int)) (t : Int) : Nat := (os.filter (geO t)).length
theorem cntO_cons (o : Option Int) (os : List (Option Int)) (t : Int) : cntO (o :: os) t = (if geO t o = true then 1 else 0) + cntO os t := by
  unfold cntO
  by_cases h : geO t o = true
  · simp [h]; omega
  · simp [h]
theorem cntO_set {t x : Int} : ∀ {os : List (Option Int)} {b : Nat}, os[b]? = some none → cntO (os.set b (some x)) t = cntO os t + (if t ≤ x then 1 else 0)
  | [], b, h => by simp at h
  | o :: os, 0, h => by
    have e : o = none := Option.some.inj h
    subst e
    show cntO (some x :: os) t = _
    rw [cntO_cons, cntO_cons]
    by_cases c : t ≤ x
    · simp [geO, c]; omega
    · simp [geO, c]
  | o :: os, b + 1, h => by
    have ih := cntO_set (t := t) (x := x) (os := os) (b := b) (by simpa using h)
    show cntO (o :: os.set b (some x)) t = _
    rw [cntO_cons, cntO_cons, ih]; omega
theorem cntO_le {t : Int} : ∀ {sizes : List Int} {os : List (Option Int)}, os.length = sizes.length → (∀ b x, os[b]? = some (some x) → x ≤ sizes.getD b 0) → cntO os t ≤ cntGe sizes t
  | [], [], _, _ => Nat.le_refl _
  | z :: sizes, o :: os, hl, h => by
    have ih := cntO_le (t := t) (sizes := sizes) (os := os) (by simpa using hl) (fun b x e => by have := h (b + 1) x (by simpa using e); simpa using this)
    rw [cntO_cons, cntGe_cons]
    cases o with
    | none => simp [geO]; omega
    | some x =>
      have := h 0 x rfl
      have this : x ≤ z := this
      by_cases c : t ≤ x
      · rw [if_pos (by simp [geO, c]), if_pos (by omega)]; omega
      · rw [if_neg (by simp [geO, c])]; omega
theorem le_cntO {t : Int} : ∀ {sizes : List Int} {os : List (Option Int)}, os.length = sizes.length → (∀ b, b < sizes.length → t ≤ sizes.getD b 0 → ∃ x, os[b]? = some (some x) ∧ t ≤ x) → cntGe sizes t ≤ cntO os t
  | [], [], _, _ => Nat.le_refl _
  | z :: sizes, o :: os, hl, h => by
    have ih := le_cntO (t := t) (sizes := sizes) (os := os) (by simpa using hl) (fun b hb e => by
      obtain ⟨x, h1, h2⟩ := h (b + 1) (by simpa using hb) (by simpa using e)
      exact ⟨x, by simpa using h1, h2⟩)
    rw [cntO_cons, cntGe_cons]
    by_cases c : t ≤ z
    · obtain ⟨x, h1, h2⟩ := h 0 (by simp) c
      have e : o = some x := by simpa using h1
      subst e
      rw [if_pos c, if_pos (by simp [geO, h2])]; omega
    · rw [if_neg c]; omega
theorem cntGe_snoc (xs : List Int) (y t : Int) : cntGe (xs ++ [y]) t = cntGe xs t + (if t ≤ y then 1 else 0) := by
  induction xs with
  | nil => rw [List.nil_append, cntGe_cons]; show _ + 0 = 0 + _; omega
  | cons x r ih => rw [List.cons_append, cntGe_cons, cntGe_cons, ih]; omega
/-- parcels that came one after the other, each into the least box that holds it -/
structure Gr (sizes : List Int) (inside : List (Option Nat)) (ins : List Int) : Prop where
  ex : ∃ os : List (Option Int), inside.map Option.isSome = os.map Option.isSome ∧ os.length = sizes.length ∧ (∀ t, cntGe ins t = cntO os t) ∧ (∀ b x, os[b]? = some (some x) → x ≤ sizes.getD b 0) ∧
    (∀ b f x, os[b]? = some (some x) → os[f]? = some none → x ≤ sizes.getD f 0 → sizes.getD b 0 ≤ sizes.getD f 0)
theorem sameSome {inside : List (Option Nat)} {os : List (Option Int)} (h : inside.map Option.isSome = os.map Option.isSome) (b : Nat) : os[b]? = some none ↔ b ∈ freeL inside := by
  have e : (inside.map Option.isSome)[b]? = (os.map Option.isSome)[b]? := by rw [h]
  rw [List.getElem?_map, List.getElem?_map] at e
  rw [mem_free, List.getD_eq_getElem?_getD]
  by_cases hb : b < inside.length
  · rw [List.getElem?_eq_getElem hb] at e ⊢
    cases q : os[b]? with
    | none => rw [q] at e; cases e
    | some o =>
      rw [q] at e
      have e : inside[b].isSome = o.isSome := Option.some.inj e
      cases o with
      | none =>
        refine ⟨fun _ => ⟨hb, ?_⟩, fun _ => rfl⟩
        show inside[b] = none
        cases z : inside[b] with
        | none => rfl
        | some n => rw [z] at e; cases e
      | some x =>
        refine ⟨fun z => (by cases z), fun z => ?_⟩
        have z2 : inside[b] = none := z.2
        rw [z2] at e; cases e
  · refine ⟨fun z => ?_, fun z => absurd z.1 hb⟩
    rw [z] at e
    rw [List.getElem?_eq_none (by omega)] at e; cases e
theorem Gr.new {sizes : List Int} : Gr sizes (List.replicate sizes.length none) [] := by
  refine ⟨List.replicate sizes.length none, by simp, by simp, fun t => ?_, fun b x e => ?_, fun b f x e => ?_⟩
  · show 0 = _
    generalize sizes.length = n
    induction n with
    | zero => rfl
    | succ n ih => rw [List.replicate_succ, cntO_cons, ← ih]; rfl
  · rw [List.getElem?_replicate] at e; split at e <;> cases e
  · rw [List.getElem?_replicate] at e; split at e <;> cases e
theorem Gr.come {sizes : List Int} {inside : List (Option Nat)} {ins : List Int} (g : Gr sizes inside ins) {size : Int} {b n : Nat} (h : LB sizes (freeL inside) size b) : Gr sizes (inside.set b (some n)) (ins ++ [size]) := by
  obtain ⟨os, h1, h2, h3, h4, h5⟩ := g.ex
  have fb := (sameSome h1 b).mpr h.1
  have hb := getLt fb
  refine ⟨os.set b (some size), ?_, by rw [List.length_set]; exact h2, fun t => ?_, fun c x e => ?_, fun c f x e e2 hx => ?_⟩
  · rw [List.map_set, List.map_set, h1]; rfl
  · rw [cntGe_snoc, cntO_set fb, h3]
  · rw [List.getElem?_set] at e
    split at e
    · rename_i q
      subst q
      first | cases e | (rw [if_pos hb] at e; cases e)
      exact h.2.1
    · exact h4 c x e
  · have hf : os[f]? = some none := by
      rw [List.getElem?_set] at e2
      split at e2
      · first | cases e2 | (split at e2 <;> cases e2)
      · exact e2
    have ff := (sameSome h1 f).mp hf
    rw [List.getElem?_set] at e
    split at e
    · rename_i q
      subst q
      first | cases e | (rw [if_pos hb] at e; cases e)
      have := h.2.2 f ff hx
      omega
    · exact h5 c f x e hf hx
theorem Gr.fits {sizes : List Int} {inside : List (Option Nat)} {ins : List Int} (g : Gr sizes inside ins) (t : Int) : cntGe ins t ≤ cntGe sizes t := by
  obtain ⟨os, h1, h2, h3, h4, h5⟩ := g.ex
  rw [h3]
  exact cntO_le h2 h4
theorem least_thr {P : Int → Prop} : ∀ {n : Nat}, P ((n : Int) + 1) → ∃ t : Int, 1 ≤ t ∧ t ≤ (n : Int) + 1 ∧ P t ∧ (t = 1 ∨ ¬ P (t - 1))
  | 0, h => ⟨1, by omega, by omega, h, .inl rfl⟩
  | n + 1, h => by
    by_cases c : P ((n : Int) + 1)
    · obtain ⟨t, h1, h2, h3, h4⟩ := least_thr (n := n) c
      exact ⟨t, h1, by omega, h3, h4⟩
    · exact ⟨((n + 1 : Nat) : Int) + 1, by omega, by omega, h, .inr (by rw [show ((n + 1 : Nat) : Int) + 1 - 1 = (n : Int) + 1 by omega]; exact c)⟩
theorem Gr.full {sizes : List Int} {inside : List (Option Nat)} {ins : List Int} (g : Gr sizes inside ins) {size : Int} (h1 : 1 ≤ size) (h9 : size ≤ 9) (hi : ∀ x ∈ ins, 1 ≤ x)  (h : ∀ b ∈ freeL inside, sizes.getD b 0 < size) :
    ∃ t, 1 ≤ t ∧ t ≤ 9 ∧ cntGe sizes t < cntGe (ins ++ [size]) t := by
  obtain ⟨os, q1, q2, q3, q4, q5⟩ := g.ex
  obtain ⟨t, t1, t2, t3, t4⟩ := least_thr (P := fun t => ∀ b, os[b]? = some none → sizes.getD b 0 < t) (n := (size - 1).toNat) (fun b e => by have := h b ((sameSome q1 b).mp e); omega)
  refine ⟨t, t1, by omega, ?_⟩
  rw [cntGe_snoc, if_pos (by omega), q3]
  refine Nat.lt_succ_of_le (le_cntO q2 fun b hb ht => ?_)
  obtain ⟨o, ho⟩ := getOf (xs := os) (i := b) (by omega)
  cases o with
  | none => have := t3 b ho; omega
  | some x =>
    refine ⟨x, ho, ?_⟩
    rcases t4 with e | e
    · subst e
      have : 0 < cntO os x := by
        unfold cntO
        exact List.length_pos_of_mem (List.mem_filter.mpr ⟨List.mem_of_getElem? ho, by simp [geO]⟩)
      apply Classical.byContradiction
      intro c
      have a1 : cntGe ins 1 = ins.length := cntGe_all hi
      have a2 : cntGe ins x ≤ ins.length := cntGe_le _ _
      -- one that is less than 1 would be counted
      have a3 : cntO os 1 < cntO os x := by
        have key : ∀ (l : List (Option Int)), (some x ∈ l → cntO l 1 < cntO l x) ∧ cntO l 1 ≤ cntO l x := by
          intro l
          induction l with
          | nil => exact ⟨fun z => (by cases z), Nat.le_refl _⟩
          | cons o r ih =>
            rw [cntO_cons, cntO_cons]
            have m : (if geO 1 o = true then 1 else 0) ≤ (if geO x o = true then 1 else 0) := by
              cases o with
              | none => simp [geO]
              | some y =>
                by_cases c1 : (1 : Int) ≤ y
                · rw [if_pos (by simp [geO, c1]), if_pos (by simp [geO]; omega)]; exact Nat.le_refl _
                · rw [if_neg (by simp [geO, c1])]; exact Nat.zero_le _
            refine ⟨fun z => ?_, by have := ih.2; omega⟩
            rcases List.mem_cons.mp z with z | z
            · subst z
              rw [if_neg (by simp [geO]; omega), if_pos (by simp [geO])]
              have := ih.2; omega
            · have := ih.1 z; omega
        exact (key os).1 (List.mem_of_getElem? ho)
      rw [← q3, ← q3] at a3
      omega
    · apply Classical.byContradiction
      intro c
      apply e
      intro f hf
      have z1 := t3 f hf
      apply Classical.byContradiction
      intro c2
      have z := q5 b f x ho hf (by omega)
      omega
theorem Gr.count {sizes : List Int} {inside : List (Option Nat)} {ins : List Int} (g : Gr sizes inside ins) (hi : ∀ x ∈ ins, 1 ≤ x) : (inside.filter Option.isSome).length = ins.length := by
  obtain ⟨os, q1, q2, q3, q4, q5⟩ := g.ex
  have a : ∀ (l : List (Option Nat)) (m : List (Option Int)), l.map Option.isSome = m.map Option.isSome → (l.filter Option.isSome).length = (m.filter Option.isSome).length := by
    intro l
    induction l with
    | nil =>
      intro m e
      cases m with
      | nil => rfl
      | cons o m => cases e
    | cons x l ih =>
      intro m e
      cases m with
      | nil => cases e
      | cons o m =>
        rw [List.map_cons, List.map_cons] at e
        have e1 := (List.cons.inj e).1
        have e2 := ih m (List.cons.inj e).2
        cases x <;> cases o <;> simp_all
  rw [a _ _ q1]
  -- a number so small that all count
  have low : ∀ (m : List (Option Int)), ∃ z : Int, z ≤ 1 ∧ ∀ y, some y ∈ m → z ≤ y := by
    intro m
    induction m with
    | nil => exact ⟨1, by omega, fun y hy => by cases hy⟩
    | cons o m ih =>
      obtain ⟨z, h1, h2⟩ := ih
      cases o with
      | none => exact ⟨z, h1, fun y hy => h2 y (by simpa using hy)⟩
      | some w =>
        by_cases c : z ≤ w
        · refine ⟨z, h1, fun y hy => ?_⟩
          rcases List.mem_cons.mp hy with e | e
          · cases e; exact c
          · exact h2 y e
        · refine ⟨w, by omega, fun y hy => ?_⟩
          rcases List.mem_cons.mp hy with e | e
          · cases e; omega
          · have := h2 y e; omega
  obtain ⟨z, h1, h2⟩ := low os
  have b1 : cntO os z = (os.filter Option.isSome).length := by
    unfold cntO
    congr 1
    refine List.filter_congr fun o ho => ?_
    cases o with
    | none => rfl
    | some y => simp [geO, h2 y ho]
  rw [← b1, ← q3]
  exact cntGe_all fun y hy => by have := hi y hy; omega
end Pw
namespace Pw
/-! ### parcels in a wall -/
def hasP (l : List (Option Nat)) (n : Int) : Prop := ∃ m : Nat, (m : Int) = n ∧ some m ∈ l
theorem flatOpt (l : List (Option Nat)) : (l.map optV).all flatV = true := by
  rw [List.all_eq_true]
  intro v hv
  obtain ⟨x, _, rfl⟩ := List.mem_map.mp hv
  cases x <;> rfl
theorem flatNat (l : List Nat) : (l.map fun i : Nat => V.int (i : Int)).all flatV = true := by
  rw [List.all_eq_true]
  intro v hv
  obtain ⟨x, _, rfl⟩ := List.mem_map.mp hv
  rfl
theorem flatI (l : List Int) : (l.map V.int).all flatV = true := by
  rw [List.all_eq_true]
  intro v hv
  obtain ⟨x, _, rfl⟩ := List.mem_map.mp hv
  rfl
theorem inOpt {l : List (Option Nat)} {n : Int} : inV (.int n) (l.map optV) = true ↔ hasP l n := by
  unfold inV hasP
  rw [List.any_eq_true]
  constructor
  · rintro ⟨y, hy, e⟩
    obtain ⟨x, hx, rfl⟩ := List.mem_map.mp hy
    cases x with
    | none => exact absurd (show false = true from e) Bool.false_ne_true
    | some m => exact ⟨m, beq_iff_eq.mp (show ((m : Int) == n) = true from e), hx⟩
  · rintro ⟨m, rfl, hm⟩
    exact ⟨V.int m, List.mem_map.mpr ⟨some m, hm, rfl⟩, show ((m : Int) == (m : Int)) = true from beq_self_eq_true _⟩
theorem inOptF {l : List (Option Nat)} {n : Int} (h : inV (.int n) (l.map optV) = false) : ¬ hasP l n := fun q => by
  rw [inOpt.mpr q] at h; cases h
theorem inNat {l : List Nat} {n : Int} : inV (.int n) (l.map fun i : Nat => V.int (i : Int)) = true ↔ ∃ c ∈ l, ((c : Nat) : Int) = n := by
  unfold inV
  rw [List.any_eq_true]
  constructor
  · rintro ⟨y, hy, e⟩
    obtain ⟨x, hx, rfl⟩ := List.mem_map.mp hy
    exact ⟨x, hx, beq_iff_eq.mp (show ((x : Int) == n) = true from e)⟩
  · rintro ⟨m, hm, rfl⟩
    exact ⟨V.int m, List.mem_map.mpr ⟨m, hm, rfl⟩, show ((m : Int) == (m : Int)) = true from beq_self_eq_true _⟩
theorem inNatF {l : List Nat} {n : Int} (h : inV (.int n) (l.map fun i : Nat => V.int (i : Int)) = false) : ¬ ∃ c ∈ l, ((c : Nat) : Int) = n := fun q => by
  rw [inNat.mpr q] at h; cases h
/-- the first place of a parcel -/
def Fst (l : List (Option Nat)) (m b : Nat) : Prop := l[b]? = some (some m) ∧ ∀ c, c < b → l[c]? ≠ some (some m)
theorem fst_of {m : Nat} : ∀ {l : List (Option Nat)}, some m ∈ l → ∃ b, Fst l m b
  | x :: l, h => by
    by_cases e : x = some m
    · exact ⟨0, by rw [e]; rfl, fun c hc => absurd hc (Nat.not_lt_zero c)⟩
    · have h' : some m ∈ l := by
        rcases List.mem_cons.mp h with q | q
        · exact absurd q.symm e
        · exact q
      obtain ⟨b, h1, h2⟩ := fst_of h'
      refine ⟨b + 1, h1, fun c hc => ?_⟩
      cases c with
      | zero => intro q; exact e (Option.some.inj q)
      | succ c => exact h2 c (Nat.lt_of_succ_lt_succ hc)
theorem Fst.uniq {l : List (Option Nat)} {m b c : Nat} (h : Fst l m b) (h' : Fst l m c) : b = c := by
  rcases Nat.lt_trichotomy b c with q | q | q
  · exact absurd h.1 (h'.2 b q)
  · exact q
  · exact absurd h'.1 (h.2 c q)
theorem Fst.lt {l : List (Option Nat)} {m b : Nat} (h : Fst l m b) : b < l.length := getLt h.1
theorem Fst.mem {l : List (Option Nat)} {m b : Nat} (h : Fst l m b) : some m ∈ l := List.mem_of_getElem? h.1
theorem Fst.idx {l : List (Option Nat)} {m b : Nat} (h : Fst l m b) : (l.map optV)[b]? = some (V.int (m : Int)) ∧ eqV (V.int (m : Int)) (V.int (m : Int)) = true ∧ ∀ (c : Nat) (z : V), c < b → (l.map optV)[c]? = some z → eqV z (V.int (m : Int)) = false := by
  refine ⟨getMap h.1, show ((m : Int) == (m : Int)) = true from beq_self_eq_true _, fun c z hc hz => ?_⟩
  obtain ⟨x, hx, rfl⟩ := mapGet hz
  cases x with
  | none => rfl
  | some k =>
    show ((k : Int) == (m : Int)) = false
    rw [beq_eq_false_iff_ne]
    intro e
    have e : k = m := by omega
    subst e
    exact h.2 c hc hx
def WS.ins (s : WS) (l : List (Option Nat)) : WS := { s with inside := l }
def WS.on (s : WS) (d : Int) : WS := { s with today := d }
theorem WallAt.insUpd {K : PySem.W.Frag} {H : Hp} {s : WS} (A : WallAt K H s) {l : List (Option Nat)} (hl : l.length = s.sizes.length) (nb : ∀ (j n : Nat), l[j]? = some (some n) → n < s.parcels.length) : WallAt K (upd H s.l2 (.lst (l.map optV))) (s.ins l) :=
  ⟨by show upd _ s.l2 _ s.w = _; rw [upd_ne (ne_of A.ob A.is (by intro q; cases q))]; exact A.ob,
   by show upd _ s.l2 _ s.l1 = _; rw [upd_ne A.n12]; exact A.bx,
   upd_same,
   let ⟨ts, h1, h2, h3⟩ := A.ps; ⟨ts, by show upd _ s.l2 _ s.l3 = _; rw [upd_ne (Ne.symm A.n23)]; exact h1, h2, fun j t q => by rw [upd_ne (ne_of (h3 j t q) A.is (by intro q; cases q))]; exact h3 j t q⟩,
   A.n12, A.n13, A.n23, hl, A.l8, A.pl, nb⟩
theorem WallAt.dayUpd {K : PySem.W.Frag} {H : Hp} {s : WS} (A : WallAt K H s) (d : Int) : WallAt K (upd H s.w (.ins (He.ga K "Wall") s.dx (wf s.l1 s.l2 s.l3 d))) (s.on d) :=
  ⟨upd_same,
   by show upd _ s.w _ s.l1 = _; rw [upd_ne (ne_of A.bx A.ob (by intro q; cases q))]; exact A.bx,
   by show upd _ s.w _ s.l2 = _; rw [upd_ne (ne_of A.is A.ob (by intro q; cases q))]; exact A.is,
   let ⟨ts, h1, h2, h3⟩ := A.ps; ⟨ts, by show upd _ s.w _ s.l3 = _; rw [upd_ne (ne_of h1 A.ob (by intro q; cases q))]; exact h1, h2, fun j t q => by rw [upd_ne (ne_of (h3 j t q) A.ob (by intro q; cases q))]; exact h3 j t q⟩,
   A.n12, A.n13, A.n23, A.len, A.l8, A.pl, A.nb⟩
theorem nbSet {l : List (Option Nat)} {k b : Nat} {x : Option Nat} (h : ∀ (j n : Nat), l[j]? = some (some n) → n < k) (hx : ∀ n, x = some n → n < k) : ∀ (j n : Nat), (l.set b x)[j]? = some (some n) → n < k := by
  intro j n hn
  rw [List.getElem?_set] at hn
  split at hn
  · split at hn
    · exact hx n (Option.some.inj hn)
    · cases hn
  · exact h j n hn
theorem WallAt.tup {K : PySem.W.Frag} {H : Hp} {s : WS} (A : WallAt K H s) {m : Nat} (h : m < s.parcels.length) : ∃ (ts : List Addr) (t : Addr), H s.l3 = some (.lst (ts.map V.ref)) ∧ ts.length = s.parcels.length ∧ atI (ts.map V.ref) (m : Int) = some (.ref t) ∧
    H t = some (.tup [.int (s.parcels.getD m (0, 0)).1, .int (s.parcels.getD m (0, 0)).2]) := by
  obtain ⟨ts, h1, h2, h3⟩ := A.ps
  obtain ⟨t, ht⟩ := getOf (xs := ts) (i := m) (by omega)
  exact ⟨ts, t, h1, h2, at_of (j := m) rfl (getMap ht), h3 m t ht⟩
theorem WallAt.mem_lt {K : PySem.W.Frag} {H : Hp} {s : WS} (A : WallAt K H s) {m : Nat} (h : some m ∈ s.inside) : m < s.parcels.length := by
  obtain ⟨b, hb⟩ := fst_of h
  exact A.nb b m hb.1
/-! ### a night -/
def dueB (ps : List (Int × Int)) (day : Int) : Option Nat → Bool
  | none => false
  | some m => decide ((ps.getD m (0, 0)).2 ≤ day)
def nightF (ps : List (Int × Int)) (day : Int) (x : Option Nat) : Option Nat := if dueB ps day x = true then none else x
def backOf (ps : List (Int × Int)) (day : Int) (l : List (Option Nat)) : List Int := (l.filter (dueB ps day)).map fun x => ((x.getD 0 : Nat) : Int)
theorem nightStep {α : Type} {f : α → α} : ∀ {l : List α} {i : Nat} {x : α}, l[i]? = some x → ((l.take i).map f ++ l.drop i).set i (f x) = (l.take (i + 1)).map f ++ l.drop (i + 1)
  | [], i, x, h => by simp at h
  | a :: l, 0, x, h => by
    have e : a = x := Option.some.inj h
    subst e; rfl
  | a :: l, i + 1, x, h => by
    have ih := nightStep (f := f) (l := l) (i := i) (x := x) h
    show f a :: (((l.take i).map f ++ l.drop i).set i (f x)) = f a :: ((l.take (i + 1)).map f ++ l.drop (i + 1))
    rw [ih]
theorem nightAt {α : Type} {f : α → α} : ∀ {l : List α} {i : Nat}, ((l.take i).map f ++ l.drop i)[i]? = l[i]?
  | [], i => by simp
  | a :: l, 0 => rfl
  | a :: l, i + 1 => nightAt (f := f) (l := l) (i := i)
theorem setSame {α : Type} : ∀ {l : List α} {i : Nat} {x : α}, l[i]? = some x → l.set i x = l
  | [], _, _, h => by simp at h
  | a :: l, 0, x, h => by
    have e : a = x := Option.some.inj h
    subst e; rfl
  | a :: l, i + 1, x, h => by
    have ih := setSame (l := l) (i := i) (x := x) h
    show a :: l.set i x = a :: l
    rw [ih]
def WS.nighted (s : WS) : WS := { s with inside := s.inside.map (nightF s.parcels (s.today + 1)), today := s.today + 1 }
theorem nightF_some {ps : List (Int × Int)} {day : Int} {x : Option Nat} {n : Nat} (h : nightF ps day x = some n) : x = some n := by
  unfold nightF at h
  split at h
  · cases h
  · exact h
end Pw
namespace Pw
def cntLt (xs : List Int) (t : Int) : Nat := (xs.filter fun x => decide (x < t)).length
def manyAt (sizes parcels : List Int) (t : Int) : Nat := cntLt parcels t + cntGe sizes t
theorem cntLt_append (xs ys : List Int) (t : Int) : cntLt (xs ++ ys) t = cntLt xs t + cntLt ys t := by
  unfold cntLt
  rw [List.filter_append, List.length_append]
theorem cntGe_append (xs ys : List Int) (t : Int) : cntGe (xs ++ ys) t = cntGe xs t + cntGe ys t := by
  unfold cntGe
  rw [List.filter_append, List.length_append]
theorem cntLt_perm {xs ys : List Int} (h : xs.Perm ys) (t : Int) : cntLt xs t = cntLt ys t := (h.filter _).length_eq
theorem cntBoth : ∀ (xs : List Int) (t : Int), cntLt xs t + cntGe xs t = xs.length
  | [], _ => rfl
  | x :: r, t => by
    have ih := cntBoth r t
    rw [cntGe_cons]
    unfold cntLt at ih ⊢
    rw [List.filter_cons]
    by_cases h : x < t
    · rw [if_pos (by simpa using h), if_neg (by omega), List.length_cons, List.length_cons]; omega
    · rw [if_neg (by simpa using h), if_pos (by omega), List.length_cons]; omega
theorem cntLt_zero {xs : List Int} {t : Int} (h : ∀ x ∈ xs, t ≤ x) : cntLt xs t = 0 := by
  have a := cntBoth xs t
  rw [cntGe_all h] at a
  omega
/-! ### the free boxes, one less -/
theorem erase_at {l : List Nat} (nd : l.Nodup) {j b : Nat} (h : l[j]? = some b) : l.eraseIdx j = l.filter fun c => decide (c ≠ b) := by
  induction l generalizing j with
  | nil => simp at h
  | cons a r ih =>
    obtain ⟨h1, h2⟩ := List.nodup_cons.mp nd
    cases j with
    | zero =>
      have e : a = b := Option.some.inj h
      subst e
      rw [List.eraseIdx_cons_zero, List.filter_cons, if_neg (by simp)]
      rw [List.filter_eq_self.mpr]
      intro c hc
      exact decide_eq_true fun q => h1 (q ▸ hc)
    | succ j =>
      have h : r[j]? = some b := h
      have ne : a ≠ b := fun q => h1 (q ▸ List.mem_of_getElem? h)
      rw [List.eraseIdx_cons_succ, List.filter_cons, if_pos (decide_eq_true ne), ih h2 h]
theorem free_set {l : List (Option Nat)} {b n : Nat} (h : b < l.length) : freeL (l.set b (some n)) = (freeL l).filter fun c => decide (c ≠ b) := by
  unfold freeL
  rw [List.length_set, List.filter_filter]
  refine List.filter_congr fun i hi => ?_
  have hi := List.mem_range.mp hi
  by_cases e : i = b
  · subst e
    rw [List.getD_eq_getElem?_getD, List.getElem?_set_self h]
    simp
  · rw [List.getD_eq_getElem?_getD, List.getElem?_set_ne (Ne.symm e), ← List.getD_eq_getElem?_getD]
    simp [e]
theorem free_nodup (l : List (Option Nat)) : (freeL l).Nodup := (free_lt l).imp fun h => Nat.ne_of_lt h
theorem eraseMap {α β : Type} (f : α → β) : ∀ (l : List α) (j : Nat), (l.map f).eraseIdx j = (l.eraseIdx j).map f
  | [], j => by simp
  | a :: l, 0 => rfl
  | a :: l, j + 1 => by
    show f a :: (l.map f).eraseIdx j = f a :: (l.eraseIdx j).map f
    rw [eraseMap f l j]
/-- the place of b among the free, and what is left -/
theorem free_at {l : List (Option Nat)} {b n : Nat} (h : b ∈ freeL l) : ∃ j : Nat, ((freeL l).map fun i : Nat => (i : Int))[j]? = some ((b : Nat) : Int) ∧ (∀ m : Nat, m < j → ((freeL l).map fun i : Nat => (i : Int))[m]? ≠ some ((b : Nat) : Int)) ∧
    ((freeL l).map fun i : Nat => (i : Int)).eraseIdx j = (freeL (l.set b (some n))).map fun i : Nat => (i : Int) := by
  obtain ⟨j, hj, ej⟩ := List.getElem_of_mem h
  have hq : (freeL l)[j]? = some b := by rw [List.getElem?_eq_getElem hj, ej]
  refine ⟨j, by rw [List.getElem?_map, hq]; rfl, fun m hm q => ?_, ?_⟩
  · rw [List.getElem?_map] at q
    cases hh : (freeL l)[m]? with
    | none => rw [hh] at q; cases q
    | some c =>
      rw [hh] at q
      have e : ((c : Nat) : Int) = ((b : Nat) : Int) := Option.some.inj q
      have e : c = b := by omega
      subst e
      have := (List.getElem?_inj hj (free_nodup l)).mp (hq.trans hh.symm)
      omega
  · rw [free_set (mem_free.mp h).1, ← erase_at (free_nodup l) hq]
    exact eraseMap _ _ _
/-! ### as many as can be -/
structure MostOk (sizes parcels pl : List Int) (t : Int) : Prop where
  srt : pl.Pairwise (· < ·)
  rng : ∀ x ∈ pl, 0 ≤ x ∧ x < parcels.length
  fits : ∀ u, cntGe (pl.map fun x => parcels.getD x.toNat 0) u ≤ cntGe sizes u
  t1 : 1 ≤ t ∧ t ≤ 10
  sum : manyAt sizes parcels t = pl.length
/-- the sorted parcels, so far -/
structure SoFar (sizes parcels : List Int) (po : List (Int × Int)) (i : Nat) (is : List (Option Nat)) (ch : List Int) : Prop where
  ex : ∃ k, k ≤ i ∧ ch = (po.take k).map Prod.snd ∧ Gr sizes is ((po.take k).map Prod.fst) ∧ (k = i ∨ (k < i ∧ ∀ b ∈ freeL is, sizes.getD b 0 < (po.getD k (0, 0)).1))
theorem SoFar.start {sizes parcels : List Int} {po : List (Int × Int)} : SoFar sizes parcels po 0 (List.replicate sizes.length none) [] := ⟨0, Nat.le_refl _, rfl, Gr.new, .inl rfl⟩
theorem SoFar.skip {sizes parcels : List Int} {po : List (Int × Int)} {i : Nat} {is : List (Option Nat)} {ch : List Int} (g : SoFar sizes parcels po i is ch) {z : Int × Int} (hz : po[i]? = some z) (h : ∀ b ∈ freeL is, sizes.getD b 0 < z.1) : SoFar sizes parcels po (i + 1) is ch := by
  obtain ⟨k, h1, h2, h3, h4⟩ := g.ex
  refine ⟨k, by omega, h2, h3, .inr ?_⟩
  rcases h4 with e | ⟨e, f⟩
  · subst e
    refine ⟨by omega, fun b hb => ?_⟩
    have e : po.getD k (0, 0) = z := by rw [List.getD_eq_getElem?_getD, hz]; rfl
    rw [e]
    exact h b hb
  · exact ⟨by omega, f⟩
theorem SoFar.take {sizes parcels : List Int} {po : List (Int × Int)} (srt : po.Pairwise LexLe) {i : Nat} {is : List (Option Nat)} {ch : List Int} (g : SoFar sizes parcels po i is ch) {z : Int × Int} (hz : po[i]? = some z) {b n : Nat} (h : LB sizes (freeL is) z.1 b) : SoFar sizes parcels po (i + 1) (is.set b (some n)) (ch ++ [z.2]) := by
  obtain ⟨k, h1, h2, h3, h4⟩ := g.ex
  rcases h4 with e | ⟨e, f⟩
  · subst e
    refine ⟨k + 1, Nat.le_refl _, by rw [takeMore hz, List.map_append, h2]; rfl, ?_, .inl rfl⟩
    rw [takeMore hz, List.map_append]
    exact h3.come h
  · exfalso
    have hil := getLt hz
    have hk : po[k]? = some po[k] := List.getElem?_eq_getElem (by omega)
    have q := f b h.1
    have ek : po.getD k (0, 0) = po[k] := by rw [List.getD_eq_getElem?_getD, hk]; rfl
    rw [ek] at q
    have p := List.pairwise_iff_getElem.mp srt k i (by omega) hil e
    have ez : po[i] = z := by
      rw [List.getElem?_eq_getElem hil] at hz
      exact Option.some.inj hz
    rw [ez] at p
    unfold LexLe at p
    have := h.2.1
    omega
theorem pairs_fst {parcels : List Int} {po : List (Int × Int)} (hp : po.Perm ((List.range parcels.length).map fun i => (parcels.getD i 0, (i : Int)))) : (po.map Prod.fst).Perm parcels := by
  have q := hp.map Prod.fst
  rw [List.map_map] at q
  refine q.trans ?_
  have e : (List.range parcels.length).map (Prod.fst ∘ fun i => (parcels.getD i 0, (i : Int))) = parcels := by
    apply List.ext_getElem
    · simp
    · intro n h1 h2
      simp [List.getD_eq_getElem?_getD]
      rw [List.getElem?_eq_getElem h2]; rfl
  rw [e]
theorem SoFar.most {sizes parcels : List Int} {po : List (Int × Int)} (hp : po.Perm ((List.range parcels.length).map fun i => (parcels.getD i 0, (i : Int)))) (srt : po.Pairwise LexLe) (ok : OkW sizes) (okp : OkP parcels)
    {is : List (Option Nat)} {ch : List Int} (g : SoFar sizes parcels po po.length is ch) {pl : List Int} (hpl : pl.Perm ch) (hs : pl.Pairwise (· ≤ ·)) {t : Int} (ht : 1 ≤ t ∧ t ≤ 10) (hm : ∀ u, 1 ≤ u → u ≤ 10 → manyAt sizes parcels t ≤ manyAt sizes parcels u) : MostOk sizes parcels pl t := by
  obtain ⟨k, h1, h2, h3, h4⟩ := g.ex
  have hf := pairs_fst hp
  have split : po.map Prod.fst = (po.take k).map Prod.fst ++ (po.drop k).map Prod.fst := by rw [← List.map_append, List.take_append_drop]
  have lt_ : ∀ u, cntLt parcels u = cntLt ((po.take k).map Prod.fst) u + cntLt ((po.drop k).map Prod.fst) u := fun u => by
    rw [← cntLt_append, ← split, cntLt_perm hf]
  have el : ((po.take k).map Prod.fst).length = k := by rw [List.length_map, List.length_take]; omega
  have both := fun u => cntBoth ((po.take k).map Prod.fst) u
  have fits := fun u => h3.fits u
  have chl : ch.length = k := by rw [h2, List.length_map, List.length_take]; omega
  have pll : pl.length = k := by rw [hpl.length_eq, chl]
  have elem : ∀ z ∈ po, ∃ i, i < parcels.length ∧ z = (parcels.getD i 0, (i : Int)) := fun z hz => by
    obtain ⟨i, hi, e⟩ := List.mem_map.mp (hp.mem_iff.mp hz)
    exact ⟨i, List.mem_range.mp hi, e.symm⟩
  have ge : ∀ u, k ≤ manyAt sizes parcels u := fun u => by
    have := both u
    have := fits u
    have := lt_ u
    unfold manyAt
    omega
  have le : ∃ u, 1 ≤ u ∧ u ≤ 10 ∧ manyAt sizes parcels u ≤ k := by
    rcases h4 with e | ⟨e, f⟩
    · refine ⟨10, by omega, by omega, ?_⟩
      have q1 : cntGe sizes 10 = 0 := cntGe_zero fun y hy => by have := ok.2.2 y hy; omega
      have q2 := cntBoth parcels 10
      have q3 : po.length = parcels.length := by rw [hp.length_eq]; simp
      unfold manyAt
      omega
    · have hk : po[k]? = some po[k] := List.getElem?_eq_getElem e
      have hke : po.getD k (0, 0) = po[k] := by rw [List.getD_eq_getElem?_getD, hk]; rfl
      rw [hke] at f
      obtain ⟨i, hi, ei⟩ := elem po[k] (List.getElem_mem e)
      have s1 : 1 ≤ (po[k]).1 ∧ (po[k]).1 ≤ 9 := by rw [ei]; exact okGet okp hi
      have ins1 : ∀ x ∈ (po.take k).map Prod.fst, 1 ≤ x := fun x hx => by
        obtain ⟨z, hz, rfl⟩ := List.mem_map.mp hx
        obtain ⟨i, hi, ei⟩ := elem z (List.mem_of_mem_take hz)
        rw [ei]; exact (okGet okp hi).1
      obtain ⟨u, u1, u2, u3⟩ := h3.full s1.1 s1.2 ins1 f
      rw [cntGe_snoc] at u3
      have hfu := fits u
      have ule : u ≤ (po[k]).1 := by
        apply Classical.byContradiction
        intro q
        rw [if_neg q] at u3
        omega
      rw [if_pos ule] at u3
      have hz : cntLt ((po.drop k).map Prod.fst) u = 0 := cntLt_zero fun x hx => by
        obtain ⟨z, hz, rfl⟩ := List.mem_map.mp hx
        obtain ⟨j, hj, ej⟩ := List.getElem_of_mem hz
        rw [List.length_drop] at hj
        rw [List.getElem_drop] at ej
        by_cases c : j = 0
        · subst c
          have ej : po[k] = z := ej
          rw [← ej]; exact ule
        · have p := List.pairwise_iff_getElem.mp srt k (k + j) e (by omega) (by omega)
          rw [ej] at p
          unfold LexLe at p
          omega
      refine ⟨u, u1, by omega, ?_⟩
      have := both u
      have := lt_ u
      unfold manyAt
      omega
  obtain ⟨u, u1, u2, u3⟩ := le
  have inr : ∀ x ∈ ch, 0 ≤ x ∧ x < parcels.length := fun x hx => by
    rw [h2] at hx
    obtain ⟨z, hz, rfl⟩ := List.mem_map.mp hx
    obtain ⟨i, hi, ei⟩ := elem z (List.mem_of_mem_take hz)
    rw [ei]
    exact ⟨Int.natCast_nonneg _, by show (i : Int) < _; omega⟩
  have nds : (po.map Prod.snd).Nodup := by
    have q := (hp.map Prod.snd)
    rw [List.map_map] at q
    refine q.nodup_iff.mpr ?_
    refine List.Pairwise.map _ (fun a b h => ?_) List.nodup_range
    intro e
    have e : (a : Int) = (b : Int) := e
    omega
  have ndc : ch.Nodup := by
    rw [h2, List.map_take]
    exact List.Pairwise.sublist (List.take_sublist _ _) nds
  have ndp : pl.Nodup := hpl.nodup_iff.mpr ndc
  refine ⟨?_, fun x hx => inr x (hpl.mem_iff.mp hx), fun u => ?_, ht, ?_⟩
  · have := List.Pairwise.and hs ndp
    exact this.imp fun {a b} h => by
      have := h.1
      have := h.2
      omega
  · have e : ((po.take k).map Prod.fst) = (ch.map fun x => parcels.getD x.toNat 0) := by
      rw [h2, List.map_map]
      refine List.map_congr_left fun z hz => ?_
      obtain ⟨i, hi, ei⟩ := elem z (List.mem_of_mem_take hz)
      rw [ei]
      show parcels.getD i 0 = parcels.getD ((i : Int)).toNat 0
      rw [Int.toNat_natCast]
    have q := cntGe_perm (hpl.map fun x => parcels.getD x.toNat 0) u
    rw [q, ← e]
    exact fits u
  · have a := ge t
    have b := hm u u1 u2
    rw [pll]
    omega
end Pw
namespace Pw
def sp_tight (K : PySem.W.Frag) : Sp := fun vs H Q _ => ∃ (a b : Addr) (sizes parcels : List Int), vs = [.ref a, .ref b] ∧ SqL K H a (sizes.map V.int) ∧ SqL K H b (parcels.map V.int) ∧ sizes.length ≤ 1000 ∧ parcels.length ≤ 1000 ∧
  ∀ (t : Int) (p : Addr) (H' : Hp), 1 ≤ t ∧ t ≤ 10 → (∀ u, 1 ≤ u → u ≤ 10 → manyAt sizes parcels t ≤ manyAt sizes parcels u) → Same H H' → H' p = some (.tup [.int (manyAt sizes parcels t : Nat), .int t]) → Q (.ref p) H'
theorem len_tight {K : PySem.W.Frag} : ∀ vs H Q E, sp_tight K vs H Q E → vs.length = 2 := by
  rintro vs H Q E ⟨_, _, _, _, rfl, _⟩
  rfl
def t_tight (K : PySem.W.Frag) (E : XK) : TS :=
  tSeq (tAsg (tC .non) (gName 2))
    (tSeq (tForP (iRng2 (tCons (tC (.int 1)) (tCons (tOp rAddI (tC (.int 9)) (tC (.int 2))) tNil))) (gName 3) (tSeq (tAsg (tOp rAddI (tCB (rLenSeq K) (tCons (tLc (iList K (tVar 1)) (gName 5) (tTest (tOp rLt (tVar 5) (tVar 3))) (tVar 5) [5]) tNil)) (tCB (rLenSeq K) (tCons (tLc (iList K (tVar 0)) (gName 6) (tTest (tOp rGe (tVar 6) (tVar 3))) (tVar 6) [6]) tNil))) (gName 4))
    (tIfS (tOr (tTest (tOp rIsNone (tVar 2) (tC .non))) (tTest (tOp rLt (tVar 4) (tOp (rIxT K) (tVar 2) (tC (.int 0)))))) (tAsg (tTup (tCons (tVar 4) (tCons (tVar 3) tNil))) (gName 2)) (tNext))))
    (tRet (tVar 2)))
theorem pure_tight {K : PySem.W.Frag} (vs : List V) (H : Hp) (Q : VK) (E : XK) (h : sp_tight K vs H Q E) : t_tight K E { nx := fun _ H' => Q .non H', rt := Q } (start ["sizes", "parcels", "best", "size", "many", "one", "box"] vs) H := by
  obtain ⟨a, b, sizes, parcels, rfl, hA, hB, lA, lB, k⟩ := h
  unfold t_tight
  walk_at "go"
  refine forRange (n := (9 + 2 - 1 : Int).toNat) (fun i σ H' => Stop (∃ (best : V) (v3 v4 : Option V), σ = [some (.ref a), some (.ref b), some best, v3, v4, none, none] ∧ Same H H' ∧
    ((i = 0 ∧ best = .non) ∨ (∃ (t : Int) (p : Addr), best = .ref p ∧ 1 ≤ t ∧ t ≤ i ∧ H' p = some (.tup [.int (manyAt sizes parcels t : Nat), .int t]) ∧ ∀ u : Int, 1 ≤ u → u ≤ i → manyAt sizes parcels t ≤ manyAt sizes parcels u)))) ⟨_, none, none, rfl, Same.refl _, .inl ⟨rfl, rfl⟩⟩ ?_ ?_
  · rintro i σ H3 hi ⟨best, v3, v4, rfl, s3, hb⟩
    have hi : i < 10 := hi
    walk_at "go"
    intro D1 hD1
    refine lcMap (fun x => decide (x < (1 : Int) + i)) V.int hD1 (s3.seq hB) (by omega) (fun _ => rfl) (fun j n H' _ s' TT k' => ?_) (fun j n H' _ _ s' Qv k' => ?_) (fun H4 s4 hL1 => ?_)
    · walk_at "go"
      exact k' _ (Same.refl _)
    · walk_at "go"
      exact k' _ (Same.refl _)
    have s34 := s3.trans s4
    walk_at "go"
    intro D2 hD2
    refine lcMap (fun x => decide ((1 : Int) + i ≤ x)) V.int hD2 (s34.seq hA) (by omega) (fun _ => rfl) (fun j n H' _ s' TT k' => ?_) (fun j n H' _ _ s' Qv k' => ?_) (fun H5 s5 hL2 => ?_)
    · walk_at "go"
      exact k' _ (Same.refl _)
    · walk_at "go"
      exact k' _ (Same.refl _)
    have s35 := s34.trans s5
    have hL1' := s5 _ _ hL1
    walk_at "go"
    have em : ((((parcels.filter fun x => decide (x < (1 : Int) + i)).map V.int).length : Nat) : Int) + ((((sizes.filter fun x => decide ((1 : Int) + i ≤ x)).map V.int).length : Nat) : Int) = ((manyAt sizes parcels (1 + i) : Nat) : Int) := by
      rw [List.length_map, List.length_map]
      unfold manyAt cntLt cntGe
      omega
    dsimp only
    rw [em]
    rcases hb with ⟨e, rfl⟩ | ⟨t, p, rfl, t1, t2, hp, hm⟩
    · walk_at "go"
      intro q hq
      exact ⟨_, _, _, rfl, sameNew s35 hq, .inr ⟨1 + i, q, rfl, by omega, by omega, upd_same, fun u u1 u2 => by rw [show u = 1 + (i : Int) by omega]; exact Nat.le_refl _⟩⟩
    · have hp5 := s5 _ _ (s4 _ _ hp)
      walk_at "go"
      refine ifD (fun c => ?_) (fun c => ?_)
      · walk_at "go"
        intro q hq
        refine ⟨_, _, _, rfl, sameNew s35 hq, .inr ⟨1 + i, q, rfl, by omega, by omega, upd_same, fun u u1 u2 => ?_⟩⟩
        by_cases e : u = 1 + (i : Int)
        · rw [e]; exact Nat.le_refl _
        · have := hm u u1 (by omega)
          omega
      · refine ⟨_, _, _, rfl, s35, .inr ⟨t, p, rfl, t1, by omega, hp5, fun u u1 u2 => ?_⟩⟩
        by_cases e : u = 1 + (i : Int)
        · rw [e]; omega
        · exact hm u u1 (by omega)
  · rintro σ H3 ⟨best, v3, v4, rfl, s3, hb⟩
    rcases hb with ⟨e, _⟩ | ⟨t, p, rfl, t1, t2, hp, hm⟩
    · exact absurd e (by decide)
    · walk_at "go"
      exact k t p _ ⟨t1, t2⟩ (fun u u1 u2 => hm u u1 u2) s3 hp
end Pw
namespace Pw
def FillOk (sizes : List Int) (xs : List (Option Nat)) : Prop := xs.length = sizes.length ∧ ∀ (b v : Nat), xs[b]? = some (some v) → 1 ≤ v ∧ (v : Int) ≤ sizes.getD b 0
theorem cntSet {n : Nat} : ∀ {l : List (Option Nat)} {b : Nat}, l[b]? = some none → ((l.set b (some n)).filter Option.isSome).length = (l.filter Option.isSome).length + 1
  | [], b, h => by simp at h
  | x :: l, 0, h => by
    have e : x = none := Option.some.inj h
    subst e
    simp
  | x :: l, b + 1, h => by
    have ih := cntSet (n := n) (l := l) (b := b) h
    show ((x :: l.set b (some n)).filter Option.isSome).length = _
    rw [List.filter_cons, List.filter_cons]
    split
    · rw [List.length_cons, List.length_cons, ih]
    · exact ih
/-- the wall that is made of drawn parcels, while it is made -/
structure SI (sizes : List Int) (inside : List (Option Nat)) (dn : List Nat) (is : List (Option Nat)) (ps : List (Int × Int)) : Prop where
  len : is.length = sizes.length
  non : ∀ b ∈ dn, inside[b]? = some none → is[b]? = some none
  som : ∀ b ∈ dn, ∀ v, inside[b]? = some (some v) → ∃ m, is[b]? = some (some m) ∧ 1 ≤ m ∧ ps.getD m (0, 0) = ((v : Int), 9)
  oth : ∀ b, b < sizes.length → b ∉ dn → is[b]? = some none
  dis : ∀ b c m : Nat, is[b]? = some (some m) → is[c]? = some (some m) → b = c
  cnt : ps.length = 1 + (is.filter Option.isSome).length
  nb : ∀ (j n : Nat), is[j]? = some (some n) → n < ps.length
theorem SI.start {sizes : List Int} {inside : List (Option Nat)} {p : Int × Int} : SI sizes inside [] (List.replicate sizes.length none) [p] := by
  have g : ∀ (j : Nat) (x : Option Nat), (List.replicate sizes.length (none : Option Nat))[j]? = some x → x = none := fun j x h => by
    have := List.mem_of_getElem? h
    exact (List.mem_replicate.mp this).2
  refine ⟨by simp, fun b hb => (by cases hb), fun b hb => (by cases hb), fun b hb _ => ?_, fun b c m h => ?_, ?_, fun j n h => ?_⟩
  · rw [List.getElem?_replicate, if_pos hb]
  · have := g _ _ h; cases this
  · simp
  · have := g _ _ h; cases this
theorem SI.skip {sizes : List Int} {inside : List (Option Nat)} {dn : List Nat} {is : List (Option Nat)} {ps : List (Int × Int)} (g : SI sizes inside dn is ps) {b : Nat} (h : inside[b]? = some none) (nd : b ∉ dn) (hb : b < sizes.length) : SI sizes inside (dn ++ [b]) is ps := by
  refine ⟨g.len, fun c hc hi => ?_, fun c hc v hi => ?_, fun c hc hn => g.oth c hc fun q => hn (List.mem_append_left _ q), g.dis, g.cnt, g.nb⟩
  · rcases List.mem_append.mp hc with q | q
    · exact g.non c q hi
    · rw [List.mem_singleton.mp q]; exact g.oth b hb nd
  · rcases List.mem_append.mp hc with q | q
    · exact g.som c q v hi
    · rw [List.mem_singleton.mp q, h] at hi; cases hi
theorem SI.put {sizes : List Int} {inside : List (Option Nat)} {dn : List Nat} {is : List (Option Nat)} {ps : List (Int × Int)} (g : SI sizes inside dn is ps) {b v : Nat} (h : inside[b]? = some (some v)) (nd : b ∉ dn) (hb : b < sizes.length) :
    SI sizes inside (dn ++ [b]) (is.set b (some ps.length)) (ps ++ [((v : Int), 0 + 9)]) := by
  have hn := g.oth b hb nd
  have bl := getLt hn
  have gd : ∀ m, m < ps.length → (ps ++ [((v : Int), (0 : Int) + 9)]).getD m (0, 0) = ps.getD m (0, 0) := fun m hm => by
    rw [List.getD_eq_getElem?_getD, List.getD_eq_getElem?_getD, List.getElem?_append_left hm]
  have ne : ∀ c, c ≠ b → (is.set b (some ps.length))[c]? = is[c]? := fun c hc => List.getElem?_set_ne (Ne.symm hc)
  have at_ : (is.set b (some ps.length))[b]? = some (some ps.length) := List.getElem?_set_self bl
  refine ⟨by rw [List.length_set]; exact g.len, fun c hc hi => ?_, fun c hc w hi => ?_, fun c hc hc2 => ?_, fun c e m h1 h2 => ?_, ?_, fun j n hj => ?_⟩
  · rcases List.mem_append.mp hc with q | q
    · rw [ne c fun e => nd (e ▸ q)]; exact g.non c q hi
    · rw [List.mem_singleton.mp q, h] at hi; cases hi
  · rcases List.mem_append.mp hc with q | q
    · obtain ⟨m, m1, m2, m3⟩ := g.som c q w hi
      refine ⟨m, by rw [ne c fun e => nd (e ▸ q)]; exact m1, m2, by rw [gd m (g.nb c m m1)]; exact m3⟩
    · have e := List.mem_singleton.mp q
      subst e
      rw [h] at hi
      cases hi
      have := g.cnt
      refine ⟨ps.length, at_, by omega, ?_⟩
      rw [List.getD_eq_getElem?_getD, List.getElem?_append_right (Nat.le_refl _), Nat.sub_self]
      rfl
  · have q1 : c ∉ dn := fun q => hc2 (List.mem_append_left _ q)
    have q2 : c ≠ b := fun q => hc2 (List.mem_append_right _ (by rw [q]; exact List.mem_singleton_self _))
    rw [ne c q2]; exact g.oth c hc q1
  · by_cases c1 : c = b
    · subst c1
      rw [at_] at h1
      cases h1
      by_cases c2 : e = c
      · exact c2.symm
      · rw [ne e c2] at h2
        have := g.nb _ _ h2
        omega
    · rw [ne c c1] at h1
      by_cases c2 : e = b
      · subst c2
        rw [at_] at h2
        cases h2
        have := g.nb _ _ h1
        omega
      · rw [ne e c2] at h2
        exact g.dis c e m h1 h2
  · rw [List.length_append, cntSet hn, g.cnt]; rfl
  · rw [List.length_append]
    by_cases c1 : j = b
    · subst c1
      rw [at_] at hj
      cases hj
      show _ < _ + 1
      omega
    · rw [ne j c1] at hj
      have := g.nb _ _ hj
      show _ < _ + 1
      omega
/-- the wall of drawn parcels -/
structure Side (sizes : List Int) (inside : List (Option Nat)) (s : WS) : Prop where
  sz : s.sizes = sizes
  td : s.today = 0
  non : ∀ b : Nat, inside[b]? = some none → s.inside[b]? = some none
  som : ∀ b v : Nat, inside[b]? = some (some v) → ∃ m, s.inside[b]? = some (some m) ∧ 1 ≤ m ∧ s.parcels.getD m (0, 0) = ((v : Int), 9)
  dis : ∀ b c m : Nat, s.inside[b]? = some (some m) → s.inside[c]? = some (some m) → b = c
  cnt : s.parcels.length = 1 + (s.inside.filter Option.isSome).length
theorem SI.side {sizes : List Int} {inside : List (Option Nat)} {dn : List Nat} {is : List (Option Nat)} {ps : List (Int × Int)} (g : SI sizes inside dn is ps) (fo : FillOk sizes inside) (all : ∀ b, b < sizes.length → b ∈ dn) {w dx l1 l2 l3 : Addr} : Side sizes inside ⟨w, dx, l1, l2, l3, sizes, is, ps, 0⟩ :=
  ⟨rfl, rfl, fun b h => g.non b (all b (by have := getLt h; have := fo.1; omega)) h, fun b v h => g.som b (all b (by have := getLt h; have := fo.1; omega)) v h, g.dis, g.cnt⟩
theorem fst_new {l : List (Option Nat)} {n b : Nat} (h : ∀ (j m : Nat), l[j]? = some (some m) → m < n) (hb : b < l.length) : Fst (l.set b (some n)) n b := by
  refine ⟨List.getElem?_set_self hb, fun c hc q => ?_⟩
  rw [List.getElem?_set_ne (by omega)] at q
  have := h _ _ q
  omega
theorem rgNat (n : Nat) : rgV 0 (n : Int) = (List.range n).map fun i : Nat => V.int (i : Int) := by
  unfold rgV
  rw [show ((n : Int) - 0).toNat = n by omega]
  exact List.map_congr_left fun i _ => by rw [show (0 : Int) + (i : Int) = (i : Int) by omega]
end Pw
namespace Pw
theorem cntUnset : ∀ {l : List (Option Nat)} {b m : Nat}, l[b]? = some (some m) → ((l.set b none).filter Option.isSome).length + 1 = (l.filter Option.isSome).length
  | [], b, m, h => by simp at h
  | x :: l, 0, m, h => by
    have e : x = some m := Option.some.inj h
    subst e
    simp
  | x :: l, b + 1, m, h => by
    have ih := cntUnset (l := l) (b := b) h
    show ((x :: l.set b none).filter Option.isSome).length + 1 = _
    rw [List.filter_cons, List.filter_cons]
    split
    · rw [List.length_cons, List.length_cons, ih]
    · exact ih
theorem Side.at_ {sizes : List Int} {xs : List (Option Nat)} {s : WS} (g : Side sizes xs s) (hl : xs.length = s.inside.length) {b m : Nat} (h : s.inside[b]? = some (some m)) : ∃ v : Nat, xs[b]? = some (some v) ∧ s.parcels.getD m (0, 0) = ((v : Int), 9) := by
  have bl := getLt h
  obtain ⟨y, hy⟩ := getOf (xs := xs) (i := b) (by omega)
  cases y with
  | none => rw [g.non b hy] at h; cases h
  | some v =>
    obtain ⟨m', h1, h2, h3⟩ := g.som b v hy
    rw [h1] at h
    cases h
    exact ⟨v, hy, h3⟩
theorem Side.move {sizes : List Int} {xs : List (Option Nat)} {s : WS} (g : Side sizes xs s) {m b c v : Nat} (hb : s.inside[b]? = some (some m)) (hv : xs[b]? = some (some v)) (hc : s.inside[c]? = some none) (hcx : c < xs.length) :
    Side sizes ((xs.set c (some v)).set b none) (s.ins ((s.inside.set b none).set c (some m))) := by
  have hne : b ≠ c := fun e => by rw [e, hc] at hb; cases hb
  have bl := getLt hb
  have cl := getLt hc
  have bx := getLt hv
  have i1 : ((s.inside.set b none).set c (some m))[c]? = some (some m) := List.getElem?_set_self (by rw [List.length_set]; exact cl)
  have i2 : ((s.inside.set b none).set c (some m))[b]? = some none := by rw [List.getElem?_set_ne (Ne.symm hne)]; exact List.getElem?_set_self bl
  have i3 : ∀ j, j ≠ b → j ≠ c → ((s.inside.set b none).set c (some m))[j]? = s.inside[j]? := fun j h1 h2 => by rw [List.getElem?_set_ne (Ne.symm h2), List.getElem?_set_ne (Ne.symm h1)]
  have x1 : ((xs.set c (some v)).set b none)[c]? = some (some v) := by rw [List.getElem?_set_ne hne]; exact List.getElem?_set_self hcx
  have x2 : ((xs.set c (some v)).set b none)[b]? = some none := List.getElem?_set_self (by rw [List.length_set]; exact bx)
  have x3 : ∀ j, j ≠ b → j ≠ c → ((xs.set c (some v)).set b none)[j]? = xs[j]? := fun j h1 h2 => by rw [List.getElem?_set_ne (Ne.symm h1), List.getElem?_set_ne (Ne.symm h2)]
  obtain ⟨m', q1, q2, q3⟩ := g.som b v hv
  rw [hb] at q1
  cases q1
  refine ⟨g.sz, g.td, fun j h => ?_, fun j w h => ?_, fun j k n h1 h2 => ?_, ?_⟩
  · show ((s.inside.set b none).set c (some m))[j]? = some none
    by_cases e1 : j = b
    · rw [e1]; exact i2
    · by_cases e2 : j = c
      · rw [e2, x1] at h; cases h
      · rw [i3 j e1 e2]; rw [x3 j e1 e2] at h; exact g.non j h
  · show ∃ n, ((s.inside.set b none).set c (some m))[j]? = some (some n) ∧ 1 ≤ n ∧ s.parcels.getD n (0, 0) = _
    by_cases e1 : j = b
    · rw [e1, x2] at h; cases h
    · by_cases e2 : j = c
      · rw [e2, x1] at h
        cases h
        exact ⟨m, by rw [e2]; exact i1, q2, q3⟩
      · rw [x3 j e1 e2] at h
        rw [i3 j e1 e2]
        exact g.som j w h
  · have h1 : ((s.inside.set b none).set c (some m))[j]? = some (some n) := h1
    have h2 : ((s.inside.set b none).set c (some m))[k]? = some (some n) := h2
    have key : ∀ j, ((s.inside.set b none).set c (some m))[j]? = some (some n) → (j = c ∧ n = m) ∨ (j ≠ b ∧ s.inside[j]? = some (some n)) := fun j h => by
      by_cases e1 : j = b
      · rw [e1, i2] at h; cases h
      · by_cases e2 : j = c
        · rw [e2, i1] at h; cases h; exact .inl ⟨e2, rfl⟩
        · rw [i3 j e1 e2] at h; exact .inr ⟨e1, h⟩
    rcases key j h1 with ⟨a, e⟩ | ⟨a, e⟩ <;> rcases key k h2 with ⟨a', e'⟩ | ⟨a', e'⟩
    · rw [a, a']
    · subst e; exact absurd (g.dis k b n e' hb) a'
    · subst e'; exact absurd (g.dis j b n e hb) a
    · exact g.dis j k n e e'
  · show s.parcels.length = 1 + (((s.inside.set b none).set c (some m)).filter Option.isSome).length
    have hc' : (s.inside.set b none)[c]? = some none := by rw [List.getElem?_set_ne hne]; exact hc
    have := cntUnset hb
    rw [cntSet hc', g.cnt]
    omega
end Pw
namespace Pw
theorem inNon {l : List (Option Nat)} : inV .non (l.map optV) = true ↔ none ∈ l := by
  unfold inV
  rw [List.any_eq_true]
  constructor
  · rintro ⟨y, hy, e⟩
    obtain ⟨x, hx, rfl⟩ := List.mem_map.mp hy
    cases x with
    | none => exact hx
    | some m => exact absurd (show false = true from e) Bool.false_ne_true
  · intro h
    exact ⟨V.non, List.mem_map.mpr ⟨none, h, rfl⟩, rfl⟩
end Pw
namespace Pw
def sp_most (K : PySem.W.Frag) : Sp := fun vs H Q E => ∃ (a b : Addr) (sizes parcels : List Int), vs = [.ref a, .ref b] ∧ SqL K H a (sizes.map V.int) ∧ SqL K H b (parcels.map V.int) ∧ sizes.length ≤ 1000 ∧ parcels.length ≤ 1000 ∧
  (OkW sizes → OkP parcels → ∀ (pl : List Int) (t : Int) (p l : Addr) (H' : Hp), MostOk sizes parcels pl t → Same H H' → H l = none → H' l = some (.lst (pl.map V.int)) → H' p = some (.tup [.int (pl.length : Nat), .ref l, .int t]) → Q (.ref p) H') ∧
  (¬ OkW sizes → ∀ H', Same H H' → E (.ref (He.ga K "NoWall")) none H') ∧
  (OkW sizes → ¬ OkP parcels → ∀ H', Same H H' → E (.ref (He.ga K "NoSize")) none H')
theorem len_most {K : PySem.W.Frag} : ∀ vs H Q E, sp_most K vs H Q E → vs.length = 2 := by
  rintro vs H Q E ⟨_, _, _, _, rfl, _⟩
  rfl
def t_most (K : PySem.W.Frag) (E : XK) : TS :=
  tSeq (tAsg (tMeth (He.ga K "Wall") "sizes" (sp_Wall_sizes K) [] E0 (tMake (He.ga K "Wall") (sp_Wall_init K) [] E (tCons (tVar 0) tNil)) tNil) (gName 2))
    (tSeq (tDrop (tCall (sp_see_parcels K) [] E (tCons (tVar 1) tNil)))
    (tSeq (tAsg (tCB (rSortPO K) (tCons (tLc (iRng1 (tCons (tCB (rLenSeq K) (tCons (tVar 1) tNil)) tNil)) (gName 9) tYes (tTup (tCons (tOp (rIxL K) (tVar 1) (tVar 9)) (tCons (tVar 9) tNil))) [9]) tNil)) (gName 3))
    (tSeq (tAsg (tLstRg (tRg1 (tCB (rLenSeq K) (tCons (tVar 2) tNil)))) (gName 4))
    (tSeq (tAsg (tLst tNil) (gName 5))
    (tSeq (tForP (iList K (tVar 3)) (gTup K 2 (gCons (gName 6) (gCons (gName 7) gNil))) (tSeq (tAsg (tCall (sp_least_box K) [] E0 (tCons (tVar 2) (tCons (tVar 4) (tCons (tVar 6) tNil)))) (gName 8))
    (tIfS (tTest (tOp rNotNone (tVar 8) (tC .non))) (tSeq (tDrop (tBM K "list" rRemI (tVar 4) (tCons (tVar 8) tNil)))
    (tDrop (tBM K "list" rAppend (tVar 5) (tCons (tVar 7) tNil)))) (tNext))))
    (tRet (tTup (tCons (tCB (rLenSeq K) (tCons (tVar 5) tNil)) (tCons (tCB (rSortedI K) (tCons (tVar 5) tNil)) (tCons (tOp (rIxT K) (tCall (sp_tight K) [] E0 (tCons (tVar 2) (tCons (tVar 1) tNil))) (tC (.int 1))) tNil))))))))))
theorem pure_most {K : PySem.W.Frag} (T : TW K) (vs : List V) (H : Hp) (Q : VK) (E : XK) (h : sp_most K vs H Q E) : t_most K E { nx := fun _ H' => Q .non H', rt := Q } (start ["sizes", "parcels", "boxes", "order", "free", "chosen", "size", "number", "box", "k"] vs) H := by
  obtain ⟨a, b, sizes, parcels, rfl, hA, hB, lA, lB, kM, eW, eS⟩ := h
  obtain ⟨tcl, tnb, tni, tnp, tnt⟩ := id T
  unfold t_most
  walk_at "go"
  intro x dx hx hdx hne
  have s0 : Same H (upd (upd H dx (.own x)) x (.ins (He.ga K "Wall") dx [])) := sameNew (sameNew (Same.refl _) hdx) (by rw [upd_ne (Ne.symm hne)]; exact hx)
  refine ⟨x, dx, a, sizes, rfl, upd_same, s0.seq hA, lA, fun ok H1 l1 l2 l3 A1 n1 n2 n3 fr => ?_, fun nok => eW nok _ s0⟩
  have s1 : Same H H1 := fun c o e => fr c o (s0 c o e) (ne_of_none e hx)
  refine ⟨rfl, ?_⟩
  have hob : H1 x = some (.ins (He.ga K "Wall") dx (wf l1 l2 l3 0)) := A1.ob
  have l8 := ok.2.1
  walk_at "go"
  intro H2 bl s2 hb2 hbl
  have s3 := s1.trans s2
  walk_at "go"
  refine ⟨fun okp => ?_, fun nok => eS ok nok _ s3⟩
  have hbl : H2 bl = some (.lst (sizes.map V.int)) := hbl
  walk_at "go"
  intro D1 hD1
  refine lcPairs (n := (((parcels.map V.int).length : Nat) : Int).toNat) (fun _ => true) (fun i => parcels.getD i 0) (fun i => (i : Int)) hD1 (by simp; omega) (fun _ => rfl) (fun i H' hi s' TT k' => ?_) (fun i H' hi _ s' Qv k' => ?_) (fun H4 s5 hL1 => ?_)
  · exact k' _ (Same.refl _)
  · have hi : i < parcels.length := by simpa using hi
    have e : ((0 : Int) + (i : Int)).toNat = i := by omega
    have sq : SqL K H' b (parcels.map V.int) := (s3.trans s').seq hB
    walk_at "go"
    rw [e]
    intro t ht
    refine k' t _ (sameNew (Same.refl _) ht) ?_
    rw [show ((0 : Int) + (i : Int)) = (i : Int) by omega]
    exact upd_same
  rw [filterAll] at hL1
  walk_at "go"
  refine sortedPairs hL1 fun po o1 H5 po1 po2 s6 ho1 hL2 => ?_
  have po1 : po.Perm ((List.range parcels.length).map fun i => (parcels.getD i 0, (i : Int))) := by simpa using po1
  have hpl : po.length = parcels.length := by rw [po1.length_eq]; simp
  have s35 := s3.trans (s5.trans s6)
  have hb5 : H5 bl = some (.lst (sizes.map V.int)) := s6 _ _ (s5 _ _ hbl)
  clear hL1 hob hne hx hdx s0 fr hD1
  walk_at "go"
  refine ⟨RgOk.of_le (by decide) (by simp; omega) (by decide) (by simp), ?_⟩
  intro f hf
  rw [List.length_map, rgNat]
  have fH : H f = none := s35.free hf
  have s7 : Same H5 (upd H5 f (.lst ((List.range sizes.length).map fun i : Nat => V.int (i : Int)))) := sameNew (Same.refl _) hf
  have hf6 : upd H5 f (.lst ((List.range sizes.length).map fun i : Nat => V.int (i : Int))) f = some (.lst (((freeL (List.replicate sizes.length none)).map fun i : Nat => (i : Int)).map V.int)) := by
    rw [upd_same, List.map_map]
    have e : freeL (List.replicate sizes.length none) = List.range sizes.length := by
      unfold freeL
      rw [List.length_replicate, List.filter_eq_self.mpr]
      intro i hi
      rw [List.getD_eq_getElem?_getD, List.getElem?_replicate, if_pos (List.mem_range.mp hi)]; rfl
    rw [e]; rfl
  have hL6 := hL2.mono s7
  have hb6 := s7 _ _ hb5
  have s36 := s35.trans s7
  generalize upd H5 f (.lst ((List.range sizes.length).map fun i : Nat => V.int (i : Int))) = H6 at s7 hf6 hL6 hb6 s36
  walk_at "go"
  intro c hc
  have cH : H c = none := s36.free hc
  have cf : f ≠ c := ne_of_none hf6 hc
  have s8 : Same H6 (upd H6 c (.lst [])) := sameNew (Same.refl _) hc
  have hf7 := s8 _ _ hf6
  have hL7 := hL6.mono s8
  have hb7 := s8 _ _ hb6
  have s37 := s36.trans s8
  have hc7 : upd H6 c (.lst []) c = some (.lst []) := upd_same
  obtain ⟨ys, hy, hyl⟩ := hL7.len
  have of : o1 ≠ f := by
    obtain ⟨z, q, _⟩ := hL2.len
    exact ne_of_none q hf
  have oc : o1 ≠ c := by
    obtain ⟨z, q, _⟩ := hL6.len
    exact ne_of_none q hc
  have bf : bl ≠ f := ne_of_none hb5 hf
  have bc : bl ≠ c := ne_of_none hb6 hc
  generalize upd H6 c (.lst []) = H7 at s8 hf7 hL7 hb7 s37 hc7 hy
  clear hL6 hb6 hf6 s36 s8 s7 hL2 hb5 s35
  walk_at "go"
  refine forList (K := K) (a := o1) (xs := ys) (fun i σ H' => Stop (∃ (v6 v7 v8 : Option V) (is : List (Option Nat)) (ch : List Int), σ = [some (.ref a), some (.ref b), some (.ref bl), some (.ref o1), some (.ref f), some (.ref c), v6, v7, v8, none] ∧ Same H H' ∧ PairL H' o1 po ∧ H' o1 = some (.lst ys) ∧
    H' bl = some (.lst (sizes.map V.int)) ∧ H' f = some (.lst (((freeL is).map fun i : Nat => (i : Int)).map V.int)) ∧ H' c = some (.lst (ch.map V.int)) ∧ SoFar sizes parcels po i is ch ∧ is.length = sizes.length ∧ ch.length ≤ i)) ⟨none, none, none, _, [], rfl, s37, hL7, hy, hb7, hf7, hc7, SoFar.start, by simp, Nat.le_refl _⟩ ?_ ?_ ?_
  · rintro i σ H' _ ⟨_, _, _, is, ch, _, _, _, z, _⟩
    exact SqL.of z
  · clear hf7 hL7 hb7 s37 hc7 hy
    rintro i v σ H8 hi ⟨v6, v7, v8, is, ch, rfl, s8, hL8, hy8, hb8, hf8, hc8, g, li, lc⟩
    have hil := getLt hi
    obtain ⟨zs, t, w1, w2, w3⟩ := hL8.at_ (z := (i : Int)) (by omega) (by omega)
    have ez : zs = ys := by
      rw [hy8] at w1
      exact (HO.lst.inj (Option.some.inj w1)).symm
    subst ez
    have ev : v = V.ref t := by
      have q := atI_nat hi
      rw [w2] at q
      exact (Option.some.inj q).symm
    subst ev
    rw [Int.toNat_natCast] at w3
    have hz : po[i]? = some (po.getD i (0, 0)) := by
      rw [List.getD_eq_getElem?_getD, List.getElem?_eq_getElem (by omega)]; rfl
    generalize po.getD i (0, 0) = z at w3 hz
    have hfS : SqL K H8 f ((freeL is).map fun i : Nat => V.int (i : Int)) := by
      have := SqL.of (K := K) hf8
      rw [List.map_map] at this
      exact this
    have fl := free_len is
    walk_at "go"
    refine ⟨free_lt _, fun d hd => by have := (mem_free.mp hd).1; omega, fun hn => ?_, fun d hd => ?_⟩
    · walk_at "go"
      exact ⟨_, _, _, is, ch, rfl, s8, hL8, hy8, hb8, hf8, hc8, g.skip hz hn, li, by omega⟩
    · obtain ⟨j, j1, j2, j3⟩ := free_at (n := 0) hd.1
      walk_at "go"
      rw [j3]
      have keepP : ∀ {H' : Hp} {q : Addr} {us vs : List V}, PairL H' o1 po → H' q = some (.lst us) → o1 ≠ q → PairL (upd H' q (.lst vs)) o1 po := fun {H' q us vs} hP hq hn => by
        obtain ⟨zs, z1, z2, z3⟩ := hP.ex
        have z := mapKeep (H' := upd H' q (.lst vs)) z2 fun t i j et => by
          rw [upd_ne (ne_of et hq (by intro q; cases q))]; exact et
        exact ⟨zs, by rw [upd_ne hn]; exact z1, z.1, by rw [z.2]; exact z3⟩
      have hL9 := keepP (vs := ((freeL (is.set d (some 0))).map fun i : Nat => (i : Int)).map V.int) hL8 hf8 of
      have hc9 : upd H8 f (.lst (((freeL (is.set d (some 0))).map fun i : Nat => (i : Int)).map V.int)) c = some (.lst (ch.map V.int)) := by rw [upd_ne (Ne.symm cf)]; exact hc8
      have hb9 : upd H8 f (.lst (((freeL (is.set d (some 0))).map fun i : Nat => (i : Int)).map V.int)) bl = some (.lst (sizes.map V.int)) := by rw [upd_ne bf]; exact hb8
      have hy9 : upd H8 f (.lst (((freeL (is.set d (some 0))).map fun i : Nat => (i : Int)).map V.int)) o1 = some (.lst zs) := by rw [upd_ne of]; exact hy8
      have hf9 : upd H8 f (.lst (((freeL (is.set d (some 0))).map fun i : Nat => (i : Int)).map V.int)) f = some (.lst (((freeL (is.set d (some 0))).map fun i : Nat => (i : Int)).map V.int)) := upd_same
      have s9 : Same H (upd H8 f (.lst (((freeL (is.set d (some 0))).map fun i : Nat => (i : Int)).map V.int))) := sameMut s8 fH
      generalize upd H8 f (.lst (((freeL (is.set d (some 0))).map fun i : Nat => (i : Int)).map V.int)) = H9 at hL9 hc9 hb9 hy9 hf9 s9
      walk_at "go"
      refine ⟨_, _, _, is.set d (some 0), ch ++ [z.2], rfl, sameMut s9 cH, keepP hL9 hc9 oc, by rw [upd_ne oc]; exact hy9, by rw [upd_ne bc]; exact hb9, by rw [upd_ne cf]; exact hf9, by rw [upd_same, appInt], g.take po2 hz hd, by rw [List.length_set]; exact li, by rw [List.length_append, List.length_singleton]; omega⟩
  · rintro σ H8 ⟨v6, v7, v8, is, ch, rfl, s8, hL8, hy8, hb8, hf8, hc8, g, li, lc⟩
    rw [hyl] at g lc
    have hB8 := s8.seq hB
    walk_at "go"
    intro pl l hperm hsort hl
    have s9 : Same H8 (upd H8 l (.lst (pl.map V.int))) := sameNew (Same.refl _) hl
    have hl9 : upd H8 l (.lst (pl.map V.int)) l = some (.lst (pl.map V.int)) := upd_same
    have lH : H l = none := s8.free hl
    have hb9 := s9 _ _ hb8
    have hB9 := s9.seq hB8
    have s89 := s8.trans s9
    generalize upd H8 l (.lst (pl.map V.int)) = H9 at s9 hl9 hb9 hB9 s89
    walk_at "go"
    intro t p H10 ht hm s10 hp
    walk_at "go"
    intro p' hp'
    have s11 : Same H10 (upd H10 p' (.tup [.int ((ch.map V.int).length : Nat), .ref l, .int t])) := sameNew (Same.refl _) hp'
    refine kM ok okp pl t p' l _ (g.most po1 po2 ok okp hperm hsort ht hm) (s89.trans (s10.trans s11)) lH (s11 _ _ (s10 _ _ hl9)) ?_
    rw [upd_same, List.length_map, hperm.length_eq]
end Pw
namespace Pw
def sp_law_whole (K : PySem.W.Frag) : Sp := fun vs H Q _ => ∃ (n : Int), vs = [.int n] ∧ Q (.bl true) H
theorem len_law_whole {K : PySem.W.Frag} : ∀ vs H Q E, sp_law_whole K vs H Q E → vs.length = 1 := by
  rintro vs H Q E ⟨_, rfl, _⟩
  rfl
def t_law_whole (K : PySem.W.Frag) (E : XK) : TS :=
  tRet (tAndV (tCB (rIsi K) (tCons (tVar 0) (tCons (tC (.ty "int")) tNil))) (tNotV (tCB (rIsi K) (tCons (tVar 0) (tCons (tC (.ty "bool")) tNil)))))
theorem pure_law_whole {K : PySem.W.Frag} (vs : List V) (H : Hp) (Q : VK) (E : XK) (h : sp_law_whole K vs H Q E) : t_law_whole K E { nx := fun _ H' => Q .non H', rt := Q } (start ["found"] vs) H := by
  obtain ⟨n, rfl, k⟩ := h
  unfold t_law_whole
  walk_at "go"
  exact k
end Pw
namespace Pw
def sp_law_row (K : PySem.W.Frag) : Sp := fun vs H Q _ => ∃ (f d : Addr) (ns : List Int), vs = [.ref f, .ref d] ∧ H f = some (.lst (ns.map V.int)) ∧ SqL K H d (ns.map V.int) ∧ ns.length ≤ 1000 ∧ Q (.bl true) H
theorem len_law_row {K : PySem.W.Frag} : ∀ vs H Q E, sp_law_row K vs H Q E → vs.length = 2 := by
  rintro vs H Q E ⟨_, _, _, rfl, _⟩
  rfl
def t_law_row (K : PySem.W.Frag) (E : XK) : TS :=
  tSeq (tIfS (tOr (tNot (tB (tCB (rIsi K) (tCons (tVar 0) (tCons (tC (.ty "list")) tNil))))) (tTest (tOp rNe (tCB (rLenSeq K) (tCons (tVar 0) tNil)) (tCB (rLenSeq K) (tCons (tVar 1) tNil))))) (tRet (tC (.bl false))) (tNext))
    (tSeq (tForP (iRng1 (tCons (tCB (rLenSeq K) (tCons (tVar 1) tNil)) tNil)) (gName 2) (tIfS (tOr (tNot (tB (tCall (sp_law_whole K) [] E0 (tCons (tOp (rIxL K) (tVar 0) (tVar 2)) tNil)))) (tTest (tOp rNe (tOp (rIxL K) (tVar 0) (tVar 2)) (tOp (rIxL K) (tVar 1) (tVar 2))))) (tRet (tC (.bl false))) (tNext)))
    (tRet (tC (.bl true))))
theorem pure_law_row {K : PySem.W.Frag} (vs : List V) (H : Hp) (Q : VK) (E : XK) (h : sp_law_row K vs H Q E) : t_law_row K E { nx := fun _ H' => Q .non H', rt := Q } (start ["found", "due", "k"] vs) H := by
  obtain ⟨f, d, ns, rfl, hF, hD, hl, k⟩ := h
  unfold t_law_row
  walk_at "go"
  refine forRange (n := (((ns.map V.int).length : Nat) : Int).toNat) (fun i σ H' => Stop (∃ v : Option V, σ = [some (.ref f), some (.ref d), v] ∧ H' = H)) ⟨none, rfl, rfl⟩ ?_ ?_
  · rintro i σ H' hi ⟨v, rfl, rfl⟩
    have hi : i < ns.length := by simpa using hi
    walk_at "go"
    exact ⟨_, rfl, rfl⟩
  · rintro σ H' ⟨v, rfl, rfl⟩
    walk_at "go"
    exact k
end Pw
theorem Pw.atLast {xs : List V} {v : V} (h : xs[xs.length - 1]? = some v) : atI xs (-1) = some v := by
  have hl : 0 < xs.length := by
    cases xs with
    | nil => simp at h
    | cons a r => simp
  unfold atI ixN
  rw [if_neg (by decide), if_pos (by omega)]
  show xs[_]? = some v
  rw [← h]
  congr 1
  omega
theorem Pw.sortGe {ss : List Int} (h : ss.Pairwise (· ≤ ·)) {i : Nat} {x : Int} (hc : i + 1 ≤ Pw.cntGe ss x) : i < ss.length ∧ x ≤ ss.getD (ss.length - 1 - i) 0 := by
  have hl : i < ss.length := by have := Pw.cntGe_le ss x; omega
  refine ⟨hl, Int.not_lt.mp fun lt => ?_⟩
  have hk : ss.length - 1 - i < ss.length := by omega
  rw [List.getD_eq_getElem?_getD, List.getElem?_eq_getElem hk] at lt
  have lt : ss[ss.length - 1 - i] < x := lt
  have e : ss = ss.take (ss.length - i) ++ ss.drop (ss.length - i) := (List.take_append_drop _ _).symm
  rw [e, Pw.cntGe_append] at hc
  have z : Pw.cntGe (ss.take (ss.length - i)) x = 0 := Pw.cntGe_zero fun y hy => by
    obtain ⟨j, hj, ej⟩ := List.getElem_of_mem hy
    rw [List.length_take] at hj
    rw [List.getElem_take] at ej
    by_cases q : j = ss.length - 1 - i
    · subst q; omega
    · have := List.pairwise_iff_getElem.mp h j (ss.length - 1 - i) (by omega) hk (by omega)
      omega
  have l := Pw.cntGe_le (ss.drop (ss.length - i)) x
  rw [List.length_drop] at l
  omega
theorem Pw.sortCnt {rs : List Int} (h : rs.Pairwise (· ≤ ·)) {i : Nat} {x : Int} (hx : rs.reverse[i]? = some x) : i + 1 ≤ Pw.cntGe rs x := by
  have hi : i < rs.length := by have := getLt hx; rwa [List.length_reverse] at this
  rw [List.getElem?_reverse hi, List.getElem?_eq_getElem (by omega)] at hx
  have hx := Option.some.inj hx
  have e : rs = rs.take (rs.length - 1 - i) ++ rs.drop (rs.length - 1 - i) := (List.take_append_drop _ _).symm
  rw [e, Pw.cntGe_append]
  have a : Pw.cntGe (rs.drop (rs.length - 1 - i)) x = (rs.drop (rs.length - 1 - i)).length := Pw.cntGe_all fun y hy => by
    obtain ⟨j, hj, ej⟩ := List.getElem_of_mem hy
    rw [List.getElem_drop] at ej
    rw [List.length_drop] at hj
    by_cases q : j = 0
    · subst q
      rw [← ej, ← hx]
      exact Int.le_refl _
    · have := List.pairwise_iff_getElem.mp h (rs.length - 1 - i) (rs.length - 1 - i + j) (by omega) (by omega) (by omega)
      omega
  rw [a, List.length_drop]
  omega
namespace Pw
def sp_law_fits (K : PySem.W.Frag) : Sp := fun vs H Q _ => ∃ (b c : Addr) (sizes ps : List Int), vs = [.ref b, .ref c] ∧ SqL K H b (sizes.map V.int) ∧ SqL K H c (ps.map V.int) ∧ sizes.length ≤ 1000 ∧ ps.length ≤ 1000 ∧ (∀ u, cntGe ps u ≤ cntGe sizes u) ∧ ∀ H', Same H H' → Q (.bl true) H'
theorem len_law_fits {K : PySem.W.Frag} : ∀ vs H Q E, sp_law_fits K vs H Q E → vs.length = 2 := by
  rintro vs H Q E ⟨_, _, _, _, rfl, _⟩
  rfl
def t_law_fits (K : PySem.W.Frag) (E : XK) : TS :=
  tSeq (tAsg (tCB (rSortedI K) (tCons (tVar 0) tNil)) (gName 2))
    (tSeq (tForP (iList K (tRevL K (tCB (rSortedI K) (tCons (tVar 1) tNil)))) (gName 3) (tSeq (tIfS (tOr (tTest (tOp rEq (tCB (rLenSeq K) (tCons (tVar 2) tNil)) (tC (.int 0)))) (tTest (tOp rLt (tOp (rIxL K) (tVar 2) (tUn rNeg (tC (.int 1)))) (tVar 3)))) (tRet (tC (.bl false))) (tNext))
    (tDrop (tBM0 K "list" rPop (tVar 2)))))
    (tRet (tC (.bl true))))
theorem pure_law_fits {K : PySem.W.Frag} (vs : List V) (H : Hp) (Q : VK) (E : XK) (h : sp_law_fits K vs H Q E) : t_law_fits K E { nx := fun _ H' => Q .non H', rt := Q } (start ["sizes", "parcels", "left", "size"] vs) H := by
  obtain ⟨b, c, sizes, ps, rfl, hB, hC, lB, lC, hf, k⟩ := h
  unfold t_law_fits
  walk_at "go"
  intro ss D pm1 srt1 hD
  have s1 : Same H (upd H D (.lst (ss.map V.int))) := sameNew (Same.refl _) hD
  have hC1 := s1.seq hC
  walk_at "go"
  intro rs D2 pm2 srt2 hD2
  have s2 : Same (upd H D (.lst (ss.map V.int))) (upd (upd H D (.lst (ss.map V.int))) D2 (.lst (rs.map V.int))) := sameNew (Same.refl _) hD2
  walk_at "go"
  intro r hr
  have s3 : Same (upd (upd H D (.lst (ss.map V.int))) D2 (.lst (rs.map V.int))) (upd (upd (upd H D (.lst (ss.map V.int))) D2 (.lst (rs.map V.int))) r (.lst (rs.map V.int).reverse)) := sameNew (Same.refl _) hr
  have hD3 := s3 _ _ (s2 _ _ (upd_same (H := H) (a := D) (o := .lst (ss.map V.int))))
  have Dr : D ≠ r := by
    refine ne_of_none (s2 _ _ (upd_same (H := H) (a := D) (o := .lst (ss.map V.int)))) hr
  have sA := s1.trans (s2.trans s3)
  have hr3 : upd (upd (upd H D (.lst (ss.map V.int))) D2 (.lst (rs.map V.int))) r (.lst (rs.map V.int).reverse) r = some (.lst (rs.reverse.map V.int)) := by rw [upd_same, List.map_reverse]
  dsimp only
  generalize upd (upd (upd H D (.lst (ss.map V.int))) D2 (.lst (rs.map V.int))) r (.lst (rs.map V.int).reverse) = H3 at hD3 sA hr3 ⊢
  clear s1 s2 s3 hC1 hD2 hr
  walk_at "go"
  refine forList (K := K) (a := r) (xs := rs.reverse.map V.int) (fun i σ H' => Stop (∃ (v3 : Option V) (ls : List Int), σ = [some (.ref b), some (.ref c), some (.ref D), v3] ∧ Same H H' ∧ H' r = some (.lst (rs.reverse.map V.int)) ∧ H' D = some (.lst (ls.map V.int)) ∧ ls = ss.take (ss.length - i)))
    ⟨none, ss, rfl, sA, hr3, hD3, by simp⟩ ?_ ?_ ?_
  · rintro i σ H' _ ⟨v3, ls, rfl, s, h, _⟩
    exact SqL.of h
  · rintro i x σ H' hx ⟨v3, ls, rfl, s, hr', hD', els⟩
    obtain ⟨z, hz, rfl⟩ := mapGet hx
    have c1 := sortCnt srt2 hz
    have c2 : cntGe rs z = cntGe ps z := cntGe_perm pm2 z
    have c3 : cntGe ss z = cntGe sizes z := cntGe_perm pm1 z
    have c4 := hf z
    obtain ⟨hl, hle⟩ := sortGe srt1 (i := i) (x := z) (by omega)
    have lsl : ls.length = ss.length - i := by rw [els, List.length_take]; omega
    have hy : (ls.map V.int)[(ls.map V.int).length - 1]? = some (.int (ss.getD (ss.length - 1 - i) 0)) := by
      rw [List.getElem?_map, List.length_map, lsl, els, List.getElem?_take_of_lt (by omega), List.getElem?_eq_getElem (by omega), List.getD_eq_getElem?_getD, List.getElem?_eq_getElem (by omega)]
      have e : ss.length - i - 1 = ss.length - 1 - i := by omega
      simp only [e]
      rfl
    have hy2 := atLast hy
    have hsq := SqL.of (K := K) hD'
    generalize ss.getD (ss.length - 1 - i) 0 = y at hle hy hy2
    have ml : (ls.map V.int).length = ss.length - i := by rw [List.length_map]; exact lsl
    walk_at "go"
    refine ⟨_, ss.take (ss.length - (i + 1)), rfl, sameMut s hD, by rw [upd_ne (Ne.symm Dr)]; exact hr', ?_, rfl⟩
    rw [upd_same, els, ← List.map_dropLast]
    congr 3
    rw [List.dropLast_eq_take, List.length_take, List.take_take]
    congr 1
    omega
  · rintro σ H' ⟨v3, ls, rfl, s, _⟩
    walk_at "go"
    exact k _ s
end Pw
namespace Pw
/-! ### set(xs), xs a list of whole numbers, as the set that sorted() knows (SetO) -/
section
variable {P : Program} {w : World} {A : Around} {E : Value → Shared → Prop} {s : Shared}
/-- an empty set, as set() lays it in the world w -/
abbrev noneIn (w : World) : Obj := { cls := .type "set", dict := none, data := .set #[] 0 (.fresh 0 0 (!w.params.followText "set-order")) }
/-- set.__init__(D, l): the empty set at D is filled from the list at l -/
theorem init_setL {D l : Addr} {items : Array Value} {ns : List Int} {R : Result → Shared → Prop} (hh : A.handled = none) (hD : s.heap.get? D = some (noneIn w)) (hl : s.heap.IsList l items) (hit : IntsAre items.toList ns) (hb : ns.length + 1 < scanBound)
    (h : ∀ (h' : Heap) (tk c : Nat), SetR w h' D (fun j => decide (j ∈ ns)) c → c ≤ ns.length → (∀ b o, b ≠ D → s.heap.get? b = some o → h'.get? b = some o) → R (.ok (.ret .none)) { s with heap := h', toks := tk }) :
    codeAny (model P w) A (.call (.builtin "set.__init__") ⟨[.ref D, .ref l], []⟩) R s := by
  have many : items.size = ns.length := by rw [← Array.length_toList]; exact IntsAre.length hit
  have apart : D ≠ l := fun e => by
    obtain ⟨o, ho, hc, _⟩ := hl
    rw [← e, hD] at ho
    cases ho
    exact absurd (show Value.type "set" = Value.type "list" from hc) (by decide)
  have isD : Shared.TypeIs s (.ref D) "set" := ⟨_, hD, rfl⟩
  refine codeAny_call_builtin F.called_set.init.plain F.entry_set_init (check_set_init_1 isD ?_)
  obtain ⟨⟨cl, di, da, sl⟩, ho, hc, nl, hd⟩ := id hl
  dsimp only at hc hd
  subst hc hd
  have l1 := F.sub_list_set
  have l2 := F.sub_list_frozenset
  have l3 : (Value.type "list" == Value.type "dict") = false := by decide
  unfold Builtin.«set.__init__» noKeywords Builtin.Frozenset.updateFrom
  generalize hI : pyIter = It
  wp_walk
  subst hI
  refine wpAny_pyIter_list hl (wpAny_bind (wpAny_runValue ?_))
  dsimp only
  have lD : D < s.heap.objs.size := Heap.lt_size hD
  have ll : l < s.heap.objs.size := Heap.lt_size ho
  have val : ∀ (i : Nat) (v : Value), items[i]? = some v → ∃ k t, ns[i]? = some k ∧ v = .int k t := fun i v hv => by
    have hi : i < ns.length := by rw [← many]; exact (Array.getElem?_eq_some_iff.mp hv).1
    obtain ⟨t, ht⟩ := hit.get i ns[i] (List.getElem?_eq_getElem hi)
    rw [Array.getElem?_toList, hv] at ht
    exact ⟨ns[i], t, List.getElem?_eq_getElem hi, Option.some.inj ht⟩
  refine set_update_ints ((Walks.list (by simpa using hh) s.heap.objs.size l (Nat.ne_of_lt ll) items).toS) D (by simpa using ⟨Nat.ne_of_lt lD, apart⟩) ns many hb val _ 0 _ rfl (Nat.zero_le _) ⟨⟨_, Heap.get?_push_size _ rfl, rfl, rfl⟩, hl.push _⟩
    ⟨0, Nat.le_refl 0, setR_new_at (Heap.get?_push_of_some _ hD)⟩ fun s' c mv hc SR => ?_
  obtain ⟨h', g', d', tk, o'⟩ := s'
  obtain rfl : g' = s.gens := mv.gens
  obtain rfl : d' = s.drawn := mv.drawn
  obtain rfl : o' = s.os := mv.os
  refine wpAny_pure (wpAny_pure (h h' tk c SR (by omega) fun b o nb e => mv.heap b o ?_ (Heap.get?_push_of_some _ e)))
  simpa using ⟨nb, Nat.ne_of_lt (Heap.lt_size e)⟩
set_option maxRecDepth 100000 in
set_option maxHeartbeats 3200000 in
theorem call_setOfL {l : Addr} {items : Array Value} (ns : List Int) {Q : Value → Shared → Prop} (hh : A.handled = none) (hl : s.heap.IsList l items) (hit : IntsAre items.toList ns) (hb : ns.length + 1 < scanBound)
    (h : ∀ (h' : Heap) (tk c : Nat), SetR w h' s.heap.objs.size (fun j => decide (j ∈ ns)) c → c ≤ ns.length → (∀ b o, s.heap.get? b = some o → h'.get? b = some o) → Q (.ref s.heap.objs.size) { s with heap := h', toks := tk }) :
    wpAny (model P w) A (call (.type "set") [.ref l]) Q E s := by
  obtain ⟨c, tl, hmro⟩ := F.called_set.mro
  have made := F.called_set.made
  have sub := F.called_set.sub
  refine wpAny_call (codeAny_of_tree ?_)
  show wpAny _ _ (callAny (.type "set") _) _ _ _
  refine wpAny_pure ⟨Code.quiet_builtin _ (by decide +kernel), codeAny_builtin F.entry_type_call ?_⟩
  rw [Around.under_plain (weight_type_call_type "set" [.ref l] []) rfl]
  have notType := F.called_set.notType
  have canCreate := F.called_set.canCreate
  have tcall := F.typeCall_set_1 (.ref l)
  repeat (any_goals (first | assumption | wp_step))
  have hS : (s.heap.push (noneIn w)).get? s.heap.objs.size = some (noneIn w) := Heap.get?_push_size _ rfl
  have hT : Shared.TypeIs { s with heap := s.heap.push (noneIn w) } (.ref s.heap.objs.size) "set" := ⟨_, hS, rfl⟩
  refine codeAny_mono (code_set_led1 (.ref l) (E := E) (Q₁ := fun v s₁ => v = .ref s.heap.objs.size ∧ s₁ = { s with heap := s.heap.push (noneIn w) }) ⟨rfl, rfl⟩) fun r s₁ hr => ?_
  match r, hr with
  | .error e, hr => exact hr
  | .ok (.ret v), hr =>
    obtain ⟨rfl, rfl⟩ := hr
    have li := F.called_set.init.lookup
    have bi := F.called_set.init.bind (.ref s.heap.objs.size)
    repeat (any_goals (first | assumption | wp_step))
    refine init_setL (by simpa using hh) hS (hl.push _) hit hb fun h' tk c R hc keep => ?_
    repeat (any_goals (first | assumption | wp_step))
    exact h h' tk c R hc fun b o e => keep b o (Nat.ne_of_lt (Heap.lt_size e)) (Heap.get?_push_of_some _ e)
  | .ok .next, hr => exact hr.elim
  | .ok .brk, hr => exact hr.elim
  | .ok .cont, hr => exact hr.elim
end
section
variable {X : Cx}
def rSetOfL (K : PySem.W.Frag) (w : World) : List V → Hp → VK → Prop := fun xs H Q => ∃ (l : Addr) (ns : List Int), xs = [.ref l] ∧ SqL K H l (ns.map V.int) ∧ ns.length < 64 ∧ ∀ (a : Addr) (c : Nat), H a = none → c ≤ ns.length → Q (.ref a) (upd H a (SetO w a (fun j => decide (j ∈ ns)) c))
theorem cr_setOfL (hc : X.calm = true) : CallR X (.type "set") (rSetOfL X.K X.w) := by
  intro pins s σ H xs us Q I r h
  obtain ⟨l, ns, rfl, hl, hf, q⟩ := h
  rw [Vals.ref1 r]
  obtain ⟨its, rv, pl, hz⟩ := I.list hl
  have nf : ns.length + 1 < scanBound := by unfold scanBound; omega
  exact call_setOfL ns (I.ok.hd hc) pl.isList (by simpa using RZ.intsAre_vals rv) nf fun h' tk c R hcn keep =>
    ⟨.ref s.heap.objs.size, _, I.laid (t' := tk) keep (Nat.le_refl _) (setO_new R), rfl, q _ c (I.hok.fresh (Nat.le_refl _)) hcn⟩
/-- a reading that asks less -/
def tLess (t : TE) : TE := fun σ H Q => ∃ R : VK, t σ H R ∧ ∀ x H1, R x H1 → Q x H1
theorem pe_less {e : Expr} {t : TE} (h : PE X e t) : PE X e (tLess t) := ⟨fun pins s σ H Q I ⟨R, r, k⟩ => thn (h.run pins s σ H R I r) fun u s1 ⟨x, H1, I1, rx, q⟩ => ⟨x, H1, I1, rx, k x H1 q⟩⟩
/-- sorted(set(xs)), xs a list of whole numbers: they rise, none twice -/
def tSortSet (K : PySem.W.Frag) (te : TE) : TE := fun σ H Q => te σ H fun x H1 => ∃ (a : Addr) (ns : List Int), x = .ref a ∧ SqL K H1 a (ns.map V.int) ∧ ns.length < 64 ∧
  ∀ (ms : List Int) (H2 : Hp) (p : Addr), ms.Pairwise (· < ·) → (∀ k, k ∈ ms ↔ k ∈ ns) → Same H1 H2 → H1 p = none → H2 p = some (.lst (ms.map V.int)) → Q (.ref p) H2
theorem pe_sortSet {e : Expr} {te : TE} {p1 p2 q1 pos : Pos} (hc : X.calm = true) (hg : Gl X "sorted") (hm : X.mg "sorted" = none) (hg2 : Gl X "set") (hm2 : X.mg "set" = none) (he : PE X e te) (hs : starEach [e] X.env = (false, eval e X.env) :: starEach [] X.env := by rfl)
    (hs2 : starEach [.Call (.Name "set" p2) [e] [] q1] X.env = (false, eval (.Call (.Name "set" p2) [e] [] q1) X.env) :: starEach [] X.env := by rfl) : PE X (.Call (.Name "sorted" p1) [.Call (.Name "set" p2) [e] [] q1] [] pos) (tSortSet X.K te) := by
  have one : PE X (.Call (.Name "set" p2) [e] [] q1) (tCB (rSetOfL X.K X.w) (tCons (tLess te) tNil)) := pe_callTy (cr_setOfL hc) hg2 hm2 (by decide +kernel) (pa_cons (pe_less he) pa_nil hs) (he := hs)
  have two := pe_callB (pos := pos) (p := p1) (cr_sortedSet hc) hg hm (by decide +kernel) (pa_cons one pa_nil hs2) (he := hs2)
  refine ⟨fun pins s σ H Q I h => two.run pins s σ H Q I ⟨_, h, ?_⟩⟩
  rintro x H1 ⟨a, ns, rfl, hl, hf, q⟩
  refine ⟨a, ns, rfl, hl, hf, fun b c hb hc2 => ⟨b, _, c, rfl, upd_same, by omega, fun ms p rise mem _ hp => ?_⟩⟩
  have s1 : Same H1 (upd H1 b (SetO X.w b (fun j => decide (j ∈ ns)) c)) := sameNew (Same.refl _) hb
  exact q ms _ p rise (fun k => (mem k).trans (by rw [decide_eq_true_eq])) (sameNew s1 hp) (s1.free hp) upd_same
end
end Pw
theorem Pw.riseEq : ∀ {xs ys : List Int}, xs.Pairwise (· < ·) → ys.Pairwise (· < ·) → (∀ k, k ∈ xs ↔ k ∈ ys) → xs = ys
  | [], [], _, _, _ => rfl
  | [], y :: r, _, _, h => by have := (h y).mpr (by simp); cases this
  | x :: r, [], _, _, h => by have := (h x).mp (by simp); cases this
  | x :: r, y :: q, h1, h2, h => by
    obtain ⟨a1, a2⟩ := List.pairwise_cons.mp h1
    obtain ⟨b1, b2⟩ := List.pairwise_cons.mp h2
    have e : x = y := by
      rcases List.mem_cons.mp ((h x).mp (by simp)) with e | e
      · exact e
      · rcases List.mem_cons.mp ((h y).mpr (by simp)) with e2 | e2
        · exact e2.symm
        · have := b1 x e
          have := a1 y e2
          omega
    subst e
    congr 1
    refine Pw.riseEq a2 b2 fun k => ⟨fun hk => ?_, fun hk => ?_⟩
    · rcases List.mem_cons.mp ((h k).mp (List.mem_cons_of_mem _ hk)) with e | e
      · have := a1 k hk; omega
      · exact e
    · rcases List.mem_cons.mp ((h k).mpr (List.mem_cons_of_mem _ hk)) with e | e
      · have := b1 k hk; omega
      · exact e
namespace Pw
def sp_law_right_k06 (K : PySem.W.Frag) : Sp := fun vs H Q _ => ∃ (f b c q : Addr) (sizes parcels pl : List Int) (t : Int), vs = [.ref f, .ref b, .ref c] ∧ SqL K H b (sizes.map V.int) ∧ SqL K H c (parcels.map V.int) ∧ sizes.length ≤ 1000 ∧ parcels.length ≤ 1000 ∧
  MostOk sizes parcels pl t ∧ H f = some (.tup [.int (pl.length : Nat), .ref q, .int t]) ∧ H q = some (.lst (pl.map V.int)) ∧ pl.length < 64 ∧ ∀ H', Same H H' → Q (.bl true) H'
theorem len_law_right_k06 {K : PySem.W.Frag} : ∀ vs H Q E, sp_law_right_k06 K vs H Q E → vs.length = 3 := by
  rintro vs H Q E ⟨_, _, _, _, _, _, _, _, rfl, _⟩
  rfl
def t_law_right_k06 (K : PySem.W.Frag) (E : XK) : TS :=
  tSeq (tIfS (tOr (tNot (tB (tCB (rIsi K) (tCons (tVar 0) (tCons (tC (.ty "tuple")) tNil))))) (tOr (tTest (tOp rNe (tCB (rLenSeq K) (tCons (tVar 0) tNil)) (tC (.int 3)))) (tOr (tNot (tB (tCall (sp_law_whole K) [] E0 (tCons (tOp (rIxT K) (tVar 0) (tC (.int 0))) tNil)))) (tNot (tB (tCall (sp_law_whole K) [] E0 (tCons (tOp (rIxT K) (tVar 0) (tC (.int 2))) tNil))))))) (tRet (tC (.bl false))) (tNext))
    (tSeq (tAsg (tOp (rIxT K) (tVar 0) (tC (.int 1))) (gName 3))
    (tSeq (tIfS (tOr (tNot (tB (tCB (rIsi K) (tCons (tVar 3) (tCons (tC (.ty "list")) tNil))))) (tOr (tTest (tOp rNe (tCB (rLenSeq K) (tCons (tVar 3) tNil)) (tOp (rIxT K) (tVar 0) (tC (.int 0))))) (tNot (tB (tCall (sp_law_row K) [] E0 (tCons (tVar 3) (tCons (tSortSet K (tVar 3)) tNil))))))) (tRet (tC (.bl false))) (tNext))
    (tCutP (tIfS (tAnd (tTest (tOp rGt (tCB (rLenSeq K) (tCons (tVar 3) tNil)) (tC (.int 0)))) (tOr (tTest (tOp rLt (tOp (rIxL K) (tVar 3) (tC (.int 0))) (tC (.int 0)))) (tTest (tOp rGe (tOp (rIxL K) (tVar 3) (tUn rNeg (tC (.int 1)))) (tCB (rLenSeq K) (tCons (tVar 2) tNil)))))) (tRet (tC (.bl false))) (tNext))
    (tSeq (tIfS (tOr (tNot (tB (tCall (sp_law_fits K) [] E0 (tCons (tVar 1) (tCons (tLc (iList K (tVar 3)) (gName 5) tYes (tOp (rIxL K) (tVar 2) (tVar 5)) [5]) tNil))))) (tOr (tTest (tOp rLt (tOp (rIxT K) (tVar 0) (tC (.int 2))) (tC (.int 1)))) (tTest (tOp rGt (tOp (rIxT K) (tVar 0) (tC (.int 2))) (tC (.int 10)))))) (tRet (tC (.bl false))) (tNext))
    (tSeq (tAsg (tCB (rLenSeq K) (tCons (tLc (iList K (tVar 2)) (gName 6) (tTest (tOp rLt (tVar 6) (tOp (rIxT K) (tVar 0) (tC (.int 2))))) (tVar 6) [6]) tNil)) (gName 4))
    (tRet (tOp rEq (tOp rAddI (tVar 4) (tCB (rLenSeq K) (tCons (tLc (iList K (tVar 1)) (gName 6) (tTest (tOp rGe (tVar 6) (tOp (rIxT K) (tVar 0) (tC (.int 2))))) (tVar 6) [6]) tNil))) (tOp (rIxT K) (tVar 0) (tC (.int 0))))))))))
theorem pure_law_right_k06 {K : PySem.W.Frag} (vs : List V) (H : Hp) (Q : VK) (E : XK) (h : sp_law_right_k06 K vs H Q E) : t_law_right_k06 K E { nx := fun _ H' => Q .non H', rt := Q } (start ["found", "sizes", "parcels", "places", "lesser", "k", "size"] vs) H := by
  obtain ⟨f, b, c, q, sizes, parcels, pl, t, rfl, hB, hC, lB, lC, M, hf, hq, lp, k⟩ := h
  have hfT := SqT.of (K := K) hf
  have hqS := SqL.of (K := K) hq
  have e0 : V.int (((pl.map V.int).length : Nat) : Int) = V.int ((pl.length : Nat) : Int) := by rw [List.length_map]
  unfold t_law_right_k06
  walk_at "go"
  intro ms H2 p rise mem s2 hp0 hp2
  obtain rfl := riseEq rise M.srt mem
  have hq2 := s2 _ _ hq
  have hp2S := SqL.of (K := K) hp2
  have lp' : ms.length ≤ 1000 := by omega
  clear hqS hq
  walk_at "go"
  refine cut (fun σ H' => Stop (σ = [some (.ref f), some (.ref b), some (.ref c), some (.ref q), none, none, none] ∧ H' = H2)) ?_ ?_
  · have hq2S := SqL.of (K := K) hq2
    cases ms with
    | nil =>
      walk_at "go"
      exact ⟨rfl, rfl⟩
    | cons m r =>
      have h0 := M.rng m (by simp)
      have a0 : atI ((m :: r).map V.int) 0 = some (.int m) := atI_of (j := 0) rfl rfl
      obtain ⟨z, hz⟩ := getOf (xs := m :: r) (i := (m :: r).length - 1) (by simp)
      have hz1 := M.rng z (List.mem_of_getElem? hz)
      have az : atI ((m :: r).map V.int) (-1) = some (.int z) := atLast (by rw [List.length_map, List.getElem?_map, hz]; rfl)
      have ln : ((m :: r).map V.int).length = r.length + 1 := by simp
      have lc : (parcels.map V.int).length = parcels.length := List.length_map _
      generalize (m :: r).map V.int = ys at *
      generalize parcels.map V.int = cs at *
      walk_at "go"
      exact ⟨rfl, rfl⟩
  rintro σ H' ⟨rfl, rfl⟩
  have hq2S := SqL.of (K := K) hq2
  have hfT2 := SqT.of (K := K) (s2 _ _ hf)
  have t1 := M.t1
  walk_at "go"
  intro D hD
  refine lcMap (inj := V.int) (ns := ms) (fun _ => true) (fun x => V.int (parcels.getD x.toNat 0)) hD hq2S (by omega) (fun _ => rfl) (fun i x H3 hx s' TT k' => ?_) (fun i x H3 hx _ s' Qv k' => ?_) (fun H3 s3 hD3 => ?_)
  · exact k' _ (Same.refl _)
  · have hx := M.rng x (List.mem_of_getElem? hx)
    walk_at "go"
    exact k' _ (Same.refl _)
  rw [filterAll] at hD3
  have hD3 : SqL K H3 D ((ms.map fun x => parcels.getD x.toNat 0).map V.int) := SqL.of (by rw [hD3, List.map_map]; rfl)
  have ml : (ms.map fun x => parcels.getD x.toNat 0).length ≤ 1000 := by rw [List.length_map]; omega
  have ft := M.fits
  have s23 := s2.trans s3
  walk_at "go"
  intro H4 s4
  have s24 := s23.trans s4
  have hfT4 := SqT.of (K := K) (s24 _ _ hf)
  clear hq2S hp2S
  walk_at "go"
  intro D4 hD4
  refine lcMap (inj := V.int) (ns := parcels) (fun x => decide (x < t)) V.int hD4 (s24.seq hC) (by omega) (fun _ => rfl) (fun i x H5 hx s' TT k' => ?_) (fun i x H5 hx _ s' Qv k' => ?_) (fun H5 s5 hD5 => ?_)
  · have hfT5 := SqT.of (K := K) ((s24.trans s') _ _ hf)
    walk_at "go"
    exact k' _ (Same.refl _)
  · walk_at "go"
    exact k' _ (Same.refl _)
  have hD5 := SqL.of (K := K) hD5
  have s25 := s24.trans s5
  walk_at "go"
  intro D6 hD6
  refine lcMap (inj := V.int) (ns := sizes) (fun x => decide (t ≤ x)) V.int hD6 (s25.seq hB) (by omega) (fun _ => rfl) (fun i x H6 hx s' TT k' => ?_) (fun i x H6 hx _ s' Qv k' => ?_) (fun H6 s6 hD7 => ?_)
  · have hfT6 := SqT.of (K := K) ((s25.trans s') _ _ hf)
    walk_at "go"
    exact k' _ (Same.refl _)
  · walk_at "go"
    exact k' _ (Same.refl _)
  have hD7 := SqL.of (K := K) hD7
  have s26 := s25.trans s6
  have hfT6 := SqT.of (K := K) (s26 _ _ hf)
  clear hfT4
  walk_at "go"
  refine qDec ?_ (k _ s26)
  have e := M.sum
  unfold manyAt cntLt cntGe at e
  rw [List.length_map, List.length_map]
  exact congrArg V.int (by omega)
end Pw
namespace Pw
def sp_fit (K : PySem.W.Frag) : Sp := fun vs H Q E => ∃ (a b : Addr) (sizes parcels : List Int), vs = [.ref a, .ref b] ∧ SqL K H a (sizes.map V.int) ∧ SqL K H b (parcels.map V.int) ∧ sizes.length ≤ 1000 ∧ parcels.length ≤ 1000 ∧
  (OkW sizes → OkP parcels → ∀ (H' : Hp) (p : Addr) (s : Int), Same H H' → H p = none → H' p = some (.tup [.str "many", .int s]) → Many sizes parcels s → Q (.ref p) H') ∧
  (OkW sizes → OkP parcels → ∀ (H' : Hp) (p q : Addr) (fs : List Int), Same H H' → H p = none → H q = none → H' p = some (.tup [.str "boxes", .ref q]) → H' q = some (.lst (fs.map V.int)) → Boxes sizes parcels fs →
    (∀ s, 1 ≤ s → s ≤ 9 → cntGe parcels s ≤ cntGe sizes s) → Q (.ref p) H') ∧
  (¬ OkW sizes → ∀ H', Same H H' → E (.ref (He.ga K "NoWall")) none H') ∧
  (OkW sizes → ¬ OkP parcels → ∀ H', Same H H' → E (.ref (He.ga K "NoSize")) none H')
theorem len_fit {K : PySem.W.Frag} : ∀ vs H Q E, sp_fit K vs H Q E → vs.length = 2 := by
  rintro vs H Q E ⟨_, _, _, _, rfl, _⟩
  rfl
def t_fit (K : PySem.W.Frag) (E : XK) : TS :=
  tSeq (tAsg (tMeth (He.ga K "Wall") "sizes" (sp_Wall_sizes K) [] E0 (tMake (He.ga K "Wall") (sp_Wall_init K) [] E (tCons (tVar 0) tNil)) tNil) (gName 2))
    (tSeq (tDrop (tCall (sp_see_parcels K) [] E (tCons (tVar 1) tNil)))
    (tSeq (tForP (iRng2 (tCons (tC (.int 1)) (tCons (tOp rAddI (tC (.int 9)) (tC (.int 1))) tNil))) (gName 3) (tIfS (tTest (tOp rGt (tCB (rLenSeq K) (tCons (tLc (iList K (tVar 1)) (gName 8) (tTest (tOp rGe (tVar 8) (tVar 3))) (tVar 8) [8]) tNil)) (tCB (rLenSeq K) (tCons (tLc (iList K (tVar 2)) (gName 9) (tTest (tOp rGe (tVar 9) (tVar 3))) (tVar 9) [9]) tNil)))) (tRet (tTup (tCons (tC (.str "many")) (tCons (tVar 3) tNil)))) (tNext)))
    (tSeq (tAsg (tCB (rSortPO K) (tCons (tLc (iRng1 (tCons (tCB (rLenSeq K) (tCons (tVar 1) tNil)) tNil)) (gName 7) tYes (tTup (tCons (tOp rSubI (tC (.int 0)) (tOp (rIxL K) (tVar 1) (tVar 7))) (tCons (tVar 7) tNil))) [7]) tNil)) (gName 4))
    (tSeq (tAsg (tCB (rSortPO K) (tCons (tLc (iRng1 (tCons (tCB (rLenSeq K) (tCons (tVar 2) tNil)) tNil)) (gName 9) tYes (tTup (tCons (tOp rSubI (tC (.int 0)) (tOp (rIxL K) (tVar 2) (tVar 9))) (tCons (tVar 9) tNil))) [9]) tNil)) (gName 5))
    (tSeq (tAsg (tLc (iList K (tVar 1)) (gName 3) tYes (tC (.int 0)) [3]) (gName 6))
    (tSeq (tForP (iRng1 (tCons (tCB (rLenSeq K) (tCons (tVar 4) tNil)) tNil)) (gName 7) (tAsg (tOp (rIxT K) (tOp (rIxL K) (tVar 5) (tVar 7)) (tC (.int 1))) (gSub (tVar 6) (tOp (rIxT K) (tOp (rIxL K) (tVar 4) (tVar 7)) (tC (.int 1))) rSetL)))
    (tRet (tTup (tCons (tC (.str "boxes")) (tCons (tVar 6) tNil))))))))))
theorem pure_fit {K : PySem.W.Frag} (T : TW K) (vs : List V) (H : Hp) (Q : VK) (E : XK) (h : sp_fit K vs H Q E) : t_fit K E { nx := fun _ H' => Q .non H', rt := Q } (start ["sizes", "parcels", "boxes", "size", "order", "free", "found", "k", "one", "box"] vs) H := by
  obtain ⟨a, b, sizes, parcels, rfl, hA, hB, lA, lB, kM, kB, eW, eS⟩ := h
  obtain ⟨tcl, tnb, tni, tnp, tnt⟩ := id T
  unfold t_fit
  walk_at "go"
  intro x dx hx hdx hne
  have s0 : Same H (upd (upd H dx (.own x)) x (.ins (He.ga K "Wall") dx [])) := sameNew (sameNew (Same.refl _) hdx) (by rw [upd_ne (Ne.symm hne)]; exact hx)
  refine ⟨x, dx, a, sizes, rfl, upd_same, s0.seq hA, lA, fun ok H1 l1 l2 l3 A1 n1 n2 n3 fr => ?_, fun nok => eW nok _ s0⟩
  have s1 : Same H H1 := fun c o e => fr c o (s0 c o e) (ne_of_none e hx)
  refine ⟨rfl, ?_⟩
  have hob : H1 x = some (.ins (He.ga K "Wall") dx (wf l1 l2 l3 0)) := A1.ob
  walk_at "go"
  intro H2 bl s2 hb2 hbl
  have s3 := s1.trans s2
  have hbn : H bl = none := s1.free hb2
  walk_at "go"
  refine ⟨fun okp => ?_, fun nok => eS ok nok _ s3⟩
  have hbl : H2 bl = some (.lst (sizes.map V.int)) := hbl
  walk_at "go"
  refine forRange (n := (9 + 1 - 1 : Int).toNat) (fun i σ H' => Stop (∃ v3 : Option V, σ = [some (.ref a), some (.ref b), some (.ref bl), v3, none, none, none, none, none, none] ∧ Same H H' ∧ H' bl = some (.lst (sizes.map V.int)) ∧ ∀ s, 1 ≤ s → s ≤ (i : Int) → cntGe parcels s ≤ cntGe sizes s))
    ⟨none, rfl, s3, hbl, fun s h1 h2 => by omega⟩ ?_ ?_
  · rintro i σ H3 hi ⟨v3, rfl, s4, hb3, ha⟩
    have hi : i < 9 := hi
    walk_at "go"
    intro D1 hD1
    refine lcMap (fun x => decide ((1 : Int) + i ≤ x)) V.int hD1 (s4.seq hB) (by omega) (fun _ => rfl) (fun j n H' _ s' TT k' => ?_) (fun j n H' _ _ s' Qv k' => ?_) (fun H4 s5 hL1 => ?_)
    · walk_at "go"
      exact k' _ (Same.refl _)
    · walk_at "go"
      exact k' _ (Same.refl _)
    walk_at "go"
    intro D2 hD2
    have hb4 : H4 bl = some (.lst (sizes.map V.int)) := s5 _ _ hb3
    refine lcMap (fun x => decide ((1 : Int) + i ≤ x)) V.int hD2 (SqL.of hb4) (by omega) (fun _ => rfl) (fun j n H' _ s' TT k' => ?_) (fun j n H' _ _ s' Qv k' => ?_) (fun H5 s6 hL2 => ?_)
    · walk_at "go"
      exact k' _ (Same.refl _)
    · walk_at "go"
      exact k' _ (Same.refl _)
    have s7 : Same H H5 := (s4.trans s5).trans s6
    have hL1' := s6 _ _ hL1
    walk_at "go"
    simp only [List.length_map]
    refine ifD (fun c => ?_) (fun c => ?_)
    · walk_at "go"
      intro p hp
      refine kM ok okp _ p _ (sameNew s7 hp) (s7.free hp) upd_same ⟨by omega, by omega, ?_⟩
      show (List.filter _ _).length < (List.filter _ _).length
      omega
    · refine ⟨_, rfl, s7, s6 _ _ (s5 _ _ hb3), fun s h1 h2 => ?_⟩
      by_cases e : s = 1 + (i : Int)
      · subst e
        show (List.filter _ _).length ≤ (List.filter _ _).length
        omega
      · exact ha s h1 (by omega)
  · rintro σ H3 ⟨v3, rfl, s4, hb3, ha⟩
    have hall : ∀ s, 1 ≤ s → s ≤ 9 → cntGe parcels s ≤ cntGe sizes s := fun s h1 h2 => ha s h1 h2
    walk_at "go"
    intro D1 hD1
    refine lcPairs (n := (((parcels.map V.int).length : Nat) : Int).toNat) (fun _ => true) (fun i => 0 - parcels.getD i 0) (fun i => (i : Int)) hD1 (by simp; omega) (fun _ => rfl) (fun i H' hi s' TT k' => ?_) (fun i H' hi _ s' Qv k' => ?_) (fun H4 s5 hL1 => ?_)
    · exact k' _ (Same.refl _)
    · have hi : i < parcels.length := by simpa using hi
      have e : ((0 : Int) + (i : Int)).toNat = i := by omega
      have sq : SqL K H' b (parcels.map V.int) := (s4.trans s').seq hB
      walk_at "go"
      rw [e]
      intro t ht
      refine k' t _ (sameNew (Same.refl _) ht) ?_
      rw [show ((0 : Int) + (i : Int)) = (i : Int) by omega]
      exact upd_same
    rw [filterAll] at hL1
    walk_at "go"
    refine sortedPairs hL1 fun po o1 H5 po1 po2 s6 ho1 hL2 => ?_
    have O : Fall parcels po := ⟨by simpa using po1, po2⟩
    have hb5 : H5 bl = some (.lst (sizes.map V.int)) := s6 _ _ (s5 _ _ hb3)
    walk_at "go"
    intro D2 hD2
    refine lcPairs (n := (((sizes.map V.int).length : Nat) : Int).toNat) (fun _ => true) (fun i => 0 - sizes.getD i 0) (fun i => (i : Int)) hD2 (by simp; omega) (fun _ => rfl) (fun i H' hi s' TT k' => ?_) (fun i H' hi _ s' Qv k' => ?_) (fun H6 s7 hL3 => ?_)
    · exact k' _ (Same.refl _)
    · have hi : i < sizes.length := by simpa using hi
      have e : ((0 : Int) + (i : Int)).toNat = i := by omega
      have hb' : H' bl = some (.lst (sizes.map V.int)) := s' _ _ hb5
      walk_at "go"
      rw [e]
      intro t ht
      refine k' t _ (sameNew (Same.refl _) ht) ?_
      rw [show ((0 : Int) + (i : Int)) = (i : Int) by omega]
      exact upd_same
    rw [filterAll] at hL3
    walk_at "go"
    refine sortedPairs hL3 fun pf o2 H7 pf1 pf2 s8 ho2 hL4 => ?_
    have F : Fall sizes pf := ⟨by simpa using pf1, pf2⟩
    have s9 : Same H H7 := ((((s4.trans s5).trans s6).trans s7).trans s8)
    have hL2' := hL2.mono (s7.trans s8)
    have sqB : SqL K H7 b (parcels.map V.int) := s9.seq hB
    walk_at "go"
    intro f hf
    refine lcMap (fun _ => true) (fun _ => V.int 0) hf sqB (by omega) (fun _ => rfl) (fun j n H' _ s' TT k' => ?_) (fun j n H' _ _ s' Qv k' => ?_) (fun H8 s10 hF => ?_)
    · exact k' _ (Same.refl _)
    · exact k' _ (Same.refl _)
    rw [filterAll] at hF
    have fn : H f = none := s9.free hf
    have hL5 := hL2'.mono s10
    have hL6 := hL4.mono s10
    obtain ⟨ys, hy, hyl⟩ := hL5.len
    have hpo := O.len
    have nfo : f ≠ o1 := by
      obtain ⟨ys1, hy1, _⟩ := hL2'.len
      exact fun e => by rw [e, hy1] at hf; cases hf
    have nfo2 : f ≠ o2 := by
      obtain ⟨ys1, hy1, _⟩ := hL4.len
      exact fun e => by rw [e, hy1] at hf; cases hf
    walk_at "go"
    refine forRange (n := ((ys.length : Nat) : Int).toNat) (fun i σ H' => Stop (∃ (v7 : Option V) (fs : List Int), σ = [some (.ref a), some (.ref b), some (.ref bl), v3, some (.ref o1), some (.ref o2), some (.ref f), v7, none, none] ∧ Same H H' ∧ PairL H' o1 po ∧ PairL H' o2 pf ∧ H' f = some (.lst (fs.map V.int)) ∧ Found po pf parcels.length i fs))
      ⟨none, List.replicate parcels.length 0, rfl, s9.trans s10, hL5, hL6, ?_, by simp, fun j hj => absurd hj (Nat.not_lt_zero _)⟩ ?_ ?_
    · rw [hF]
      congr 2
      rw [List.map_replicate]
      exact List.map_const' ..
    · rintro i σ H9 hi ⟨v7, fs, rfl, s11, q1, q2, q3, q4⟩
      have hi : i < po.length := by omega
      obtain ⟨i1, b1, hi1, hb1, hj2, e1, e2, e3⟩ := fall_fits O F okp hall hi
      obtain ⟨y1, t1, w1, w2, w3⟩ := q1.at_ (z := (0 : Int) + i) (by omega) (by omega)
      obtain ⟨y2, t2, x1, x2, x3⟩ := q2.at_ (z := (0 : Int) + i) (by omega) (by omega)
      have e : ((0 : Int) + (i : Int)).toNat = i := by omega
      rw [e] at w3 x3
      walk_at "go"
      refine ⟨ixN_of (by rw [e1]; omega) (by rw [e1, List.length_map, q4.1]; omega), ?_⟩
      rw [setInt]
      have keep : ∀ {o : Addr} {ps : List (Int × Int)}, PairL H9 o ps → o ≠ f → PairL (upd H9 f (.lst ((fs.set (po.getD i (0, 0)).2.toNat (pf.getD i (0, 0)).2).map V.int))) o ps := by
        intro o ps hP hne'
        obtain ⟨zs, z1, z2, z3⟩ := hP.ex
        have z := mapKeep (H' := upd H9 f (.lst ((fs.set (po.getD i (0, 0)).2.toNat (pf.getD i (0, 0)).2).map V.int))) z2 fun t i j et => by
          rw [upd_ne (ne_of et q3 (by intro q; cases q))]; exact et
        exact ⟨zs, by rw [upd_ne hne']; exact z1, z.1, by rw [z.2]; exact z3⟩
      exact ⟨_, _, rfl, sameMut s11 fn, keep q1 (Ne.symm nfo), keep q2 (Ne.symm nfo2), upd_same, found_set O hi q4⟩
    · rintro σ H9 ⟨v7, fs, rfl, s11, q1, q2, q3, q4⟩
      walk_at "go"
      intro p hp
      have npf : f ≠ p := ne_of_none q3 hp
      refine kB ok okp _ p f fs (sameNew s11 hp) (s11.free hp) fn upd_same (by rw [upd_ne npf]; exact q3) ?_ hall
      refine found_boxes O F okp hall ?_
      have e : ((ys.length : Nat) : Int).toNat = po.length := by omega
      rw [e] at q4
      exact q4
end Pw
theorem Pw.riseAll : ∀ {xs : List Int} {lo : Int} {m : Nat}, xs.Pairwise (· < ·) → (∀ x ∈ xs, lo ≤ x ∧ x < lo + m) → xs.length ≤ m ∧ (xs.length = m → ∀ i : Nat, i < xs.length → xs.getD i 0 = lo + i)
  | [], lo, m, _, _ => ⟨Nat.zero_le _, fun _ i h => by simp at h⟩
  | a :: r, lo, m, h, b => by
    obtain ⟨h1, h2⟩ := List.pairwise_cons.mp h
    obtain ⟨b1, b2⟩ := b a (by simp)
    have ih := Pw.riseAll (xs := r) (lo := a + 1) (m := (lo + m - (a + 1)).toNat) h2 fun x hx => by
      have := h1 x hx
      have := (b x (List.mem_cons_of_mem _ hx)).2
      omega
    rw [List.length_cons]
    refine ⟨by omega, fun e i hi => ?_⟩
    cases i with
    | zero => show a = _; omega
    | succ i =>
      have := ih.2 (by omega) i (by omega)
      show r.getD i 0 = _
      omega
theorem Pw.mostAll {sizes parcels pl : List Int} {t : Int} (M : Pw.MostOk sizes parcels pl t) (e : pl.length = parcels.length) (u : Int) : Pw.cntGe parcels u ≤ Pw.cntGe sizes u := by
  have r := (Pw.riseAll (lo := 0) (m := parcels.length) M.srt fun x hx => by have := M.rng x hx; omega).2 e
  have q : (pl.map fun x => parcels.getD x.toNat 0) = parcels := by
    refine List.ext_getElem (by rw [List.length_map, e]) fun i h1 h2 => ?_
    rw [List.length_map] at h1
    have z := r i h1
    rw [List.getD_eq_getElem?_getD, List.getElem?_eq_getElem h1] at z
    have z : pl[i] = 0 + (i : Int) := z
    have y : pl[i].toNat = i := by omega
    rw [List.getElem_map, y, List.getD_eq_getElem?_getD, List.getElem?_eq_getElem h2]
    rfl
  have := M.fits u
  rwa [q] at this
theorem Pw.mostFull {sizes parcels pl : List Int} {t : Int} (M : Pw.MostOk sizes parcels pl t) (okp : Pw.OkP parcels) (h : ∀ s, 1 ≤ s → s ≤ 9 → Pw.cntGe parcels s ≤ Pw.cntGe sizes s) : pl.length = parcels.length := by
  have l := (Pw.riseAll (lo := 0) (m := parcels.length) M.srt fun x hx => by have := M.rng x hx; omega).1
  have s := M.sum
  have b := Pw.cntBoth parcels t
  have t1 := M.t1
  unfold Pw.manyAt at s
  have g : Pw.cntGe parcels t ≤ Pw.cntGe sizes t := by
    by_cases c : t ≤ 9
    · exact h t t1.1 c
    · have z : Pw.cntGe parcels t = 0 := Pw.cntGe_zero fun y hy => by have := okp y hy; omega
      omega
  omega
namespace Pw
def sp_law_k06 (K : PySem.W.Frag) : Sp := fun vs H Q _ => ∃ (a : Addr) (ns : List Int), vs = [.ref a] ∧ SqL K H a (ns.map V.int) ∧ ns.length ≤ 63 ∧ ∀ H', Q (.bl true) H'
theorem len_law_k06 {K : PySem.W.Frag} : ∀ vs H Q E, sp_law_k06 K vs H Q E → vs.length = 1 := by
  rintro vs H Q E ⟨_, _, rfl, _⟩
  rfl
def t_law_k06 (K : PySem.W.Frag) (E : XK) : TS :=
  tSeq (tAsg (tCall (sp_law_sizes_by K) [] E0 (tCons (tVar 0) (tCons (tC (.int 0)) tNil))) (gName 1))
    (tSeq (tAsg (tOp (rIxL K) (tLst (tCons (tC (.int 0)) (tCons (tC (.int 0)) (tCons (tC (.int 4)) tNil)))) (tCall (sp_law_drawn K) [] E0 (tCons (tVar 0) (tCons (tC (.int 100)) (tCons (tC (.int 3)) tNil))))) (gName 2))
    (tSeq (tAsg (tOp (rIxL K) (tLst (tCons (tC (.int 9)) (tCons (tC (.int 4)) (tCons (tC (.int 5)) tNil)))) (tCall (sp_law_drawn K) [] E0 (tCons (tVar 0) (tCons (tC (.int 100)) (tCons (tC (.int 3)) tNil))))) (gName 3))
    (tSeq (tAsg (tLc (iRng1 (tCons (tCall (sp_law_drawn K) [] E0 (tCons (tVar 0) (tCons (tC (.int 101)) (tCons (tC (.int 13)) tNil)))) tNil)) (gName 8) tYes (tOp rAddI (tOp rAddI (tC (.int 1)) (tVar 2)) (tCall (sp_law_drawn K) [] E0 (tCons (tVar 0) (tCons (tOp rAddI (tC (.int 110)) (tVar 8)) (tCons (tVar 3) tNil))))) [8]) (gName 4))
    (tSeq (tAsg (tLst (tCons (tCB (rListOf K) (tCons (tVar 1) tNil)) (tCons (tCB (rListOf K) (tCons (tVar 4) tNil)) tNil))) (gName 5))
    (tSeq (tForP (iRng1 (tCons (tC (.int 2)) tNil)) (gName 6) (tSeq (tAsg (tCall (sp_most K) [] E0 (tCons (tOp (rIxL K) (tVar 5) (tC (.int 0))) (tCons (tOp (rIxL K) (tVar 5) (tC (.int 1))) tNil))) (gName 7))
    (tSeq (tIfS (tOr (tNot (tB (tCall (sp_law_right_k06 K) [] E0 (tCons (tVar 7) (tCons (tVar 1) (tCons (tVar 4) tNil)))))) (tTest (tOp (rNeDI K) (tVar 5) (tLst (tCons (tVar 1) (tCons (tVar 4) tNil)))))) (tRet (tC (.bl false))) (tNext))
    (tSeq (tIfS (tTest (tOp rNe (tOp rEq (tOp (rIxT K) (tVar 7) (tC (.int 0))) (tCB (rLenSeq K) (tCons (tVar 4) tNil))) (tOp rEq (tOp (rIxT K) (tCall (sp_fit K) [] E0 (tCons (tOp (rIxL K) (tVar 5) (tC (.int 0))) (tCons (tOp (rIxL K) (tVar 5) (tC (.int 1))) tNil))) (tC (.int 0))) (tC (.str "boxes"))))) (tRet (tC (.bl false))) (tNext))
    (tDrop (tBM K "list" rAppend (tOp (rIxT K) (tVar 7) (tC (.int 1))) (tCons (tC (.int 9)) tNil)))))))
    (tRet (tOp (rEqDI K) (tVar 5) (tLst (tCons (tVar 1) (tCons (tVar 4) tNil))))))))))
theorem pure_law_k06 {K : PySem.W.Frag} (vs : List V) (H : Hp) (Q : VK) (E : XK) (h : sp_law_k06 K vs H Q E) : t_law_k06 K E { nx := fun _ H' => Q .non H', rt := Q } (start ["script", "sizes", "low", "top", "parcels", "handed", "lap", "found", "k"] vs) H := by
  obtain ⟨a, ns, rfl, hS, hl, k⟩ := h
  unfold t_law_k06
  walk_at "go"
  intro sizes ok H1 b s1 hb hB
  have lz := ok.2.1
  walk_at "go"
  intro x1 hx1
  have sx : Same H1 (upd H1 x1 (.lst [.int 0, .int 0, .int 4])) := sameNew (Same.refl _) hx1
  have hx : upd H1 x1 (.lst [.int 0, .int 0, .int 4]) x1 = some (.lst [.int 0, .int 0, .int 4]) := upd_same
  generalize upd H1 x1 (.lst [.int 0, .int 0, .int 4]) = H2 at sx hx
  have s2 := s1.trans sx
  walk_at "go"
  intro e0 e1
  walk_at "go"
  refine ⟨atInt (xs := [0, 0, 4]) e0 e1, ?_⟩
  walk_at "go"
  intro x2 hx2
  have sy : Same H2 (upd H2 x2 (.lst [.int 9, .int 4, .int 5])) := sameNew (Same.refl _) hx2
  have hy : upd H2 x2 (.lst [.int 9, .int 4, .int 5]) x2 = some (.lst [.int 9, .int 4, .int 5]) := upd_same
  generalize upd H2 x2 (.lst [.int 9, .int 4, .int 5]) = H3 at sy hy
  have s3 := s2.trans sy
  walk_at "go"
  intro f0 f1
  walk_at "go"
  refine ⟨atInt (xs := [9, 4, 5]) e0 e1, ?_⟩
  have hlt : 0 ≤ ([0, 0, 4] : List Int).getD (drawn ns 100 3).toNat 0 ∧ 1 ≤ ([9, 4, 5] : List Int).getD (drawn ns 100 3).toNat 0 ∧ ([0, 0, 4] : List Int).getD (drawn ns 100 3).toNat 0 + ([9, 4, 5] : List Int).getD (drawn ns 100 3).toNat 0 ≤ 9 := by
    have q : (drawn ns 100 3).toNat = 0 ∨ (drawn ns 100 3).toNat = 1 ∨ (drawn ns 100 3).toNat = 2 := by omega
    rcases q with q | q | q <;> rw [q] <;> decide
  generalize ([0, 0, 4] : List Int).getD (drawn ns 100 3).toNat 0 = low at hlt ⊢
  generalize ([9, 4, 5] : List Int).getD (drawn ns 100 3).toNat 0 = top at hlt ⊢
  obtain ⟨h1, h2, h3⟩ := hlt
  have hB3 := (sx.trans sy) _ _ hB
  have hS3 := s3.seq hS
  clear hx hy s1 s2 sx sy hx1 hx2 hB hS
  walk_at "go"
  intro m0 m1
  walk_at "go"
  intro D hD
  refine lcRng (n := (drawn ns 101 13).toNat) (fun _ => true) (fun i : Nat => V.int (1 + low + drawn ns (110 + (0 + (i : Int))) top)) hD (by omega) (fun _ => rfl) (fun i H' hi s' TT k' => ?_) (fun i H' hi _ s' Qv k' => ?_) (fun H4 s4 hD4 => ?_)
  · exact k' _ (Same.refl _)
  · walk_at "go"
    intro d2 d3
    walk_at "go"
    exact k' _ (Same.refl _)
  rw [filterAll] at hD4
  obtain ⟨parcels, okp, lp, hC⟩ : ∃ parcels : List Int, OkP parcels ∧ parcels.length ≤ 12 ∧ H4 D = some (.lst (parcels.map V.int)) := by
    refine ⟨(List.range (drawn ns 101 13).toNat).map fun i : Nat => 1 + low + drawn ns (110 + (0 + (i : Int))) top, ?_, by simp; omega, ?_⟩
    · intro x hx
      obtain ⟨i, _, rfl⟩ := List.mem_map.mp hx
      have := drawn_in ns (110 + (0 + (i : Int))) (many := top) (by omega)
      omega
    · rw [hD4, List.map_map]; rfl
  have hB4 := s4 _ _ hB3
  have hC4 := SqL.of (K := K) hC
  clear hD4 hS3 hB3 hD s3 s4
  walk_at "go"
  intro p hp
  walk_at "go"
  intro q hq
  walk_at "go"
  intro l hl
  have hB5 := SqL.of (K := K) (show upd (upd (upd H4 p (.lst (sizes.map V.int))) q (.lst (parcels.map V.int))) l (.lst [.ref p, .ref q]) b = some (.lst (sizes.map V.int)) by walk_at "heap")
  have hC5 := SqL.of (K := K) (show upd (upd (upd H4 p (.lst (sizes.map V.int))) q (.lst (parcels.map V.int))) l (.lst [.ref p, .ref q]) D = some (.lst (parcels.map V.int)) by walk_at "heap")
  have hp5 := SqL.of (K := K) (show upd (upd (upd H4 p (.lst (sizes.map V.int))) q (.lst (parcels.map V.int))) l (.lst [.ref p, .ref q]) p = some (.lst (sizes.map V.int)) by walk_at "heap")
  have hq5 := SqL.of (K := K) (show upd (upd (upd H4 p (.lst (sizes.map V.int))) q (.lst (parcels.map V.int))) l (.lst [.ref p, .ref q]) q = some (.lst (parcels.map V.int)) by walk_at "heap")
  have hl5 := SqL.of (K := K) (show upd (upd (upd H4 p (.lst (sizes.map V.int))) q (.lst (parcels.map V.int))) l (.lst [.ref p, .ref q]) l = some (.lst [.ref p, .ref q]) from upd_same)
  dsimp only
  generalize upd (upd (upd H4 p (.lst (sizes.map V.int))) q (.lst (parcels.map V.int))) l (.lst [.ref p, .ref q]) = H5 at hB5 hC5 hp5 hq5 hl5 ⊢
  clear hp hq hl hC hB4 hC4
  walk_at "go"
  refine forRange (n := (2 : Int).toNat) (fun i σ H' => Stop (∃ v6 v7 : Option V, σ = [some (.ref a), some (.ref b), some (.int low), some (.int top), some (.ref D), some (.ref l), v6, v7, none] ∧ Same H5 H')) ⟨none, none, rfl, Same.refl _⟩ ?_ ?_
  · rintro i σ H6 hi ⟨v6, v7, rfl, s6⟩
    have hB6 := s6.seq hB5
    have hC6 := s6.seq hC5
    have hp6 := s6.seq hp5
    have hq6 := s6.seq hq5
    have hl6 := s6.seq hl5
    walk_at "go"
    refine ⟨fun _ _ pl t f g H7 M s7 fg hg hf => ?_, fun nok => absurd ok nok, fun _ nok => absurd okp nok⟩
    have pll := (riseAll (lo := 0) (m := parcels.length) M.srt fun x hx => by have := M.rng x hx; omega).1
    have hB7 := s7.seq hB6
    have hC7 := s7.seq hC6
    have hp7 := s7.seq hp6
    have hq7 := s7.seq hq6
    have hl7 := s7.seq hl6
    have g5 := s6.free fg
    have s57 := s6.trans s7
    clear hB6 hC6 hp6 hq6 hl6 s6 s7 fg
    walk_at "go"
    intro H8 s8
    have hB8 := s8.seq hB7
    have hC8 := s8.seq hC7
    have hp8 := s8.seq hp7
    have hq8 := s8.seq hq7
    have hl8 := s8.seq hl7
    have hf8 := s8 _ _ hf
    have hg8 := s8 _ _ hg
    have s58 := s57.trans s8
    clear hB7 hC7 hp7 hq7 hl7 hf hg s57 s8
    walk_at "go"
    intro m hm
    have s9 : Same H8 (upd H8 m (.lst [.ref b, .ref D])) := sameNew (Same.refl _) hm
    refine neTwo (s9.seq hl8) (s9.seq hp8) (s9.seq hq8) (SqL.of upd_same) (s9.seq hB8) (s9.seq hC8) ?_
    have hB9 := s9.seq hB8
    have hC9 := s9.seq hC8
    have hp9 := s9.seq hp8
    have hq9 := s9.seq hq8
    have hl9 := s9.seq hl8
    have hf9 := SqT.of (K := K) (s9 _ _ hf8)
    have hg9 := s9 _ _ hg8
    have hfo := s9 _ _ hf8
    have s59 := s58.trans s9
    generalize upd H8 m (.lst [.ref b, .ref D]) = H9 at *
    clear hB8 hC8 hp8 hq8 hl8 hf8 hg8 s58 s9
    walk_at "go"
    refine ⟨fun _ _ HA z u sz zn hz mm => ?_, fun _ _ HA z w fs sz zn wn hz hw bx fl => ?_, fun nok => absurd ok nok, fun _ nok => absurd okp nok⟩
    · have ne : pl.length ≠ parcels.length := fun e => by
        have := mostAll M e u
        have := mm.2.2
        omega
      have hzT := SqT.of (K := K) hz
      have hgA := sz _ _ hg9
      have hfA := SqT.of (K := K) (sz _ _ hfo)
      walk_at "go"
      have c1 : decide (V.int ((pl.length : Nat) : Int) = V.int (((parcels.map V.int).length : Nat) : Int)) = false := decide_eq_false (intNe (by rw [List.length_map]; omega))
      have c2 : decide (V.str "many" = V.str "boxes") = false := decide_eq_false (strNe (by decide +kernel))
      refine ifNF (by rw [c1, c2]) ?_
      walk_at "go"
      exact ⟨_, _, rfl, sameMut (s59.trans sz) g5⟩
    · have eq := mostFull M okp fl
      have hzT := SqT.of (K := K) hz
      have hgA := sz _ _ hg9
      have hfA := SqT.of (K := K) (sz _ _ hfo)
      walk_at "go"
      have c1 : decide (V.int ((pl.length : Nat) : Int) = V.int (((parcels.map V.int).length : Nat) : Int)) = true := decide_eq_true (by rw [List.length_map, eq])
      have c2 : decide (V.str "boxes" = V.str "boxes") = true := decide_eq_true rfl
      refine ifNF (by rw [c1, c2]) ?_
      walk_at "go"
      exact ⟨_, _, rfl, sameMut (s59.trans sz) g5⟩
  · rintro σ H6 ⟨v6, v7, rfl, s6⟩
    have hB6 := s6.seq hB5
    have hC6 := s6.seq hC5
    have hp6 := s6.seq hp5
    have hq6 := s6.seq hq5
    have hl6 := s6.seq hl5
    walk_at "go"
    intro m hm
    have s9 : Same H6 (upd H6 m (.lst [.ref b, .ref D])) := sameNew (Same.refl _) hm
    exact eqTwo (s9.seq hl6) (s9.seq hp6) (s9.seq hq6) (SqL.of upd_same) (s9.seq hB6) (s9.seq hC6) (k _)
end Pw
namespace Pw
def top (i : Nat) : Stmt := PySem.Challenge.pw_parcelwall_k06_whole_as_many_as_can_be.main.body.getD i (.Pass ⟨0, 0, 0, 0⟩)
abbrev R : PySem.W.OpenRow := PySem.W.OpenLaw.row PySem.Challenge.rw_parcelwall_k06_whole_as_many_as_can_be
abbrev s_law_drawn : Stmt := (top 18)
def d_law_drawn : He.DefD := ⟨("_law_drawn", none), "_law_drawn", "_law_drawn", defArgs s_law_drawn, defBody s_law_drawn, defScope s_law_drawn, [], []⟩
abbrev s_law_sizes_by : Stmt := (top 22)
def d_law_sizes_by : He.DefD := ⟨("_law_sizes_by", none), "_law_sizes_by", "_law_sizes_by", defArgs s_law_sizes_by, defBody s_law_sizes_by, defScope s_law_sizes_by, [], []⟩
abbrev s_Wall_sizes : Stmt := (inClass (top 11) 1)
def d_Wall_sizes : He.DefD := ⟨("Wall", some "sizes"), "sizes", "Wall.sizes", defArgs s_Wall_sizes, defBody s_Wall_sizes, defScope s_Wall_sizes, [], []⟩
abbrev s_is_size : Stmt := (top 9)
def d_is_size : He.DefD := ⟨("is_size", none), "is_size", "is_size", defArgs s_is_size, defBody s_is_size, defScope s_is_size, [], []⟩
abbrev s_see_parcels : Stmt := (top 13)
def d_see_parcels : He.DefD := ⟨("see_parcels", none), "see_parcels", "see_parcels", defArgs s_see_parcels, defBody s_see_parcels, defScope s_see_parcels, [], []⟩
abbrev s_least_box : Stmt := (top 10)
def d_least_box : He.DefD := ⟨("least_box", none), "least_box", "least_box", defArgs s_least_box, defBody s_least_box, defScope s_least_box, [], []⟩
abbrev s_Wall_init : Stmt := (inClass (top 11) 0)
def d_Wall_init : He.DefD := ⟨("Wall", some "__init__"), "__init__", "Wall.__init__", defArgs s_Wall_init, defBody s_Wall_init, defScope s_Wall_init, [], []⟩
abbrev s_tight : Stmt := (top 14)
def d_tight : He.DefD := ⟨("tight", none), "tight", "tight", defArgs s_tight, defBody s_tight, defScope s_tight, [], []⟩
abbrev s_most : Stmt := (top 15)
def d_most : He.DefD := ⟨("most", none), "most", "most", defArgs s_most, defBody s_most, defScope s_most, [], []⟩
abbrev s_law_whole : Stmt := (top 19)
def d_law_whole : He.DefD := ⟨("_law_whole", none), "_law_whole", "_law_whole", defArgs s_law_whole, defBody s_law_whole, defScope s_law_whole, [], []⟩
abbrev s_law_row : Stmt := (top 20)
def d_law_row : He.DefD := ⟨("_law_row", none), "_law_row", "_law_row", defArgs s_law_row, defBody s_law_row, defScope s_law_row, [], []⟩
abbrev s_law_fits : Stmt := (top 23)
def d_law_fits : He.DefD := ⟨("_law_fits", none), "_law_fits", "_law_fits", defArgs s_law_fits, defBody s_law_fits, defScope s_law_fits, [], []⟩
abbrev s_law_right_k06 : Stmt := (top 24)
def d_law_right_k06 : He.DefD := ⟨("_law_right", none), "_law_right", "_law_right", defArgs s_law_right_k06, defBody s_law_right_k06, defScope s_law_right_k06, [], []⟩
abbrev s_fit : Stmt := (top 16)
def d_fit : He.DefD := ⟨("fit", none), "fit", "fit", defArgs s_fit, defBody s_fit, defScope s_fit, [], []⟩
abbrev s_law_k06 : Stmt := (top 25)
def d_law_k06 : He.DefD := ⟨("law", none), "law", "law", defArgs s_law_k06, defBody s_law_k06, defScope s_law_k06, [], []⟩
def fn : List He.DefD := [d_law_drawn, d_law_sizes_by, d_Wall_sizes, d_is_size, d_see_parcels, d_least_box, d_Wall_init, d_tight, d_most, d_law_whole, d_law_row, d_law_fits, d_law_right_k06, d_fit, d_law_k06]
def xl : List Str := ["WallError", "NoWall", "NoSize", "NoParcel"]
def fa : List He.Fa := [.free "bool", .free "int", .free "isinstance", .free "len", .free "list", .free "range", .free "set", .free "sorted", .free "tuple", .glo "NoSize", .glo "NoWall", .glo "Wall", .glo "_law_drawn", .glo "_law_fits", .glo "_law_right", .glo "_law_row", .glo "_law_sizes_by", .glo "_law_whole", .glo "fit", .glo "is_size", .glo "law", .glo "least_box", .glo "most", .glo "see_parcels", .glo "tight", .int "MOST_BOXES" 8, .int "MOST_SIZE" 9, .exc "NoSize", .exc "NoWall", .cls "Wall", .noat "Wall" "boxes", .noat "Wall" "inside", .noat "Wall" "parcels", .noat "Wall" "today", .mkr "Wall", .meth "Wall" "sizes"]
theorem f_bool {h : Heap} {mg : Str → Option Value} {K : PySem.W.Frag} (KX : K.In h) (G : h.Ns mainGlobals mg) (c : He.SaysD fa fn K) : mg "bool" = none := He.free_ok KX G (c.fact 0)
theorem f_int {h : Heap} {mg : Str → Option Value} {K : PySem.W.Frag} (KX : K.In h) (G : h.Ns mainGlobals mg) (c : He.SaysD fa fn K) : mg "int" = none := He.free_ok KX G (c.fact 1)
theorem f_isinstance {h : Heap} {mg : Str → Option Value} {K : PySem.W.Frag} (KX : K.In h) (G : h.Ns mainGlobals mg) (c : He.SaysD fa fn K) : mg "isinstance" = none := He.free_ok KX G (c.fact 2)
theorem f_len {h : Heap} {mg : Str → Option Value} {K : PySem.W.Frag} (KX : K.In h) (G : h.Ns mainGlobals mg) (c : He.SaysD fa fn K) : mg "len" = none := He.free_ok KX G (c.fact 3)
theorem f_list {h : Heap} {mg : Str → Option Value} {K : PySem.W.Frag} (KX : K.In h) (G : h.Ns mainGlobals mg) (c : He.SaysD fa fn K) : mg "list" = none := He.free_ok KX G (c.fact 4)
theorem f_range {h : Heap} {mg : Str → Option Value} {K : PySem.W.Frag} (KX : K.In h) (G : h.Ns mainGlobals mg) (c : He.SaysD fa fn K) : mg "range" = none := He.free_ok KX G (c.fact 5)
theorem f_set {h : Heap} {mg : Str → Option Value} {K : PySem.W.Frag} (KX : K.In h) (G : h.Ns mainGlobals mg) (c : He.SaysD fa fn K) : mg "set" = none := He.free_ok KX G (c.fact 6)
theorem f_sorted {h : Heap} {mg : Str → Option Value} {K : PySem.W.Frag} (KX : K.In h) (G : h.Ns mainGlobals mg) (c : He.SaysD fa fn K) : mg "sorted" = none := He.free_ok KX G (c.fact 7)
theorem f_tuple {h : Heap} {mg : Str → Option Value} {K : PySem.W.Frag} (KX : K.In h) (G : h.Ns mainGlobals mg) (c : He.SaysD fa fn K) : mg "tuple" = none := He.free_ok KX G (c.fact 8)
theorem g_NoSize {h : Heap} {mg : Str → Option Value} {K : PySem.W.Frag} (KX : K.In h) (G : h.Ns mainGlobals mg) (c : He.SaysD fa fn K) : mg "NoSize" = some (.ref (He.ga K "NoSize")) := He.glo_ok KX G (c.fact 9)
theorem g_NoWall {h : Heap} {mg : Str → Option Value} {K : PySem.W.Frag} (KX : K.In h) (G : h.Ns mainGlobals mg) (c : He.SaysD fa fn K) : mg "NoWall" = some (.ref (He.ga K "NoWall")) := He.glo_ok KX G (c.fact 10)
theorem g_Wall {h : Heap} {mg : Str → Option Value} {K : PySem.W.Frag} (KX : K.In h) (G : h.Ns mainGlobals mg) (c : He.SaysD fa fn K) : mg "Wall" = some (.ref (He.ga K "Wall")) := He.glo_ok KX G (c.fact 11)
theorem g_law_drawn {h : Heap} {mg : Str → Option Value} {K : PySem.W.Frag} (KX : K.In h) (G : h.Ns mainGlobals mg) (c : He.SaysD fa fn K) : mg "_law_drawn" = some (.ref (He.ga K "_law_drawn")) := He.glo_ok KX G (c.fact 12)
theorem g_law_fits {h : Heap} {mg : Str → Option Value} {K : PySem.W.Frag} (KX : K.In h) (G : h.Ns mainGlobals mg) (c : He.SaysD fa fn K) : mg "_law_fits" = some (.ref (He.ga K "_law_fits")) := He.glo_ok KX G (c.fact 13)
theorem g_law_right {h : Heap} {mg : Str → Option Value} {K : PySem.W.Frag} (KX : K.In h) (G : h.Ns mainGlobals mg) (c : He.SaysD fa fn K) : mg "_law_right" = some (.ref (He.ga K "_law_right")) := He.glo_ok KX G (c.fact 14)
theorem g_law_row {h : Heap} {mg : Str → Option Value} {K : PySem.W.Frag} (KX : K.In h) (G : h.Ns mainGlobals mg) (c : He.SaysD fa fn K) : mg "_law_row" = some (.ref (He.ga K "_law_row")) := He.glo_ok KX G (c.fact 15)
theorem g_law_sizes_by {h : Heap} {mg : Str → Option Value} {K : PySem.W.Frag} (KX : K.In h) (G : h.Ns mainGlobals mg) (c : He.SaysD fa fn K) : mg "_law_sizes_by" = some (.ref (He.ga K "_law_sizes_by")) := He.glo_ok KX G (c.fact 16)
theorem g_law_whole {h : Heap} {mg : Str → Option Value} {K : PySem.W.Frag} (KX : K.In h) (G : h.Ns mainGlobals mg) (c : He.SaysD fa fn K) : mg "_law_whole" = some (.ref (He.ga K "_law_whole")) := He.glo_ok KX G (c.fact 17)
theorem g_fit {h : Heap} {mg : Str → Option Value} {K : PySem.W.Frag} (KX : K.In h) (G : h.Ns mainGlobals mg) (c : He.SaysD fa fn K) : mg "fit" = some (.ref (He.ga K "fit")) := He.glo_ok KX G (c.fact 18)
theorem g_is_size {h : Heap} {mg : Str → Option Value} {K : PySem.W.Frag} (KX : K.In h) (G : h.Ns mainGlobals mg) (c : He.SaysD fa fn K) : mg "is_size" = some (.ref (He.ga K "is_size")) := He.glo_ok KX G (c.fact 19)
theorem g_law {h : Heap} {mg : Str → Option Value} {K : PySem.W.Frag} (KX : K.In h) (G : h.Ns mainGlobals mg) (c : He.SaysD fa fn K) : mg "law" = some (.ref (He.ga K "law")) := He.glo_ok KX G (c.fact 20)
theorem g_least_box {h : Heap} {mg : Str → Option Value} {K : PySem.W.Frag} (KX : K.In h) (G : h.Ns mainGlobals mg) (c : He.SaysD fa fn K) : mg "least_box" = some (.ref (He.ga K "least_box")) := He.glo_ok KX G (c.fact 21)
theorem g_most {h : Heap} {mg : Str → Option Value} {K : PySem.W.Frag} (KX : K.In h) (G : h.Ns mainGlobals mg) (c : He.SaysD fa fn K) : mg "most" = some (.ref (He.ga K "most")) := He.glo_ok KX G (c.fact 22)
theorem g_see_parcels {h : Heap} {mg : Str → Option Value} {K : PySem.W.Frag} (KX : K.In h) (G : h.Ns mainGlobals mg) (c : He.SaysD fa fn K) : mg "see_parcels" = some (.ref (He.ga K "see_parcels")) := He.glo_ok KX G (c.fact 23)
theorem g_tight {h : Heap} {mg : Str → Option Value} {K : PySem.W.Frag} (KX : K.In h) (G : h.Ns mainGlobals mg) (c : He.SaysD fa fn K) : mg "tight" = some (.ref (He.ga K "tight")) := He.glo_ok KX G (c.fact 24)
theorem c_MOST_BOXES {h : Heap} {mg : Str → Option Value} {K : PySem.W.Frag} (KX : K.In h) (G : h.Ns mainGlobals mg) (c : He.SaysD fa fn K) : ∃ t, mg "MOST_BOXES" = some (.int 8 t) := He.int_ok KX G (c.fact 25)
theorem c_MOST_SIZE {h : Heap} {mg : Str → Option Value} {K : PySem.W.Frag} (KX : K.In h) (G : h.Ns mainGlobals mg) (c : He.SaysD fa fn K) : ∃ t, mg "MOST_SIZE" = some (.int 9 t) := He.int_ok KX G (c.fact 26)
theorem x_NoSize {K : PySem.W.Frag} (c : He.SaysD fa fn K) : PySem.W.excIn K (He.ga K "NoSize") He.veBase "ValueError.__new__" = true ∧ PySem.W.keepIn K (.ref (He.ga K "NoSize")) = true ∧ PySem.W.subIn K (.ref (He.ga K "NoSize")) (.type "BaseException") = some true ∧ PySem.W.typeIn K (.ref (He.ga K "NoSize")) = some (.type "type") := He.exc_ok (c.fact 27)
theorem x_NoWall {K : PySem.W.Frag} (c : He.SaysD fa fn K) : PySem.W.excIn K (He.ga K "NoWall") He.veBase "ValueError.__new__" = true ∧ PySem.W.keepIn K (.ref (He.ga K "NoWall")) = true ∧ PySem.W.subIn K (.ref (He.ga K "NoWall")) (.type "BaseException") = some true ∧ PySem.W.typeIn K (.ref (He.ga K "NoWall")) = some (.type "type") := He.exc_ok (c.fact 28)
theorem clW {K : PySem.W.Frag} (c : He.SaysD fa fn K) : Cls K (He.ga K "Wall") := He.cls_ok (c.fact 29)
theorem tW {K : PySem.W.Frag} (c : He.SaysD fa fn K) : TW K := ⟨clW c, He.noat_ok (c.fact 30), He.noat_ok (c.fact 31), He.noat_ok (c.fact 32), He.noat_ok (c.fact 33)⟩
theorem mkW {K : PySem.W.Frag} (c : He.SaysD fa fn K) : Mk K (He.ga K "Wall") (He.ma K (He.ga K "Wall") "__init__") := He.mkr_ok (c.fact 34)
theorem m_Wall_sizes {K : PySem.W.Frag} (c : He.SaysD fa fn K) : Meth K (He.ga K "Wall") "sizes" (He.ma K (He.ga K "Wall") "sizes") := He.meth_ok (c.fact 35)
theorem sc_law_drawn : FnScope ["script", "k", "many", "cell", "stir"] ["script", "k", "many"] (defScope s_law_drawn) := ⟨rfl, rfl, rfl, by decide +kernel, rfl, by decide +kernel, by decide +kernel⟩
theorem ok_law_drawn {P : Program} {w : World} {base : Heap} {h : Heap} {mg : Str → Option Value} {K : PySem.W.Frag} (KX : K.In h) (G : h.Ns mainGlobals mg) (c : He.SaysD fa fn K) (xs : XS K xl) : OkF P w K mg base CX0 1 (He.fAd K d_law_drawn.at_) ["script", "k", "many"] (sp_law_drawn K) := by
  obtain ⟨fd, F⟩ := c.def_ 0 (d := d_law_drawn) rfl
  have nd := sc_law_drawn.nd
  refine ⟨fd, F.ok sc_law_drawn (len_law_drawn (K := K)) (fun cdv A outer s H vs Q E hr hsp => ⟨t_law_drawn K E, PSs.nox ?_, pure_law_drawn vs H Q E hsp⟩), F.bindsN (fun _ _ _ _ _ _ us hl => match us, hl with | [_, _, _], _ => rfl), F.kp⟩
  exact pss_cons (ps_set (i := 3) nd rfl (Or.inl rfl) (pe_int))
      (pss_cons (ps_if (pt_cmpR op_gt (pe_callB call_len_seq (by rfl) (f_len KX G c) (by decide +kernel) (pa_cons (pv 0) pa_nil)) (pe_int) (nomark _))
        (pss_one (ps_set (i := 3) nd rfl (Or.inl rfl) (pe_ix ix_list (pv 0) (pe_op op_modN (pv 1) (pe_callB call_len_seq (by rfl) (f_len KX G c) (by decide +kernel) (pa_cons (pv 0) pa_nil))) (fun _ _ => rfl))))
        (pss_nil))
      (pss_cons (ps_set (i := 4) nd rfl (Or.inl rfl) (pe_op op_mod (pe_op op_add (pe_op op_add (pe_op op_mul (pv 3) (pe_int)) (pe_op op_mul (pe_op op_add (pv 1) (pe_int)) (pe_int))) (pe_callB call_len_seq (by rfl) (f_len KX G c) (by decide +kernel) (pa_cons (pv 0) pa_nil))) (pe_int)))
      (pss_cons (ps_set (i := 4) nd rfl (Or.inl rfl) (pe_op op_mod (pe_op op_add (pe_op op_add (pe_op op_mul (pv 4) (pv 4)) (pe_op op_mul (pv 1) (pe_int))) (pe_int)) (pe_int)))
      (pss_one (ps_ret (pe_op op_modN (pe_op op_fdiv (pe_op op_mod (pe_op op_mul (pv 4) (pe_int)) (pe_int)) (pe_int)) (pv 2)))))))
theorem sc_law_sizes_by : FnScope ["script", "base", "many", "top", "k"] ["script", "base"] (defScope s_law_sizes_by) := ⟨rfl, rfl, rfl, by decide +kernel, rfl, by decide +kernel, by decide +kernel⟩
theorem ok_law_sizes_by {P : Program} {w : World} {base : Heap} {h : Heap} {mg : Str → Option Value} {K : PySem.W.Frag} (KX : K.In h) (G : h.Ns mainGlobals mg) (c : He.SaysD fa fn K) (xs : XS K xl) : OkF P w K mg base CX0 2 (He.fAd K d_law_sizes_by.at_) ["script", "base"] (sp_law_sizes_by K) := by
  obtain ⟨fd, F⟩ := c.def_ 1 (d := d_law_sizes_by) rfl
  obtain ⟨fd_law_drawn, G_law_drawn, b_law_drawn, k_law_drawn⟩ := ok_law_drawn (P := P) (w := w) (base := base) KX G c xs
  have nd := sc_law_sizes_by.nd
  refine ⟨fd, F.ok sc_law_sizes_by (len_law_sizes_by (K := K)) (fun cdv A outer s H vs Q E hr hsp => ⟨t_law_sizes_by K E, PSs.nox ?_, pure_law_sizes_by vs H Q E hsp⟩), F.bindsN (fun _ _ _ _ _ _ us hl => match us, hl with | [_, _], _ => rfl), F.kp⟩
  exact pss_cons (ps_set (i := 2) nd rfl (Or.inl rfl) (pe_op op_add (pe_int) (pe_call G_law_drawn (hr.mono (by decide : 1 ≤ 1)) rfl (g_law_drawn KX G c) k_law_drawn b_law_drawn .nil pass0 (pa_cons (pv 0) (pa_cons (pv 1) (pa_cons (pe_int) pa_nil))))))
      (pss_cons (ps_set (i := 3) nd rfl (Or.inr rfl) (pe_ix ix_list (pe_lst (pa_cons (pe_int) (pa_cons (pe_int) (pa_cons (pe_int) pa_nil)))) (pe_call G_law_drawn (hr.mono (by decide : 1 ≤ 1)) rfl (g_law_drawn KX G c) k_law_drawn b_law_drawn .nil pass0 (pa_cons (pv 0) (pa_cons (pe_op op_add (pv 1) (pe_int)) (pa_cons (pe_int) pa_nil)))) (fun _ _ => rfl)))
      (pss_one (ps_ret (pe_lc (own := [("k", 4)]) (g := gName 4) rfl nd (pi_range1 rfl (f_range KX G c) (pa_cons (pv 2) pa_nil)) (blkOk_by (N := ["script", "base", "many", "top", "k"]) (sc := defScope s_law_sizes_by) (by decide +kernel)) (fun _ _ _ _ _ => pg_name (i := 4) nd rfl (Or.inl rfl)) (fun _ _ _ _ _ => pts_nil) (fun _ _ _ _ _ => pe_op op_add (pe_int) (pe_call G_law_drawn (hr.mono (by decide : 1 ≤ 1)) rfl (g_law_drawn KX G c) k_law_drawn b_law_drawn .nil pass0 (pa_cons (pv 0) (pa_cons (pe_op op_add (pe_op op_add (pv 1) (pe_int)) (pv 4)) (pa_cons (pv 3) pa_nil)))))))))
theorem sc_Wall_sizes : FnScope ["self"] ["self"] (defScope s_Wall_sizes) := ⟨rfl, rfl, rfl, by decide +kernel, rfl, by decide +kernel, by decide +kernel⟩
theorem ok_Wall_sizes {P : Program} {w : World} {base : Heap} {h : Heap} {mg : Str → Option Value} {K : PySem.W.Frag} (KX : K.In h) (G : h.Ns mainGlobals mg) (c : He.SaysD fa fn K) (xs : XS K xl) : OkF P w K mg base CX0 1 (He.fAd K d_Wall_sizes.at_) ["self"] (sp_Wall_sizes K) := by
  obtain ⟨fd, F⟩ := c.def_ 2 (d := d_Wall_sizes) rfl
  have nd := sc_Wall_sizes.nd
  refine ⟨fd, F.ok sc_Wall_sizes (len_Wall_sizes (K := K)) (fun cdv A outer s H vs Q E hr hsp => ⟨t_Wall_sizes K E, PSs.nox ?_, pure_Wall_sizes (tW c) vs H Q E hsp⟩), F.bindsN (fun _ _ _ _ _ _ us hl => match us, hl with | [_], _ => rfl), F.kp⟩
  exact pss_one (ps_ret (pe_callTy call_list_of (by rfl) (f_list KX G c) (by decide +kernel) (pa_cons (pe_fld (pv 0) rfl) pa_nil)))
theorem sc_is_size : FnScope ["number"] ["number"] (defScope s_is_size) := ⟨rfl, rfl, rfl, by decide +kernel, rfl, by decide +kernel, by decide +kernel⟩
theorem ok_is_size {P : Program} {w : World} {base : Heap} {h : Heap} {mg : Str → Option Value} {K : PySem.W.Frag} (KX : K.In h) (G : h.Ns mainGlobals mg) (c : He.SaysD fa fn K) (xs : XS K xl) : OkF P w K mg base CX0 1 (He.fAd K d_is_size.at_) ["number"] (sp_is_size K) := by
  obtain ⟨fd, F⟩ := c.def_ 3 (d := d_is_size) rfl
  have nd := sc_is_size.nd
  refine ⟨fd, F.ok sc_is_size (len_is_size (K := K)) (fun cdv A outer s H vs Q E hr hsp => ⟨t_is_size K E, PSs.nox ?_, pure_is_size vs H Q E hsp⟩), F.bindsN (fun _ _ _ _ _ _ us hl => match us, hl with | [_], _ => rfl), F.kp⟩
  exact pss_one (ps_ret (pe_and (pe_cmpR op_le (pe_int) (pv 0) (nomark _)) (pe_one (pe_cmpR op_le (pv 0) (pe_glob rfl (c_MOST_SIZE KX G c).choose_spec ⟨_, rfl⟩) (nomark _)))))
theorem sc_see_parcels : FnScope ["parcels", "size"] ["parcels"] (defScope s_see_parcels) := ⟨rfl, rfl, rfl, by decide +kernel, rfl, by decide +kernel, by decide +kernel⟩
theorem ok_see_parcels {P : Program} {w : World} {base : Heap} {h : Heap} {mg : Str → Option Value} {K : PySem.W.Frag} (KX : K.In h) (G : h.Ns mainGlobals mg) (c : He.SaysD fa fn K) (xs : XS K xl) : OkF P w K mg base (L2.CX P w) 2 (He.fAd K d_see_parcels.at_) ["parcels"] (sp_see_parcels K) := by
  obtain ⟨fd, F⟩ := c.def_ 4 (d := d_see_parcels) rfl
  obtain ⟨fd_is_size, G_is_size, b_is_size, k_is_size⟩ := ok_is_size (P := P) (w := w) (base := base) KX G c xs
  have nd := sc_see_parcels.nd
  refine ⟨fd, F.ok sc_see_parcels (len_see_parcels (K := K)) (fun cdv A outer s H vs Q E hr hsp => ⟨t_see_parcels K E, id ?_, pure_see_parcels vs H Q E hsp⟩), F.bindsN (fun _ _ _ _ _ _ us hl => match us, hl with | [_], _ => rfl), F.kp⟩
  exact pss_one (ps_forP (passes_of rfl) rfl (pi_list (pv 0)) (pg_name (i := 1) nd rfl (Or.inl rfl))
        (pss_one (ps_if (pt_not (pt_val (pe_call G_is_size (hr.mono (by decide : 1 ≤ 1)) rfl (g_is_size KX G c) k_is_size b_is_size .nil pass0 (pa_cons (pv 1) pa_nil))))
        (pss_one (ps_raise rfl (takes_of rfl rfl rfl rfl) (pmk_own PySem.F.excBase_ValueError (x_NoSize c).1 (g_NoSize KX G c) (x_NoSize c).2.1 (raises_own (x_NoSize c).2.2.1 (x_NoSize c).2.2.2) (by exact rfl))))
        (pss_nil))))
theorem sc_least_box : FnScope ["sizes", "free", "size", "found", "box"] ["sizes", "free", "size"] (defScope s_least_box) := ⟨rfl, rfl, rfl, by decide +kernel, rfl, by decide +kernel, by decide +kernel⟩
theorem ok_least_box {P : Program} {w : World} {base : Heap} {h : Heap} {mg : Str → Option Value} {K : PySem.W.Frag} (KX : K.In h) (G : h.Ns mainGlobals mg) (c : He.SaysD fa fn K) (xs : XS K xl) : OkF P w K mg base CX0 1 (He.fAd K d_least_box.at_) ["sizes", "free", "size"] (sp_least_box K) := by
  obtain ⟨fd, F⟩ := c.def_ 5 (d := d_least_box) rfl
  have nd := sc_least_box.nd
  refine ⟨fd, F.ok sc_least_box (len_least_box (K := K)) (fun cdv A outer s H vs Q E hr hsp => ⟨t_least_box K E, PSs.nox ?_, pure_least_box vs H Q E hsp⟩), F.bindsN (fun _ _ _ _ _ _ us hl => match us, hl with | [_, _, _], _ => rfl), F.kp⟩
  exact pss_cons (ps_set (i := 3) nd rfl (Or.inl rfl) (pe_non))
      (pss_cons (ps_forP (PassesOwn.never) rfl (pi_list (pv 1)) (pg_name (i := 4) nd rfl (Or.inl rfl))
        (pss_one (ps_if (PW.pt (pw_and (pt_cmpR op_ge (pe_ix ix_list (pv 0) (pv 4) (fun _ _ => rfl)) (pv 2) (nomark _)) (pw_and1 (PW.pt (pw_or (pt_cmpR op_isN (pv 3) (pe_non) (nomark _)) (pw_or1 (pt_cmpR op_lt (pe_ix ix_list (pv 0) (pv 4) (fun _ _ => rfl)) (pe_ix ix_list (pv 0) (pv 3) (fun _ _ => rfl)) (nomark _))))))))
        (pss_one (ps_set (i := 3) nd rfl (Or.inl rfl) (pv 4)))
        (pss_nil))))
      (pss_one (ps_ret (pv 3))))
theorem sc_Wall_init : FnScope ["self", "sizes", "size"] ["self", "sizes"] (defScope s_Wall_init) := ⟨rfl, rfl, rfl, by decide +kernel, rfl, by decide +kernel, by decide +kernel⟩
theorem ok_Wall_init {P : Program} {w : World} {base : Heap} {h : Heap} {mg : Str → Option Value} {K : PySem.W.Frag} (KX : K.In h) (G : h.Ns mainGlobals mg) (c : He.SaysD fa fn K) (xs : XS K xl) : OkF P w K mg base (L2.CX P w) 2 (He.fAd K d_Wall_init.at_) ["self", "sizes"] (sp_Wall_init K) := by
  obtain ⟨fd, F⟩ := c.def_ 6 (d := d_Wall_init) rfl
  obtain ⟨fd_is_size, G_is_size, b_is_size, k_is_size⟩ := ok_is_size (P := P) (w := w) (base := base) KX G c xs
  have nd := sc_Wall_init.nd
  refine ⟨fd, F.ok sc_Wall_init (len_Wall_init (K := K)) (fun cdv A outer s H vs Q E hr hsp => ⟨t_Wall_init K E, id ?_, pure_Wall_init (tW c) vs H Q E hsp⟩), F.bindsN (fun _ _ _ _ _ _ us hl => match us, hl with | [_, _], _ => rfl), F.kp⟩
  exact pss_cons (ps_if (PW.pt (pw_or (pt_cmpR op_lt (pe_callB call_len_seq (by rfl) (f_len KX G c) (by decide +kernel) (pa_cons (pv 1) pa_nil)) (pe_int) (nomark _)) (pw_or1 (pt_cmpR op_gt (pe_callB call_len_seq (by rfl) (f_len KX G c) (by decide +kernel) (pa_cons (pv 1) pa_nil)) (pe_glob rfl (c_MOST_BOXES KX G c).choose_spec ⟨_, rfl⟩) (nomark _)))))
        (pss_one (ps_raise rfl (takes_of rfl rfl rfl rfl) (pmk_own PySem.F.excBase_ValueError (x_NoWall c).1 (g_NoWall KX G c) (x_NoWall c).2.1 (raises_own (x_NoWall c).2.2.1 (x_NoWall c).2.2.2) (by exact rfl))))
        (pss_nil))
      (pss_cons (ps_forP (passes_of rfl) rfl (pi_list (pv 1)) (pg_name (i := 2) nd rfl (Or.inl rfl))
        (pss_one (ps_if (pt_not (pt_val (pe_call G_is_size (hr.mono (by decide : 1 ≤ 1)) rfl (g_is_size KX G c) k_is_size b_is_size .nil pass0 (pa_cons (pv 2) pa_nil))))
        (pss_one (ps_raise rfl (takes_of rfl rfl rfl rfl) (pmk_own PySem.F.excBase_ValueError (x_NoWall c).1 (g_NoWall KX G c) (x_NoWall c).2.1 (raises_own (x_NoWall c).2.2.1 (x_NoWall c).2.2.2) (by exact rfl))))
        (pss_nil))))
      (pss_cons (ps_fld (pv 0) (pe_callTy call_list_of (by rfl) (f_list KX G c) (by decide +kernel) (pa_cons (pv 1) pa_nil)) rfl)
      (pss_cons (ps_fld (pv 0) (pe_lc (own := [("size", 2)]) (g := gName 2) rfl nd (pi_list (pv 1)) (blkOk_by (N := ["self", "sizes", "size"]) (sc := defScope s_Wall_init) (by decide +kernel)) (fun _ _ _ _ _ => pg_name (i := 2) nd rfl (Or.inl rfl)) (fun _ _ _ _ _ => pts_nil) (fun _ _ _ _ _ => pe_non)) rfl)
      (pss_cons (ps_fld (pv 0) (pe_lst pa_nil) rfl)
      (pss_one (ps_fld (pv 0) (pe_int) rfl))))))
theorem sc_tight : FnScope ["sizes", "parcels", "best", "size", "many", "one", "box"] ["sizes", "parcels"] (defScope s_tight) := ⟨rfl, rfl, rfl, by decide +kernel, rfl, by decide +kernel, by decide +kernel⟩
theorem ok_tight {P : Program} {w : World} {base : Heap} {h : Heap} {mg : Str → Option Value} {K : PySem.W.Frag} (KX : K.In h) (G : h.Ns mainGlobals mg) (c : He.SaysD fa fn K) (xs : XS K xl) : OkF P w K mg base CX0 1 (He.fAd K d_tight.at_) ["sizes", "parcels"] (sp_tight K) := by
  obtain ⟨fd, F⟩ := c.def_ 7 (d := d_tight) rfl
  have nd := sc_tight.nd
  refine ⟨fd, F.ok sc_tight (len_tight (K := K)) (fun cdv A outer s H vs Q E hr hsp => ⟨t_tight K E, PSs.nox ?_, pure_tight vs H Q E hsp⟩), F.bindsN (fun _ _ _ _ _ _ us hl => match us, hl with | [_, _], _ => rfl), F.kp⟩
  exact pss_cons (ps_set (i := 2) nd rfl (Or.inl rfl) (pe_non))
      (pss_cons (ps_forP (PassesOwn.never) rfl (pi_range2 rfl (f_range KX G c) (pa_cons (pe_int) (pa_cons (pe_op op_add (pe_glob rfl (c_MOST_SIZE KX G c).choose_spec ⟨_, rfl⟩) (pe_int)) pa_nil))) (pg_name (i := 3) nd rfl (Or.inr rfl))
        (pss_cons (ps_set (i := 4) nd rfl (Or.inl rfl) (pe_op op_add (pe_callB call_len_seq (by rfl) (f_len KX G c) (by decide +kernel) (pa_cons (pe_lc (own := [("one", 5)]) (g := gName 5) rfl nd (pi_list (pv 1)) (blkOk_by (N := ["sizes", "parcels", "best", "size", "many", "one", "box"]) (sc := defScope s_tight) (by decide +kernel)) (fun _ _ _ _ _ => pg_name (i := 5) nd rfl (Or.inl rfl)) (fun _ _ _ _ _ => pts_one (pt_cmpR op_lt (pv 5) (pv 3) (nomark _))) (fun _ _ _ _ _ => pv 5)) pa_nil)) (pe_callB call_len_seq (by rfl) (f_len KX G c) (by decide +kernel) (pa_cons (pe_lc (own := [("box", 6)]) (g := gName 6) rfl nd (pi_list (pv 0)) (blkOk_by (N := ["sizes", "parcels", "best", "size", "many", "one", "box"]) (sc := defScope s_tight) (by decide +kernel)) (fun _ _ _ _ _ => pg_name (i := 6) nd rfl (Or.inl rfl)) (fun _ _ _ _ _ => pts_one (pt_cmpR op_ge (pv 6) (pv 3) (nomark _))) (fun _ _ _ _ _ => pv 6)) pa_nil))))
      (pss_one (ps_if (PW.pt (pw_or (pt_cmpR op_isN (pv 2) (pe_non) (nomark _)) (pw_or1 (pt_cmpR op_lt (pv 4) (pe_ix ix_tup (pv 2) (pe_int) (fun _ _ => rfl)) (nomark _)))))
        (pss_one (ps_set (i := 2) nd rfl (Or.inl rfl) (pe_tup (pa_cons (pv 4) (pa_cons (pv 3) pa_nil)))))
        (pss_nil)))))
      (pss_one (ps_ret (pv 2))))
theorem sc_most : FnScope ["sizes", "parcels", "boxes", "order", "free", "chosen", "size", "number", "box", "k"] ["sizes", "parcels"] (defScope s_most) := ⟨rfl, rfl, rfl, by decide +kernel, rfl, by decide +kernel, by decide +kernel⟩
theorem ok_most {P : Program} {w : World} {base : Heap} {h : Heap} {mg : Str → Option Value} {K : PySem.W.Frag} (KX : K.In h) (G : h.Ns mainGlobals mg) (c : He.SaysD fa fn K) (xs : XS K xl) : OkF P w K mg base (L2.CX P w) 4 (He.fAd K d_most.at_) ["sizes", "parcels"] (sp_most K) := by
  obtain ⟨fd, F⟩ := c.def_ 8 (d := d_most) rfl
  obtain ⟨fd_tight, G_tight, b_tight, k_tight⟩ := ok_tight (P := P) (w := w) (base := base) KX G c xs
  obtain ⟨fd_least_box, G_least_box, b_least_box, k_least_box⟩ := ok_least_box (P := P) (w := w) (base := base) KX G c xs
  obtain ⟨fd_see_parcels, G_see_parcels, b_see_parcels, k_see_parcels⟩ := ok_see_parcels (P := P) (w := w) (base := base) KX G c xs
  obtain ⟨fd_Wall_init, G_Wall_init, b_Wall_init, k_Wall_init⟩ := ok_Wall_init (P := P) (w := w) (base := base) KX G c xs
  obtain ⟨fd_Wall_sizes, G_Wall_sizes, b_Wall_sizes, k_Wall_sizes⟩ := ok_Wall_sizes (P := P) (w := w) (base := base) KX G c xs
  have nd := sc_most.nd
  refine ⟨fd, F.ok sc_most (len_most (K := K)) (fun cdv A outer s H vs Q E hr hsp => ⟨t_most K E, id ?_, pure_most (tW c) vs H Q E hsp⟩), F.bindsN (fun _ _ _ _ _ _ us hl => match us, hl with | [_, _], _ => rfl), F.kp⟩
  exact pss_cons (ps_set (i := 2) nd rfl (Or.inl rfl) (pe_meth0 (pe_make (mkW c) G_Wall_init (hr.mono (by decide : 3 ≤ 3)) rfl (g_Wall KX G c) b_Wall_init .nil (passes_call (takes_of rfl rfl rfl rfl) (fun _ _ _ _ h => h)) (pa_cons (pv 0) pa_nil)) (clW c) (m_Wall_sizes c) G_Wall_sizes (hr.mono (by decide : 1 ≤ 3)) b_Wall_sizes .nil pass0 ))
      (pss_cons (ps_expr (pe_call G_see_parcels (hr.mono (by decide : 2 ≤ 3)) rfl (g_see_parcels KX G c) k_see_parcels b_see_parcels .nil (passes_call (takes_of rfl rfl rfl rfl) (fun _ _ _ _ h => h)) (pa_cons (pv 1) pa_nil)))
      (pss_cons (ps_set (i := 3) nd rfl (Or.inl rfl) (pe_callB cr_sortPO (by rfl) (f_sorted KX G c) (by decide +kernel) (pa_cons (pe_lc (own := [("k", 9)]) (g := gName 9) rfl nd (pi_range1 rfl (f_range KX G c) (pa_cons (pe_callB call_len_seq (by rfl) (f_len KX G c) (by decide +kernel) (pa_cons (pv 1) pa_nil)) pa_nil)) (blkOk_by (N := ["sizes", "parcels", "boxes", "order", "free", "chosen", "size", "number", "box", "k"]) (sc := defScope s_most) (by decide +kernel)) (fun _ _ _ _ _ => pg_name (i := 9) nd rfl (Or.inl rfl)) (fun _ _ _ _ _ => pts_nil) (fun _ _ _ _ _ => pe_tup (pa_cons (pe_ix ix_list (pv 1) (pv 9) (fun _ _ => rfl)) (pa_cons (pv 9) pa_nil)))) pa_nil)))
      (pss_cons (ps_set (i := 4) nd rfl (Or.inl rfl) (pe_listRg rfl (by rfl) (f_list KX G c) (prg_1 (by rfl) (f_range KX G c) (pe_callB call_len_seq (by rfl) (f_len KX G c) (by decide +kernel) (pa_cons (pv 2) pa_nil)))))
      (pss_cons (ps_set (i := 5) nd rfl (Or.inl rfl) (pe_lst pa_nil))
      (pss_cons (ps_forP (passes_of rfl) rfl (pi_list (pv 3)) (pg_tup rfl (pgs_cons (pg_name (i := 6) nd rfl (Or.inl rfl)) (pgs_cons (pg_name (i := 7) nd rfl (Or.inl rfl)) pgs_nil)))
        (pss_cons (ps_set (i := 8) nd rfl (Or.inl rfl) (pe_call G_least_box (hr.mono (by decide : 1 ≤ 3)) rfl (g_least_box KX G c) k_least_box b_least_box .nil pass0 (pa_cons (pv 2) (pa_cons (pv 4) (pa_cons (pv 6) pa_nil)))))
      (pss_one (ps_if (pt_cmpR op_notN (pv 8) (pe_non) (nomark _))
        (pss_cons (ps_expr (pe_bm PySem.F.plainAttrs_list PySem.F.slot_list_remove PySem.F.type_list_remove mt_remove (pv 4) (pa_cons (pv 8) pa_nil)))
      (pss_one (ps_expr (pe_bm PySem.F.plainAttrs_list PySem.F.slot_list_append PySem.F.type_list_append mt_append (pv 5) (pa_cons (pv 7) pa_nil)))))
        (pss_nil)))))
      (pss_one (ps_ret (pe_tup (pa_cons (pe_callB call_len_seq (by rfl) (f_len KX G c) (by decide +kernel) (pa_cons (pv 5) pa_nil)) (pa_cons (pe_callB cr_sortedI (by rfl) (f_sorted KX G c) (by decide +kernel) (pa_cons (pv 5) pa_nil)) (pa_cons (pe_ix ix_tup (pe_call G_tight (hr.mono (by decide : 1 ≤ 3)) rfl (g_tight KX G c) k_tight b_tight .nil pass0 (pa_cons (pv 2) (pa_cons (pv 1) pa_nil))) (pe_int) (fun _ _ => rfl)) pa_nil)))))))))))
theorem sc_law_whole : FnScope ["found"] ["found"] (defScope s_law_whole) := ⟨rfl, rfl, rfl, by decide +kernel, rfl, by decide +kernel, by decide +kernel⟩
theorem ok_law_whole {P : Program} {w : World} {base : Heap} {h : Heap} {mg : Str → Option Value} {K : PySem.W.Frag} (KX : K.In h) (G : h.Ns mainGlobals mg) (c : He.SaysD fa fn K) (xs : XS K xl) : OkF P w K mg base CX0 1 (He.fAd K d_law_whole.at_) ["found"] (sp_law_whole K) := by
  obtain ⟨fd, F⟩ := c.def_ 9 (d := d_law_whole) rfl
  have nd := sc_law_whole.nd
  refine ⟨fd, F.ok sc_law_whole (len_law_whole (K := K)) (fun cdv A outer s H vs Q E hr hsp => ⟨t_law_whole K E, PSs.nox ?_, pure_law_whole vs H Q E hsp⟩), F.bindsN (fun _ _ _ _ _ _ us hl => match us, hl with | [_], _ => rfl), F.kp⟩
  exact pss_one (ps_ret (pe_and (pe_callB call_isi (by rfl) (f_isinstance KX G c) (by decide +kernel) (pa_cons (pv 0) (pa_cons (pe_bltn (by rfl) (f_int KX G c) (by decide +kernel) rfl) pa_nil))) (pe_one (pe_not (pe_callB call_isi (by rfl) (f_isinstance KX G c) (by decide +kernel) (pa_cons (pv 0) (pa_cons (pe_bltn (by rfl) (f_bool KX G c) (by decide +kernel) rfl) pa_nil)))))))
theorem sc_law_row : FnScope ["found", "due", "k"] ["found", "due"] (defScope s_law_row) := ⟨rfl, rfl, rfl, by decide +kernel, rfl, by decide +kernel, by decide +kernel⟩
theorem ok_law_row {P : Program} {w : World} {base : Heap} {h : Heap} {mg : Str → Option Value} {K : PySem.W.Frag} (KX : K.In h) (G : h.Ns mainGlobals mg) (c : He.SaysD fa fn K) (xs : XS K xl) : OkF P w K mg base CX0 2 (He.fAd K d_law_row.at_) ["found", "due"] (sp_law_row K) := by
  obtain ⟨fd, F⟩ := c.def_ 10 (d := d_law_row) rfl
  obtain ⟨fd_law_whole, G_law_whole, b_law_whole, k_law_whole⟩ := ok_law_whole (P := P) (w := w) (base := base) KX G c xs
  have nd := sc_law_row.nd
  refine ⟨fd, F.ok sc_law_row (len_law_row (K := K)) (fun cdv A outer s H vs Q E hr hsp => ⟨t_law_row K E, PSs.nox ?_, pure_law_row vs H Q E hsp⟩), F.bindsN (fun _ _ _ _ _ _ us hl => match us, hl with | [_, _], _ => rfl), F.kp⟩
  exact pss_cons (ps_if (PW.pt (pw_or (pt_not (pt_val (pe_callB call_isi (by rfl) (f_isinstance KX G c) (by decide +kernel) (pa_cons (pv 0) (pa_cons (pe_bltn (by rfl) (f_list KX G c) (by decide +kernel) rfl) pa_nil))))) (pw_or1 (pt_cmpR op_ne (pe_callB call_len_seq (by rfl) (f_len KX G c) (by decide +kernel) (pa_cons (pv 0) pa_nil)) (pe_callB call_len_seq (by rfl) (f_len KX G c) (by decide +kernel) (pa_cons (pv 1) pa_nil)) (nomark _)))))
        (pss_one (ps_ret (pe_bl)))
        (pss_nil))
      (pss_cons (ps_forP (PassesOwn.never) rfl (pi_range1 rfl (f_range KX G c) (pa_cons (pe_callB call_len_seq (by rfl) (f_len KX G c) (by decide +kernel) (pa_cons (pv 1) pa_nil)) pa_nil)) (pg_name (i := 2) nd rfl (Or.inl rfl))
        (pss_one (ps_if (PW.pt (pw_or (pt_not (pt_val (pe_call G_law_whole (hr.mono (by decide : 1 ≤ 1)) rfl (g_law_whole KX G c) k_law_whole b_law_whole .nil pass0 (pa_cons (pe_ix ix_list (pv 0) (pv 2) (fun _ _ => rfl)) pa_nil)))) (pw_or1 (pt_cmpR op_ne (pe_ix ix_list (pv 0) (pv 2) (fun _ _ => rfl)) (pe_ix ix_list (pv 1) (pv 2) (fun _ _ => rfl)) (nomark _)))))
        (pss_one (ps_ret (pe_bl)))
        (pss_nil))))
      (pss_one (ps_ret (pe_bl))))
theorem sc_law_fits : FnScope ["sizes", "parcels", "left", "size"] ["sizes", "parcels"] (defScope s_law_fits) := ⟨rfl, rfl, rfl, by decide +kernel, rfl, by decide +kernel, by decide +kernel⟩
theorem ok_law_fits {P : Program} {w : World} {base : Heap} {h : Heap} {mg : Str → Option Value} {K : PySem.W.Frag} (KX : K.In h) (G : h.Ns mainGlobals mg) (c : He.SaysD fa fn K) (xs : XS K xl) : OkF P w K mg base CX0 1 (He.fAd K d_law_fits.at_) ["sizes", "parcels"] (sp_law_fits K) := by
  obtain ⟨fd, F⟩ := c.def_ 11 (d := d_law_fits) rfl
  have nd := sc_law_fits.nd
  refine ⟨fd, F.ok sc_law_fits (len_law_fits (K := K)) (fun cdv A outer s H vs Q E hr hsp => ⟨t_law_fits K E, PSs.nox ?_, pure_law_fits vs H Q E hsp⟩), F.bindsN (fun _ _ _ _ _ _ us hl => match us, hl with | [_, _], _ => rfl), F.kp⟩
  exact pss_cons (ps_set (i := 2) nd rfl (Or.inl rfl) (pe_callB cr_sortedI (by rfl) (f_sorted KX G c) (by decide +kernel) (pa_cons (pv 0) pa_nil)))
      (pss_cons (ps_forP (PassesOwn.never) rfl (pi_list (pe_revL (pe_callB cr_sortedI (by rfl) (f_sorted KX G c) (by decide +kernel) (pa_cons (pv 1) pa_nil)))) (pg_name (i := 3) nd rfl (Or.inl rfl))
        (pss_cons (ps_if (PW.pt (pw_or (pt_cmpR op_eq (pe_callB call_len_seq (by rfl) (f_len KX G c) (by decide +kernel) (pa_cons (pv 2) pa_nil)) (pe_int) (nomark _)) (pw_or1 (pt_cmpR op_lt (pe_ix ix_list (pv 2) (pe_un un_neg (pe_int)) (fun _ _ => rfl)) (pv 3) (nomark _)))))
        (pss_one (ps_ret (pe_bl)))
        (pss_nil))
      (pss_one (ps_expr (pe_bm0 PySem.F.plainAttrs_list PySem.F.slot_list_pop PySem.F.type_list_pop mt_pop (pv 2))))))
      (pss_one (ps_ret (pe_bl))))
theorem sc_law_right_k06 : FnScope ["found", "sizes", "parcels", "places", "lesser", "k", "size"] ["found", "sizes", "parcels"] (defScope s_law_right_k06) := ⟨rfl, rfl, rfl, by decide +kernel, rfl, by decide +kernel, by decide +kernel⟩
theorem ok_law_right_k06 {P : Program} {w : World} {base : Heap} {h : Heap} {mg : Str → Option Value} {K : PySem.W.Frag} (KX : K.In h) (G : h.Ns mainGlobals mg) (c : He.SaysD fa fn K) (xs : XS K xl) : OkF P w K mg base CX0 3 (He.fAd K d_law_right_k06.at_) ["found", "sizes", "parcels"] (sp_law_right_k06 K) := by
  obtain ⟨fd, F⟩ := c.def_ 12 (d := d_law_right_k06) rfl
  obtain ⟨fd_law_fits, G_law_fits, b_law_fits, k_law_fits⟩ := ok_law_fits (P := P) (w := w) (base := base) KX G c xs
  obtain ⟨fd_law_row, G_law_row, b_law_row, k_law_row⟩ := ok_law_row (P := P) (w := w) (base := base) KX G c xs
  obtain ⟨fd_law_whole, G_law_whole, b_law_whole, k_law_whole⟩ := ok_law_whole (P := P) (w := w) (base := base) KX G c xs
  have nd := sc_law_right_k06.nd
  refine ⟨fd, F.ok sc_law_right_k06 (len_law_right_k06 (K := K)) (fun cdv A outer s H vs Q E hr hsp => ⟨t_law_right_k06 K E, PSs.nox ?_, pure_law_right_k06 vs H Q E hsp⟩), F.bindsN (fun _ _ _ _ _ _ us hl => match us, hl with | [_, _, _], _ => rfl), F.kp⟩
  exact pss_cons (ps_if (PW.pt (pw_or (pt_not (pt_val (pe_callB call_isi (by rfl) (f_isinstance KX G c) (by decide +kernel) (pa_cons (pv 0) (pa_cons (pe_bltn (by rfl) (f_tuple KX G c) (by decide +kernel) rfl) pa_nil))))) (pw_or (pt_cmpR op_ne (pe_callB call_len_seq (by rfl) (f_len KX G c) (by decide +kernel) (pa_cons (pv 0) pa_nil)) (pe_int) (nomark _)) (pw_or (pt_not (pt_val (pe_call G_law_whole (hr.mono (by decide : 1 ≤ 2)) rfl (g_law_whole KX G c) k_law_whole b_law_whole .nil pass0 (pa_cons (pe_ix ix_tup (pv 0) (pe_int) (fun _ _ => rfl)) pa_nil)))) (pw_or1 (pt_not (pt_val (pe_call G_law_whole (hr.mono (by decide : 1 ≤ 2)) rfl (g_law_whole KX G c) k_law_whole b_law_whole .nil pass0 (pa_cons (pe_ix ix_tup (pv 0) (pe_int) (fun _ _ => rfl)) pa_nil)))))))))
        (pss_one (ps_ret (pe_bl)))
        (pss_nil))
      (pss_cons (ps_set (i := 3) nd rfl (Or.inl rfl) (pe_ix ix_tup (pv 0) (pe_int) (fun _ _ => rfl)))
      (pss_cons (ps_if (PW.pt (pw_or (pt_not (pt_val (pe_callB call_isi (by rfl) (f_isinstance KX G c) (by decide +kernel) (pa_cons (pv 3) (pa_cons (pe_bltn (by rfl) (f_list KX G c) (by decide +kernel) rfl) pa_nil))))) (pw_or (pt_cmpR op_ne (pe_callB call_len_seq (by rfl) (f_len KX G c) (by decide +kernel) (pa_cons (pv 3) pa_nil)) (pe_ix ix_tup (pv 0) (pe_int) (fun _ _ => rfl)) (nomark _)) (pw_or1 (pt_not (pt_val (pe_call G_law_row (hr.mono (by decide : 2 ≤ 2)) rfl (g_law_row KX G c) k_law_row b_law_row .nil pass0 (pa_cons (pv 3) (pa_cons (pe_sortSet rfl rfl (f_sorted KX G c) rfl (f_set KX G c) (pv 3)) pa_nil)))))))))
        (pss_one (ps_ret (pe_bl)))
        (pss_nil))
      (pss_cutP (ps_if (PW.pt (pw_and (pt_cmpR op_gt (pe_callB call_len_seq (by rfl) (f_len KX G c) (by decide +kernel) (pa_cons (pv 3) pa_nil)) (pe_int) (nomark _)) (pw_and1 (PW.pt (pw_or (pt_cmpR op_lt (pe_ix ix_list (pv 3) (pe_int) (fun _ _ => rfl)) (pe_int) (nomark _)) (pw_or1 (pt_cmpR op_ge (pe_ix ix_list (pv 3) (pe_un un_neg (pe_int)) (fun _ _ => rfl)) (pe_callB call_len_seq (by rfl) (f_len KX G c) (by decide +kernel) (pa_cons (pv 2) pa_nil)) (nomark _))))))))
        (pss_one (ps_ret (pe_bl)))
        (pss_nil))
      (pss_cons (ps_if (PW.pt (pw_or (pt_not (pt_val (pe_call G_law_fits (hr.mono (by decide : 1 ≤ 2)) rfl (g_law_fits KX G c) k_law_fits b_law_fits .nil pass0 (pa_cons (pv 1) (pa_cons (pe_lc (own := [("k", 5)]) (g := gName 5) rfl nd (pi_list (pv 3)) (blkOk_by (N := ["found", "sizes", "parcels", "places", "lesser", "k", "size"]) (sc := defScope s_law_right_k06) (by decide +kernel)) (fun _ _ _ _ _ => pg_name (i := 5) nd rfl (Or.inl rfl)) (fun _ _ _ _ _ => pts_nil) (fun _ _ _ _ _ => pe_ix ix_list (pv 2) (pv 5) (fun _ _ => rfl))) pa_nil))))) (pw_or (pt_cmpR op_lt (pe_ix ix_tup (pv 0) (pe_int) (fun _ _ => rfl)) (pe_int) (nomark _)) (pw_or1 (pt_cmpR op_gt (pe_ix ix_tup (pv 0) (pe_int) (fun _ _ => rfl)) (pe_int) (nomark _))))))
        (pss_one (ps_ret (pe_bl)))
        (pss_nil))
      (pss_cons (ps_set (i := 4) nd rfl (Or.inl rfl) (pe_callB call_len_seq (by rfl) (f_len KX G c) (by decide +kernel) (pa_cons (pe_lc (own := [("size", 6)]) (g := gName 6) rfl nd (pi_list (pv 2)) (blkOk_by (N := ["found", "sizes", "parcels", "places", "lesser", "k", "size"]) (sc := defScope s_law_right_k06) (by decide +kernel)) (fun _ _ _ _ _ => pg_name (i := 6) nd rfl (Or.inl rfl)) (fun _ _ _ _ _ => pts_one (pt_cmpR op_lt (pv 6) (pe_ix ix_tup (pv 0) (pe_int) (fun _ _ => rfl)) (nomark _))) (fun _ _ _ _ _ => pv 6)) pa_nil)))
      (pss_one (ps_ret (pe_cmpR op_eq (pe_op op_add (pv 4) (pe_callB call_len_seq (by rfl) (f_len KX G c) (by decide +kernel) (pa_cons (pe_lc (own := [("size", 6)]) (g := gName 6) rfl nd (pi_list (pv 1)) (blkOk_by (N := ["found", "sizes", "parcels", "places", "lesser", "k", "size"]) (sc := defScope s_law_right_k06) (by decide +kernel)) (fun _ _ _ _ _ => pg_name (i := 6) nd rfl (Or.inl rfl)) (fun _ _ _ _ _ => pts_one (pt_cmpR op_ge (pv 6) (pe_ix ix_tup (pv 0) (pe_int) (fun _ _ => rfl)) (nomark _))) (fun _ _ _ _ _ => pv 6)) pa_nil))) (pe_ix ix_tup (pv 0) (pe_int) (fun _ _ => rfl)) (nomark _)))))))))
theorem sc_fit : FnScope ["sizes", "parcels", "boxes", "size", "order", "free", "found", "k", "one", "box"] ["sizes", "parcels"] (defScope s_fit) := ⟨rfl, rfl, rfl, by decide +kernel, rfl, by decide +kernel, by decide +kernel⟩
theorem ok_fit {P : Program} {w : World} {base : Heap} {h : Heap} {mg : Str → Option Value} {K : PySem.W.Frag} (KX : K.In h) (G : h.Ns mainGlobals mg) (c : He.SaysD fa fn K) (xs : XS K xl) : OkF P w K mg base (L2.CX P w) 4 (He.fAd K d_fit.at_) ["sizes", "parcels"] (sp_fit K) := by
  obtain ⟨fd, F⟩ := c.def_ 13 (d := d_fit) rfl
  obtain ⟨fd_see_parcels, G_see_parcels, b_see_parcels, k_see_parcels⟩ := ok_see_parcels (P := P) (w := w) (base := base) KX G c xs
  obtain ⟨fd_Wall_init, G_Wall_init, b_Wall_init, k_Wall_init⟩ := ok_Wall_init (P := P) (w := w) (base := base) KX G c xs
  obtain ⟨fd_Wall_sizes, G_Wall_sizes, b_Wall_sizes, k_Wall_sizes⟩ := ok_Wall_sizes (P := P) (w := w) (base := base) KX G c xs
  have nd := sc_fit.nd
  refine ⟨fd, F.ok sc_fit (len_fit (K := K)) (fun cdv A outer s H vs Q E hr hsp => ⟨t_fit K E, id ?_, pure_fit (tW c) vs H Q E hsp⟩), F.bindsN (fun _ _ _ _ _ _ us hl => match us, hl with | [_, _], _ => rfl), F.kp⟩
  exact pss_cons (ps_set (i := 2) nd rfl (Or.inr rfl) (pe_meth0 (pe_make (mkW c) G_Wall_init (hr.mono (by decide : 3 ≤ 3)) rfl (g_Wall KX G c) b_Wall_init .nil (passes_call (takes_of rfl rfl rfl rfl) (fun _ _ _ _ h => h)) (pa_cons (pv 0) pa_nil)) (clW c) (m_Wall_sizes c) G_Wall_sizes (hr.mono (by decide : 1 ≤ 3)) b_Wall_sizes .nil pass0 ))
      (pss_cons (ps_expr (pe_call G_see_parcels (hr.mono (by decide : 2 ≤ 3)) rfl (g_see_parcels KX G c) k_see_parcels b_see_parcels .nil (passes_call (takes_of rfl rfl rfl rfl) (fun _ _ _ _ h => h)) (pa_cons (pv 1) pa_nil)))
      (pss_cons (ps_forP (passes_of rfl) rfl (pi_range2 rfl (f_range KX G c) (pa_cons (pe_int) (pa_cons (pe_op op_add (pe_glob rfl (c_MOST_SIZE KX G c).choose_spec ⟨_, rfl⟩) (pe_int)) pa_nil))) (pg_name (i := 3) nd rfl (Or.inr rfl))
        (pss_one (ps_if (pt_cmpR op_gt (pe_callB call_len_seq (by rfl) (f_len KX G c) (by decide +kernel) (pa_cons (pe_lc (own := [("one", 8)]) (g := gName 8) rfl nd (pi_list (pv 1)) (blkOk_by (N := ["sizes", "parcels", "boxes", "size", "order", "free", "found", "k", "one", "box"]) (sc := defScope s_fit) (by decide +kernel)) (fun _ _ _ _ _ => pg_name (i := 8) nd rfl (Or.inl rfl)) (fun _ _ _ _ _ => pts_one (pt_cmpR op_ge (pv 8) (pv 3) (nomark _))) (fun _ _ _ _ _ => pv 8)) pa_nil)) (pe_callB call_len_seq (by rfl) (f_len KX G c) (by decide +kernel) (pa_cons (pe_lc (own := [("box", 9)]) (g := gName 9) rfl nd (pi_list (pv 2)) (blkOk_by (N := ["sizes", "parcels", "boxes", "size", "order", "free", "found", "k", "one", "box"]) (sc := defScope s_fit) (by decide +kernel)) (fun _ _ _ _ _ => pg_name (i := 9) nd rfl (Or.inl rfl)) (fun _ _ _ _ _ => pts_one (pt_cmpR op_ge (pv 9) (pv 3) (nomark _))) (fun _ _ _ _ _ => pv 9)) pa_nil)) (nomark _))
        (pss_one (ps_ret (pe_tup (pa_cons (pe_str) (pa_cons (pv 3) pa_nil)))))
        (pss_nil))))
      (pss_cons (ps_set (i := 4) nd rfl (Or.inl rfl) (pe_callB cr_sortPO (by rfl) (f_sorted KX G c) (by decide +kernel) (pa_cons (pe_lc (own := [("k", 7)]) (g := gName 7) rfl nd (pi_range1 rfl (f_range KX G c) (pa_cons (pe_callB call_len_seq (by rfl) (f_len KX G c) (by decide +kernel) (pa_cons (pv 1) pa_nil)) pa_nil)) (blkOk_by (N := ["sizes", "parcels", "boxes", "size", "order", "free", "found", "k", "one", "box"]) (sc := defScope s_fit) (by decide +kernel)) (fun _ _ _ _ _ => pg_name (i := 7) nd rfl (Or.inl rfl)) (fun _ _ _ _ _ => pts_nil) (fun _ _ _ _ _ => pe_tup (pa_cons (pe_op op_sub (pe_int) (pe_ix ix_list (pv 1) (pv 7) (fun _ _ => rfl))) (pa_cons (pv 7) pa_nil)))) pa_nil)))
      (pss_cons (ps_set (i := 5) nd rfl (Or.inl rfl) (pe_callB cr_sortPO (by rfl) (f_sorted KX G c) (by decide +kernel) (pa_cons (pe_lc (own := [("box", 9)]) (g := gName 9) rfl nd (pi_range1 rfl (f_range KX G c) (pa_cons (pe_callB call_len_seq (by rfl) (f_len KX G c) (by decide +kernel) (pa_cons (pv 2) pa_nil)) pa_nil)) (blkOk_by (N := ["sizes", "parcels", "boxes", "size", "order", "free", "found", "k", "one", "box"]) (sc := defScope s_fit) (by decide +kernel)) (fun _ _ _ _ _ => pg_name (i := 9) nd rfl (Or.inl rfl)) (fun _ _ _ _ _ => pts_nil) (fun _ _ _ _ _ => pe_tup (pa_cons (pe_op op_sub (pe_int) (pe_ix ix_list (pv 2) (pv 9) (fun _ _ => rfl))) (pa_cons (pv 9) pa_nil)))) pa_nil)))
      (pss_cons (ps_setLc (i := 6) (own := [("size", 3)]) (g := gName 3) rfl nd rfl rfl (sw_true rfl rfl rfl (by decide +kernel)) (pi_list (pv 1)) (blkOk_by (N := ["sizes", "parcels", "boxes", "size", "order", "free", "found", "k", "one", "box"]) (sc := defScope s_fit) (by decide +kernel)) (fun _ _ _ _ _ => pg_name (i := 3) nd rfl (Or.inl rfl)) (fun _ _ _ _ _ => pts_nil) (fun _ _ _ _ _ => pe_int))
      (pss_cons (ps_forP (passes_of rfl) rfl (pi_range1 rfl (f_range KX G c) (pa_cons (pe_callB call_len_seq (by rfl) (f_len KX G c) (by decide +kernel) (pa_cons (pv 4) pa_nil)) pa_nil)) (pg_name (i := 7) nd rfl (Or.inl rfl))
        (pss_one (ps_asg (pe_ix ix_tup (pe_ix ix_list (pv 5) (pv 7) (fun _ _ => rfl)) (pe_int) (fun _ _ => rfl)) (pg_sub (pv 6) (pe_ix ix_tup (pe_ix ix_list (pv 4) (pv 7) (fun _ _ => rfl)) (pe_int) (fun _ _ => rfl)) set_list))))
      (pss_one (ps_ret (pe_tup (pa_cons (pe_str) (pa_cons (pv 6) pa_nil)))))))))))
theorem sc_law_k06 : FnScope ["script", "sizes", "low", "top", "parcels", "handed", "lap", "found", "k"] ["script"] (defScope s_law_k06) := ⟨rfl, rfl, rfl, by decide +kernel, rfl, by decide +kernel, by decide +kernel⟩
theorem ok_law_k06 {P : Program} {w : World} {base : Heap} {h : Heap} {mg : Str → Option Value} {K : PySem.W.Frag} (KX : K.In h) (G : h.Ns mainGlobals mg) (c : He.SaysD fa fn K) (xs : XS K xl) {fd : FuncData} (F : FunD K d_law_k06.name d_law_k06.qual d_law_k06.params d_law_k06.body d_law_k06.scope [] [] (He.fAd K d_law_k06.at_) fd) : FnOk P w K mg base CX0 5 (He.fAd K d_law_k06.at_) fd ["script"] (sp_law_k06 K) := by
  obtain ⟨fd_fit, G_fit, b_fit, k_fit⟩ := ok_fit (P := P) (w := w) (base := base) KX G c xs
  obtain ⟨fd_law_right_k06, G_law_right_k06, b_law_right_k06, k_law_right_k06⟩ := ok_law_right_k06 (P := P) (w := w) (base := base) KX G c xs
  obtain ⟨fd_most, G_most, b_most, k_most⟩ := ok_most (P := P) (w := w) (base := base) KX G c xs
  obtain ⟨fd_law_drawn, G_law_drawn, b_law_drawn, k_law_drawn⟩ := ok_law_drawn (P := P) (w := w) (base := base) KX G c xs
  obtain ⟨fd_law_sizes_by, G_law_sizes_by, b_law_sizes_by, k_law_sizes_by⟩ := ok_law_sizes_by (P := P) (w := w) (base := base) KX G c xs
  have nd := sc_law_k06.nd
  refine F.ok sc_law_k06 (len_law_k06 (K := K)) (fun cdv A outer s H vs Q E hr hsp => ⟨t_law_k06 K E, PSs.nox ?_, pure_law_k06 vs H Q E hsp⟩)
  exact pss_cons (ps_set (i := 1) nd rfl (Or.inl rfl) (pe_call G_law_sizes_by (hr.mono (by decide : 2 ≤ 4)) rfl (g_law_sizes_by KX G c) k_law_sizes_by b_law_sizes_by .nil pass0 (pa_cons (pv 0) (pa_cons (pe_int) pa_nil))))
      (pss_cons (ps_set (i := 2) nd rfl (Or.inr rfl) (pe_ix ix_list (pe_lst (pa_cons (pe_int) (pa_cons (pe_int) (pa_cons (pe_int) pa_nil)))) (pe_call G_law_drawn (hr.mono (by decide : 1 ≤ 4)) rfl (g_law_drawn KX G c) k_law_drawn b_law_drawn .nil pass0 (pa_cons (pv 0) (pa_cons (pe_int) (pa_cons (pe_int) pa_nil)))) (fun _ _ => rfl)))
      (pss_cons (ps_set (i := 3) nd rfl (Or.inr rfl) (pe_ix ix_list (pe_lst (pa_cons (pe_int) (pa_cons (pe_int) (pa_cons (pe_int) pa_nil)))) (pe_call G_law_drawn (hr.mono (by decide : 1 ≤ 4)) rfl (g_law_drawn KX G c) k_law_drawn b_law_drawn .nil pass0 (pa_cons (pv 0) (pa_cons (pe_int) (pa_cons (pe_int) pa_nil)))) (fun _ _ => rfl)))
      (pss_cons (ps_setLc (i := 4) (own := [("k", 8)]) (g := gName 8) rfl nd rfl rfl (sw_true rfl rfl rfl (by decide +kernel)) (pi_range1 rfl (f_range KX G c) (pa_cons (pe_call G_law_drawn (hr.mono (by decide : 1 ≤ 4)) rfl (g_law_drawn KX G c) k_law_drawn b_law_drawn .nil pass0 (pa_cons (pv 0) (pa_cons (pe_int) (pa_cons (pe_int) pa_nil)))) pa_nil)) (blkOk_by (N := ["script", "sizes", "low", "top", "parcels", "handed", "lap", "found", "k"]) (sc := defScope s_law_k06) (by decide +kernel)) (fun _ _ _ _ _ => pg_name (i := 8) nd rfl (Or.inl rfl)) (fun _ _ _ _ _ => pts_nil) (fun _ _ _ _ _ => pe_op op_add (pe_op op_add (pe_int) (pv 2)) (pe_call G_law_drawn (hr.mono (by decide : 1 ≤ 4)) rfl (g_law_drawn KX G c) k_law_drawn b_law_drawn .nil pass0 (pa_cons (pv 0) (pa_cons (pe_op op_add (pe_int) (pv 8)) (pa_cons (pv 3) pa_nil))))))
      (pss_cons (ps_set (i := 5) nd rfl (Or.inl rfl) (pe_lst (pa_cons (pe_callTy call_list_of (by rfl) (f_list KX G c) (by decide +kernel) (pa_cons (pv 1) pa_nil)) (pa_cons (pe_callTy call_list_of (by rfl) (f_list KX G c) (by decide +kernel) (pa_cons (pv 4) pa_nil)) pa_nil))))
      (pss_cons (ps_forP (PassesOwn.never) rfl (pi_range1 rfl (f_range KX G c) (pa_cons (pe_int) pa_nil)) (pg_name (i := 6) nd rfl (Or.inl rfl))
        (pss_cons (ps_set (i := 7) nd rfl (Or.inl rfl) (pe_call G_most (hr.mono (by decide : 4 ≤ 4)) rfl (g_most KX G c) k_most b_most .nil passL (pa_cons (pe_ix ix_list (pv 5) (pe_int) (fun _ _ => rfl)) (pa_cons (pe_ix ix_list (pv 5) (pe_int) (fun _ _ => rfl)) pa_nil))))
      (pss_cons (ps_if (PW.pt (pw_or (pt_not (pt_val (pe_call G_law_right_k06 (hr.mono (by decide : 3 ≤ 4)) rfl (g_law_right KX G c) k_law_right_k06 b_law_right_k06 .nil pass0 (pa_cons (pv 7) (pa_cons (pv 1) (pa_cons (pv 4) pa_nil)))))) (pw_or1 (pt_cmpR (op_neDI hr.units) (pv 5) (pe_lst (pa_cons (pv 1) (pa_cons (pv 4) pa_nil))) (nomark _)))))
        (pss_one (ps_ret (pe_bl)))
        (pss_nil))
      (pss_cons (ps_if (pt_cmpR op_ne (pe_cmpR op_eq (pe_ix ix_tup (pv 7) (pe_int) (fun _ _ => rfl)) (pe_callB call_len_seq (by rfl) (f_len KX G c) (by decide +kernel) (pa_cons (pv 4) pa_nil)) (nomark _)) (pe_cmpR op_eq (pe_ix ix_tup (pe_call G_fit (hr.mono (by decide : 4 ≤ 4)) rfl (g_fit KX G c) k_fit b_fit .nil passL (pa_cons (pe_ix ix_list (pv 5) (pe_int) (fun _ _ => rfl)) (pa_cons (pe_ix ix_list (pv 5) (pe_int) (fun _ _ => rfl)) pa_nil))) (pe_int) (fun _ _ => rfl)) (pe_str) (nomark _)) (nomark _))
        (pss_one (ps_ret (pe_bl)))
        (pss_nil))
      (pss_one (ps_expr (pe_bm PySem.F.plainAttrs_list PySem.F.slot_list_append PySem.F.type_list_append mt_append (pe_ix ix_tup (pv 7) (pe_int) (fun _ _ => rfl)) (pa_cons (pe_int) pa_nil))))))))
      (pss_one (ps_ret (pe_cmpR (op_eqDI hr.units) (pv 5) (pe_lst (pa_cons (pv 1) (pa_cons (pv 4) pa_nil))) (nomark _)))))))))
def exb (K : PySem.W.Frag) : Bool := xsB K xl
abbrev hk : PySem.W.Hook := He.hookX 4 fa fn [] [] exb
def ob (s : PySem.W.SharedT) : He.AlX := He.obsX 4 fa fn [] [] exb (HandSHeadRun.getT s)
theorem ob_eq (s : PySem.W.SharedT) : ob s = hk.obs s.abs := He.obsX_eq (HandSHeadRun.getT_eq s)
theorem run (w : World) : HandSHeadRun.RunEq R (PySem.W.view R.prog [25]) hk ob 4000 ["_wall", "__name__", "WallError", "NoWall", "NoSize", "NoParcel", "MOST_BOXES", "MOST_SIZE", "is_size", "least_box", "Wall", "see_parcels", "tight", "most", "fit", "_law_drawn", "_law_whole", "_law_row", "_law_rows", "_law_sizes_by", "_law_fits", "_law_right"] w := by
  intro os
  kernel_rfl
theorem facts {P : Program} {w : World} {K : PySem.W.Frag} {h : Heap} {mg : Str → Option Value} {f : Addr} (KX : K.In h) (G : h.Ns mainGlobals mg) (hfa : mg ("law" : Str) = some (.ref f)) (c : He.SaysD fa fn K) (xs : XS K xl) :
    ∃ fd : FuncData, (∀ (s : Shared) (v : Value), BindsTo s fd ⟨[v], []⟩ [("script", v)]) ∧ ∀ base : Heap, K.In base → base.Ns mainGlobals mg → FnOk P w K mg base CX0 5 f fd ["script"] (sp_law_k06 K) := by
  obtain ⟨fd, F⟩ := c.def_ 14 (d := d_law_k06) rfl
  have e := hfa.symm.trans (g_law KX G c)
  cases e
  have b := FunD.bindsA (ps := ["script"]) F fun _ _ _ _ _ _ us hl => match us, hl with | [_], _ => rfl
  exact ⟨fd, fun s v => b s [v] rfl, fun base _ _ => ok_law_k06 KX G c xs F⟩
end Pw
open PySem PySem.W PySem.Calls PyProof.Rows
theorem PySem.Challenge.cw_parcelwall_k06_whole_as_many_as_can_be_holds : PySem.Challenge.rw_parcelwall_k06_whole_as_many_as_can_be.Holds := by
  w_on; o_law
  refine HandSHeadRun.head_any (r := OpenLaw.row PySem.Challenge.rw_parcelwall_k06_whole_as_many_as_can_be) (q := view (OpenLaw.row PySem.Challenge.rw_parcelwall_k06_whole_as_many_as_can_be).prog [25]) (H := Pw.hk) (ob := Pw.ob) (M := 4000) (loose := ["_wall", "__name__", "WallError", "NoWall", "NoSize", "NoParcel", "MOST_BOXES", "MOST_SIZE", "is_size", "least_box", "Wall", "see_parcels", "tight", "most", "fit", "_law_drawn", "_law_whole", "_law_row", "_law_rows", "_law_sizes_by", "_law_fits", "_law_right"]) (d := HandSHeadRun.topDef (OpenLaw.row PySem.Challenge.rw_parcelwall_k06_whole_as_many_as_can_be).prog 25) (kwd := []) Pw.ob_eq
    (by kernel_rfl) (fun s => by kernel_rfl) Pw.run (by kernel_rfl) (by kernel_rfl) (by kernel_rfl) (by rfl) (by first | assumption | decide +kernel) (by decide +kernel) ⟨rfl, rfl, rfl, rfl, rfl, by decide +kernel⟩ ?hw ?hc
  case hw => w_witness2
  case hc =>
    refine L2.walk_ofE (l := PySem.Challenge.rw_parcelwall_k06_whole_as_many_as_can_be) (n := 63) (k := 5) (x := "script") (CX := L2.CX0) rfl (by decide) (by kernel_rfl) ⟨rfl, by decide, by decide⟩ ?F (fun _ _ _ _ z => z)
    intro w mg fa h Y G hmg0
    obtain ⟨K, KX, sx⟩ := Y
    have hmg : mg ("law" : PySem.Str) = some (.ref fa) := by
      have e : (HandSHeadRun.topDef (OpenLaw.row PySem.Challenge.rw_parcelwall_k06_whole_as_many_as_can_be).prog 25).name = ("law" : PySem.Str) := by kernel_rfl
      rw [← e]
      exact hmg0
    obtain ⟨fd, hb, hF⟩ := Pw.facts (P := (PySem.Challenge.rw_parcelwall_k06_whole_as_many_as_can_be).prog) (w := w) KX G hmg sx.t.d ⟨sx.more⟩
    exact ⟨K, fd, Pw.sp_law_k06 K, KX, hb, fun H a ns hl _ hS => ⟨a, ns, rfl, hS, hl, fun _ => rfl⟩, hF⟩
