import PyProof.Rows.All
import Wide.All
import OpenK.AllK
import Wide.FinOn
import KE.KStateDown
import HandS.ForMost
import HandS.ForExc
import HandS.Defaults
import HandS.TryMany
import HandS.SortRule
import HandS.SortInts
import HandS.SetFor
import HandS.More
import HandS.IsInst
import HandS.ExcIs
import HandS.Zip
import HandS.Evl
import HandS.Head0
import HandS.Head1
import HandS.Head2
import HandS.HeadEnd
import HandS.HeadHook1
import HandS.HeadHook2
import HandS.HeadHook3
import HandS.HeadHook4
import PySem.Challenge.RW_parcelwall_k05_whole_fit_or_too_many
set_option Elab.async false
set_option linter.all false
set_option maxRecDepth 100000
set_option maxHeartbeats 4000000
open PySem PySem.Spec PyProof.Rows L2
namespace Pw
/-! ### readings by short names -/
abbrev rAddI : R2 := rI0 fun i j => .int (i + j)
abbrev rSubI : R2 := rI0 fun i j => .int (i - j)
abbrev rMulI : R2 := rI CMul fun i j => .int (i * j)
abbrev rModP : R2 := rI (fun _ j => 0 < j) fun i j => .int (i % j)
abbrev rModN : R2 := rI (fun _ j => j ≠ 0) fun i j => .int (i.fmod j)
abbrev rDivP : R2 := rI CDiv fun i j => .int (i / j)
abbrev rPow : R2 := rI CPow fun i j => .int (i ^ j.toNat)
abbrev rNeg : V → Hp → VK → Prop := rU fun i => .int (-i)
abbrev rLt : R2 := rI0 fun i j => .bl (decide (i < j))
abbrev rLe : R2 := rI0 fun i j => .bl (decide (i ≤ j))
abbrev rGt : R2 := rI0 fun i j => .bl (decide (j < i))
abbrev rGe : R2 := rI0 fun i j => .bl (decide (j ≤ i))
abbrev rAddS : R2 := fun x y H Q => ∃ i j, x = .str i ∧ y = .str j ∧ i.length + j.length ≤ sizeLine ∧ Q (.str (i ++ j)) H
abbrev rIsNone : R2 := fun x y H Q => y = .non ∧ Q (.bl (decide (x = .non))) H
abbrev rNotNone : R2 := fun x y H Q => y = .non ∧ Q (.bl (!decide (x = .non))) H
abbrev rInSign : R2 := fun x y H Q => ∃ (c : Nat) (z : Str), x = .str ⟨#[c]⟩ ∧ y = .str z ∧ Q (.bl (decide (c ∈ z.cps.toList))) H
abbrev rNotInSign : R2 := fun x y H Q => ∃ (c : Nat) (z : Str), x = .str ⟨#[c]⟩ ∧ y = .str z ∧ Q (.bl (!decide (c ∈ z.cps.toList))) H
abbrev rLenSeq (K : PySem.W.Frag) : List V → Hp → VK → Prop := fun xs H Q => ∃ p ys, xs = [.ref p] ∧ (SqL K H p ys ∨ SqT K H p ys) ∧ Q (.int ys.length) H
abbrev rListOf (K : PySem.W.Frag) : List V → Hp → VK → Prop := fun xs H Q => ∃ p ys, xs = [.ref p] ∧ (SqL K H p ys ∨ SqT K H p ys) ∧ ∀ l, H l = none → Q (.ref l) (upd H l (.lst ys))
abbrev rLenStr : List V → Hp → VK → Prop := fun xs H Q => ∃ z, xs = [.str z] ∧ z.length ≤ sizeLine ∧ Q (.int z.length) H
abbrev rMax2 : List V → Hp → VK → Prop := fun xs H Q => ∃ i j, xs = [.int i, .int j] ∧ Q (.int (if j > i then j else i)) H
abbrev rMin2 : List V → Hp → VK → Prop := fun xs H Q => ∃ i j, xs = [.int i, .int j] ∧ Q (.int (if j < i then j else i)) H
abbrev rInsert : V → List V → Hp → VK → Prop := fun x vs H Q => ∃ (l : Addr) (xs : List V) (i : Int) (y : V), x = .ref l ∧ vs = [.int i, y] ∧ H l = some (.lst xs) ∧ xs.length < sizeLine ∧ 0 ≤ i ∧ i < 2 ^ 63 ∧ Q .non (upd H l (.lst (xs.take i.toNat ++ [y] ++ xs.drop i.toNat)))
abbrev rStrInt : List V → Hp → VK → Prop := fun xs H Q => ∃ i, xs = [.int i] ∧ i.natAbs.log2 < 1920 ∧ Q (.str (toString i)) H
abbrev rIntStr : List V → Hp → VK → Prop := fun xs H Q => ∃ a n, xs = [.str a] ∧ PySem.intText? a = some n ∧ a.length ≤ 640 ∧ Q (.int n) H
abbrev rJoin (K : PySem.W.Frag) : V → List V → Hp → VK → Prop := fun x xs H Q => ∃ a p, ∃ ys : List Str, x = .str a ∧ xs = [.ref p] ∧ (SqL K H p (ys.map V.str) ∨ SqT K H p (ys.map V.str)) ∧ (ys.map (·.length)).sum + ys.length * a.length ≤ 16777216 ∧ Q (.str (Txt.join a ys)) H
abbrev tRaise (E : XK) (C : Addr) : TS := fun _ _ H => E (.ref C) none H
/-! ### rules: a method's call, an instance made, within a try -/
/-- o.m(e, ..) within a try: what it raises is wished for at the slots as they stand -/
def tMethS (C : Addr) (m : Str) (sp : Sp) (E : L2.St → XK) (ta : TE) (t : TA) : TE := fun σ H Q => ta σ H fun x H1 => ∃ a dx fs, x = .ref a ∧ H1 a = some (.ins C dx fs) ∧ fs.lookup m = none ∧ t σ H1 fun vs H2 => sp (x :: vs) H2 Q (E σ)
theorem pe_methS {X : Cx} {CX : CXT} {k : Nat} {f C : Addr} {fd : FuncData} {ps : List Str} {sp : Sp} {E : L2.St → XK} {m : Str} {pos apos : Pos} {e o : Expr} {es : List Expr} {ta : TE} {t : TA} {pl : Sem Bool} (he : PE X o ta) (c : Cls X.K C) (hm : Meth X.K C m f)
    (F : FnOk X.prog X.w X.K X.mg X.base CX k f fd ps sp) (hr : Room k X.A) (hb : Binds X.K fd ps []) (hx : ∀ σ, PassesAt CX X σ (E σ)) (ha : PA X (e :: es) t)
    (hst : starEach (e :: es) X.env = (false, eval e X.env) :: starEach es X.env := by rfl) (hpl : (backTo pos (starEach es X.env)).any (·.1) = false := by rfl)
    (ht : eval (.Call (.Attribute o m apos) (e :: es) [] pos) X.env = (do
      let ov ← eval o X.env
      standAt apos.atName
      let (f, first) ← holding [ov] (getMethod ov m pl)
      callWith pos f first (backTo pos (starEach (e :: es) X.env)) (backToKw pos (keywordEach [] X.env))) := by rfl) :
    PE X (.Call (.Attribute o m apos) (e :: es) [] pos) (tMethS C m sp E ta t) := by
  refine ⟨fun pins s σ H Q I h => ?_⟩
  refine PySem.W.methodCall_KW (pl := pl) (thn (he.run pins s σ H _ I h) fun u s1 ⟨x, H1, I1, rx, a, dx, fs, ex, ea, l, q⟩ => ?_) ht
  subst ex
  obtain rfl : u = Value.ref a := rx
  refine getmeth_ok I1 ea c hm l ?_
  refine PySem.W.callWith_K (first := [.ref a]) (h₀ := X.base) I.ok.mod.kin hm.kp (thn (ha.run pos pins s1 σ H1 _ I1 q) fun us s2 ⟨vs, H2, I2, r, q2⟩ => ⟨I2.kIn, ?_⟩) hst hpl
  exact run_fnS (us := .ref a :: us) (vs := .ref a :: vs) F hr hb (hx σ) I2 (.cons rfl r) q2
/-! ### small words -/
theorem ifD {c A B : Prop} [Decidable c] (h1 : c → A) (h2 : ¬ c → B) : if decide c = true then A else B := by
  by_cases h : c
  · rw [decide_eq_true h, if_pos rfl]; exact h1 h
  · rw [decide_eq_false h, if_neg Bool.false_ne_true]; exact h2 h
theorem ifN {c A B : Prop} [Decidable c] (h1 : ¬ c → A) (h2 : c → B) : if (!decide c) = true then A else B := by
  by_cases h : c
  · rw [decide_eq_true h]; exact iteF (h2 h)
  · rw [decide_eq_false h]; exact iteT (h1 h)
theorem ifB {b : Bool} {A B : Prop} (h1 : b = true → A) (h2 : b = false → B) : if b = true then A else B := by
  cases b with
  | true => exact iteT (h1 rfl)
  | false => exact iteF (h2 rfl)
theorem ifNB {b : Bool} {A B : Prop} (h1 : b = false → A) (h2 : b = true → B) : if (!b) = true then A else B := by
  cases b with
  | true => exact iteF (h2 rfl)
  | false => exact iteT (h1 rfl)
theorem ifIs {b : Bool} {A B : Prop} (h : b = true) (a : A) : if b = true then A else B := by rw [h]; exact iteT a
theorem ifNo {b : Bool} {A B : Prop} (h : b = false) (a : B) : if b = true then A else B := by rw [h]; exact iteF a
/-! ### heaps -/
theorem updOld {H : Hp} {a p : Addr} {o u : HO} (h : H a = some o) (hp : H p = none) : upd H p u a = some o := by rw [upd_ne (ne_of_none h hp)]; exact h
theorem updNe {H : Hp} {a p : Addr} {o u : HO} (h : H a = some o) (hp : a ≠ p) : upd H p u a = some o := by rw [upd_ne hp]; exact h
theorem updFree {H : Hp} {p q : Addr} {o : HO} (h : upd H p o q = none) : H q = none := by
  by_cases e : q = p
  · subst e; rw [upd_same] at h; cases h
  · rw [upd_ne e] at h; exact h
theorem updFreeNe {H : Hp} {p q : Addr} {o : HO} (h : upd H p o q = none) : q ≠ p := fun e => by
  subst e; rw [upd_same] at h; cases h
theorem sameNew {H0 H : Hp} {p : Addr} {o : HO} (s : Same H0 H) (hp : H p = none) : Same H0 (upd H p o) := fun b u e => updOld (s b u e) hp
theorem sameMut {H0 H : Hp} {p : Addr} {o : HO} (s : Same H0 H) (hp : H0 p = none) : Same H0 (upd H p o) := fun b u e => by
  rw [upd_ne (ne_of_none e hp)]; exact s b u e
theorem sameGet {H H' : Hp} {a : Addr} {o : HO} (s : Same H H') (h : H a = some o) : H' a = some o := s a o h
/-! ### places in a list -/
theorem atI_of {xs : List V} {z : Int} {j : Nat} {v : V} (e : z = (j : Int)) (h : xs[j]? = some v) : atI xs z = some v := at_of e h
theorem mapGet {α : Type} {f : α → V} {xs : List α} {i : Nat} {v : V} (h : (xs.map f)[i]? = some v) : ∃ x, xs[i]? = some x ∧ v = f x := by
  rw [List.getElem?_map] at h
  cases e : xs[i]? with
  | none => rw [e] at h; cases h
  | some x => rw [e] at h; exact ⟨x, rfl, (Option.some.inj h).symm⟩
theorem getMap {α : Type} {f : α → V} {xs : List α} {i : Nat} {x : α} (h : xs[i]? = some x) : (xs.map f)[i]? = some (f x) := by
  rw [List.getElem?_map, h]; rfl
theorem atMap {α : Type} {f : α → V} {xs : List α} (d : α) {z : Int} (h0 : 0 ≤ z) (h1 : z < xs.length) : atI (xs.map f) z = some (f (xs.getD z.toNat d)) := by
  obtain ⟨x, hx⟩ : ∃ x, xs[z.toNat]? = some x := ⟨xs[z.toNat]'(by omega), List.getElem?_eq_getElem (by omega)⟩
  have e : xs.getD z.toNat d = x := by rw [List.getD_eq_getElem?_getD, hx]; rfl
  rw [e]
  exact at_of (j := z.toNat) (by omega) (getMap hx)
theorem atInt {xs : List Int} {z : Int} (h0 : 0 ≤ z) (h1 : z < xs.length) : atI (xs.map V.int) z = some (V.int (xs.getD z.toNat 0)) := atMap 0 h0 h1
theorem takeMore {α : Type} : ∀ {l : List α} {i : Nat} {x : α}, l[i]? = some x → l.take (i + 1) = l.take i ++ [x]
  | [], i, x, h => by simp at h
  | a :: l, 0, x, h => by
    have e : a = x := Option.some.inj h
    subst e; rfl
  | a :: l, i + 1, x, h => by
    have ih := takeMore (l := l) (i := i) (x := x) h
    show a :: l.take (i + 1) = a :: l.take i ++ [x]
    rw [ih]; rfl
theorem szLe {n : Nat} (h : n ≤ 100000) : n ≤ sizeLine := Nat.le_trans h (by decide)
theorem szLt {n : Nat} (h : n < 100000) : n < sizeLine := Nat.lt_of_lt_of_le h (by decide)
theorem getLt {α : Type} {xs : List α} {i : Nat} {x : α} (h : xs[i]? = some x) : i < xs.length := (List.getElem?_eq_some_iff.mp h).1
theorem getOf {α : Type} {xs : List α} {i : Nat} (h : i < xs.length) : ∃ x, xs[i]? = some x := ⟨xs[i], List.getElem?_eq_getElem h⟩
/-! ### a def of the text that holds its promise -/
def OkF (P : Program) (w : World) (K : PySem.W.Frag) (mg : Str → Option Value) (base : Heap) (CX : CXT) (k : Nat) (f : Addr) (ps : List Str) (sp : Sp) : Prop :=
  ∃ fd : FuncData, FnOk P w K mg base CX k f fd ps sp ∧ Binds K fd ps [] ∧ PySem.W.keepIn K (.ref f) = true
end Pw
namespace Pw
/-! ### the wall's class -/
structure TW (K : PySem.W.Frag) : Prop where
  cl : Cls K (He.ga K "Wall")
  nb : NoAttr K (He.ga K "Wall") "boxes"
  ni : NoAttr K (He.ga K "Wall") "inside"
  np : NoAttr K (He.ga K "Wall") "parcels"
  nt : NoAttr K (He.ga K "Wall") "today"
end Pw
namespace Pw
/-! ### loops behind a word that does not open by itself -/
@[irreducible] def ForG (J : It) (g : TG) (tb : TS) (D : Ends) (σ : L2.St) (H1 : Hp) : Prop := ∃ W : Nat → Nat → L2.St → Hp → Prop, (∃ m, W 0 m σ H1) ∧ ∀ i m σ H, W i m σ H →
  (J.stop i H ∧ D.nx σ H) ∨ (J.go i H ∧ ∃ N : L2.St → Hp → Prop, (∀ σ' H', N σ' H' → ∃ m', m' < m ∧ W (i + 1) m' σ' H') ∧ ∀ x H', J.yld i H x H' → g x σ H' fun σ2 H2 => tb { D with nx := N, ct := N, bk := D.nx } σ2 H2)
def tForP (wi : TI) (g : TG) (tb : TS) : TS := fun D σ H => wi σ H fun J H1 => ForG J g tb D σ H1
theorem tForP_eq (wi : TI) (g : TG) (tb : TS) : tForP wi g tb = tFor wi g tb := by
  funext D σ H
  unfold tForP tFor ForG
  rfl
theorem ps_forP {X : Cx} {tg iter : Expr} {body : List Stmt} {wi : TI} {g : TG} {tb : TS} {pos : Pos} (hp : PassesOwn (model X.prog X.w) X.A X.env X.xe) (hc : X.calm = true) (hi : PI X tg iter wi) (hg : PG X tg g) (hb : PSs X body tb)
    (hs : ∀ x, foldedSetIterable iter X.env x = pure x := by intro _; rfl) : PS X (.For tg iter body [] pos) (tForP wi g tb) := by
  rw [tForP_eq]
  exact ps_for hp hc hi hg hb hs
@[irreducible] def WhileG (tc : TT) (tb : TS) (D : Ends) (σ : L2.St) (H : Hp) : Prop := tWhile tc tb D σ H
def tWhileP (tc : TT) (tb : TS) : TS := fun D σ H => WhileG tc tb D σ H
theorem tWhileP_eq (tc : TT) (tb : TS) : tWhileP tc tb = tWhile tc tb := by
  funext D σ H
  unfold tWhileP WhileG
  rfl
theorem ps_whileP {X : Cx} {pos : Pos} {c : Expr} {body : List Stmt} {tc : TT} {tb : TS} (hp : PassesOwn (model X.prog X.w) X.A X.env X.xe) (hc : PT X c tc) (hb : PSs X body tb) : PS X (.While c body [] pos) (tWhileP tc tb) := by
  rw [tWhileP_eq]
  exact ps_while hp hc hb
section
variable {K : PySem.W.Frag} {g : TG} {tb : TS} {D : Ends} {σ : L2.St} {H : Hp}
theorem forList {a : Addr} {xs : List V} (Pv : Nat → L2.St → Hp → Prop) (h0 : Pv 0 σ H) (hl : ∀ i σ H, i ≤ xs.length → Pv i σ H → SqL K H a xs)
    (hs : ∀ i x σ H, xs[i]? = some x → Pv i σ H → g x σ H fun σ2 H2 => tb { D with nx := Pv (i + 1), ct := Pv (i + 1), bk := D.nx } σ2 H2) (hd : ∀ σ H, Pv xs.length σ H → D.nx σ H) : ForG (Itl K a) g tb D σ H := by
  unfold ForG
  exact for_list Pv h0 hl hs hd
theorem forTup {a : Addr} {xs : List V} (Pv : Nat → L2.St → Hp → Prop) (h0 : Pv 0 σ H) (hl : ∀ i σ H, i ≤ xs.length → Pv i σ H → SqT K H a xs)
    (hs : ∀ i x σ H, xs[i]? = some x → Pv i σ H → g x σ H fun σ2 H2 => tb { D with nx := Pv (i + 1), ct := Pv (i + 1), bk := D.nx } σ2 H2) (hd : ∀ σ H, Pv xs.length σ H → D.nx σ H) : ForG (Itt K a) g tb D σ H := by
  unfold ForG
  exact for_tup Pv h0 hl hs hd
theorem forRange {lo : Int} {n : Nat} (Pv : Nat → L2.St → Hp → Prop) (h0 : Pv 0 σ H)
    (hs : ∀ i σ H, i < n → Pv i σ H → g (.int (lo + i)) σ H fun σ2 H2 => tb { D with nx := Pv (i + 1), ct := Pv (i + 1), bk := D.nx } σ2 H2) (hd : ∀ σ H, Pv n σ H → D.nx σ H) : ForG (Itr lo n) g tb D σ H := by
  unfold ForG
  exact for_range Pv h0 hs hd
end
/-! ### comprehensions whose elements are known values -/
section
variable {K : PySem.W.Frag} {tt : TT} {te : TE} {vs : List Nat} {j : Nat} {σ : L2.St} {H1 : Hp} {D : Addr} {Qd : Hp → Prop}
theorem filterTake {α β : Type} {ns : List α} {p : α → Bool} {f : α → β} {i : Nat} {n : α} (h : ns[i]? = some n) : ((ns.take (i + 1)).filter p).map f = ((ns.take i).filter p).map f ++ (if p n = true then [f n] else []) := by
  rw [takeMore h, List.filter_append, List.map_append]
  congr 1
  by_cases c : p n = true
  · rw [if_pos c]; simp [c]
  · rw [if_neg c]; simp [c]
/-- [f(n) for n in ns if p(n)] -/
theorem lcMap {α : Type} {inj : α → V} {a : Addr} {ns : List α} (p : α → Bool) (f : α → V) (hD : H1 D = none) (hx : SqL K H1 a (ns.map inj)) (hlen : ns.length ≤ 50000) (hw : ∀ x, wipe ((wipe σ vs).set j (some x)) vs = wipe σ vs)
    (ht : ∀ (i : Nat) (n : α) H', ns[i]? = some n → Same H1 H' → ∀ T : Bool → Hp → Prop, (∀ H'', Same H' H'' → T (p n) H'') → tt ((wipe σ vs).set j (some (inj n))) H' T)
    (he : ∀ (i : Nat) (n : α) H', ns[i]? = some n → p n = true → Same H1 H' → ∀ Qv : VK, (∀ H'', Same H' H'' → Qv (f n) H'') → te ((wipe σ vs).set j (some (inj n))) H' Qv)
    (hd : ∀ H', Same H1 H' → H' D = some (.lst ((ns.filter p).map f)) → Qd H') :
    ∃ W : Nat → Nat → Hp → Prop, (∃ m, W 0 m (upd H1 D (.lst []))) ∧ ∀ i m H, W i m H →
      ((Itl K a).stop i H ∧ Qd H) ∨ ((Itl K a).go i H ∧ ∃ Nx : Hp → Prop, (∀ H', Nx H' → ∃ m', m' < m ∧ W (i + 1) m' H') ∧ ∀ x H', (Itl K a).yld i H x H' → gName j x (wipe σ vs) H' fun σ2 H2 => wipe σ2 vs = wipe σ vs ∧ tt σ2 H2 fun b H3 =>
        if b = true then te σ2 H3 fun y H4 => ∃ acc, H4 D = some (.lst acc) ∧ acc.length < sizeLine ∧ Nx (upd H4 D (.lst (acc ++ [y]))) else Nx H3) := by
  refine lc_list (K := K) (a := a) (xs := ns.map inj) (fun i H' => Same H1 H' ∧ H' D = some (.lst (((ns.take i).filter p).map f))) ⟨sameNew (Same.refl _) hD, upd_same⟩ (fun i H' _ q => q.1.seq hx) ?_ ?_
  · rintro i x H' hi ⟨s, hD'⟩
    obtain ⟨n, hn, rfl⟩ := mapGet hi
    refine ⟨hw _, ?_⟩
    refine ht i n H' hn s _ fun H3 s3 => ?_
    have e := filterTake (p := p) (f := f) hn
    refine ifB (fun c => ?_) (fun c => ?_)
    · refine he i n H3 hn c (s.trans s3) _ fun H4 s4 => ?_
      rw [if_pos c] at e
      refine ⟨_, s4 _ _ (s3 _ _ hD'), ?_, sameMut (s.trans (s3.trans s4)) hD, ?_⟩
      · have q1 : (((ns.take i).filter p).map f).length ≤ ns.length := by
          rw [List.length_map]
          exact Nat.le_trans (List.length_filter_le _ _) (by rw [List.length_take]; omega)
        exact szLt (by omega)
      · rw [e]; exact upd_same
    · rw [if_neg (by rw [c]; exact Bool.false_ne_true), List.append_nil] at e
      refine ⟨s.trans s3, ?_⟩
      rw [e]; exact s3 _ _ hD'
  · rintro H' ⟨s, hD'⟩
    rw [List.length_map, List.take_length] at hD'
    exact hd H' s hD'
/-- [f(i) for i in range(n) if p(i)] -/
theorem lcRng {lo : Int} {n : Nat} (p : Nat → Bool) (f : Nat → V) (hD : H1 D = none) (hlen : n ≤ 50000) (hw : ∀ x, wipe ((wipe σ vs).set j (some x)) vs = wipe σ vs)
    (ht : ∀ (i : Nat) H', i < n → Same H1 H' → ∀ T : Bool → Hp → Prop, (∀ H'', Same H' H'' → T (p i) H'') → tt ((wipe σ vs).set j (some (.int (lo + i)))) H' T)
    (he : ∀ (i : Nat) H', i < n → p i = true → Same H1 H' → ∀ Qv : VK, (∀ H'', Same H' H'' → Qv (f i) H'') → te ((wipe σ vs).set j (some (.int (lo + i)))) H' Qv)
    (hd : ∀ H', Same H1 H' → H' D = some (.lst (((List.range n).filter p).map f)) → Qd H') :
    ∃ W : Nat → Nat → Hp → Prop, (∃ m, W 0 m (upd H1 D (.lst []))) ∧ ∀ i m H, W i m H →
      ((Itr lo n).stop i H ∧ Qd H) ∨ ((Itr lo n).go i H ∧ ∃ Nx : Hp → Prop, (∀ H', Nx H' → ∃ m', m' < m ∧ W (i + 1) m' H') ∧ ∀ x H', (Itr lo n).yld i H x H' → gName j x (wipe σ vs) H' fun σ2 H2 => wipe σ2 vs = wipe σ vs ∧ tt σ2 H2 fun b H3 =>
        if b = true then te σ2 H3 fun y H4 => ∃ acc, H4 D = some (.lst acc) ∧ acc.length < sizeLine ∧ Nx (upd H4 D (.lst (acc ++ [y]))) else Nx H3) := by
  refine lc_range (lo := lo) (n := n) (fun i H' => Same H1 H' ∧ H' D = some (.lst (((List.range i).filter p).map f))) ⟨sameNew (Same.refl _) hD, upd_same⟩ ?_ ?_
  · rintro i H' hi ⟨s, hD'⟩
    refine ⟨hw _, ?_⟩
    refine ht i H' hi s _ fun H3 s3 => ?_
    have e : ((List.range (i + 1)).filter p).map f = ((List.range i).filter p).map f ++ (if p i = true then [f i] else []) := by
      rw [List.range_succ, List.filter_append, List.map_append]
      congr 1
      by_cases c : p i = true
      · rw [if_pos c]; simp [c]
      · rw [if_neg c]; simp [c]
    refine ifB (fun c => ?_) (fun c => ?_)
    · refine he i H3 hi c (s.trans s3) _ fun H4 s4 => ?_
      rw [if_pos c] at e
      refine ⟨_, s4 _ _ (s3 _ _ hD'), ?_, sameMut (s.trans (s3.trans s4)) hD, ?_⟩
      · have q1 : (((List.range i).filter p).map f).length ≤ i := by
          rw [List.length_map]
          exact Nat.le_trans (List.length_filter_le _ _) (by rw [List.length_range]; omega)
        exact szLt (by omega)
      · rw [e]; exact upd_same
    · rw [if_neg (by rw [c]; exact Bool.false_ne_true), List.append_nil] at e
      refine ⟨s.trans s3, ?_⟩
      rw [e]; exact s3 _ _ hD'
  · rintro H' ⟨s, hD'⟩
    exact hd H' s hD'
end
theorem filterAll {α : Type} (l : List α) : l.filter (fun _ => true) = l := by simp
/-- a new list is handed back -/
def RetNew (H : Hp) (Q : VK) (xs : List V) : Prop := ∀ H' p, Same H H' → H p = none → H' p = some (.lst xs) → Q (.ref p) H'
theorem RetNew.go {H H1 H' : Hp} {Q : VK} {xs : List V} {p : Addr} (k : RetNew H Q xs) (s : Same H H1) (s1 : Same H1 H') (hp : H1 p = none) (h : H' p = some (.lst xs)) : Q (.ref p) H' := k H' p (s.trans s1) (s.free hp) h
/-! ### the wall in the heap -/
def wf (l1 l2 l3 : Addr) (d : Int) : List (Str × V) := [("boxes", .ref l1), ("inside", .ref l2), ("parcels", .ref l3), ("today", .int d)]
theorem lk_here {k : Str} {v : V} {r : List (Str × V)} : List.lookup k ((k, v) :: r) = some v := by
  have e : (k == k) = true := beq_self_eq_true k
  simp only [List.lookup, e]
theorem lk_past {k g : Str} {v : V} {r : List (Str × V)} (h : (k == g) = false) : List.lookup k ((g, v) :: r) = List.lookup k r := by
  simp only [List.lookup, h]
theorem put_here {f : Str} {v x : V} {r : List (Str × V)} : putF f v ((f, x) :: r) = (f, v) :: r := if_pos rfl
theorem put_past {f g : Str} {v x : V} {r : List (Str × V)} (h : ¬ g = f) : putF f v ((g, x) :: r) = (g, x) :: putF f v r := if_neg h
section
variable {l1 l2 l3 : Addr} {d y : Int}
theorem wf_boxes : (wf l1 l2 l3 d).lookup ("boxes" : Str) = some (.ref l1) := lk_here
theorem wf_inside : (wf l1 l2 l3 d).lookup ("inside" : Str) = some (.ref l2) := (lk_past (by decide +kernel)).trans lk_here
theorem wf_parcels : (wf l1 l2 l3 d).lookup ("parcels" : Str) = some (.ref l3) := (lk_past (by decide +kernel)).trans ((lk_past (by decide +kernel)).trans lk_here)
theorem wf_today : (wf l1 l2 l3 d).lookup ("today" : Str) = some (.int d) := (lk_past (by decide +kernel)).trans ((lk_past (by decide +kernel)).trans ((lk_past (by decide +kernel)).trans lk_here))
theorem wf_none {m : Str} (h1 : (m == ("boxes" : Str)) = false) (h2 : (m == ("inside" : Str)) = false) (h3 : (m == ("parcels" : Str)) = false) (h4 : (m == ("today" : Str)) = false) : (wf l1 l2 l3 d).lookup m = none :=
  (lk_past h1).trans ((lk_past h2).trans ((lk_past h3).trans ((lk_past h4).trans rfl)))
theorem wf_sizes : (wf l1 l2 l3 d).lookup ("sizes" : Str) = none := wf_none (by decide +kernel) (by decide +kernel) (by decide +kernel) (by decide +kernel)
theorem wf_held : (wf l1 l2 l3 d).lookup ("held" : Str) = none := wf_none (by decide +kernel) (by decide +kernel) (by decide +kernel) (by decide +kernel)
theorem wf_day : (wf l1 l2 l3 d).lookup ("day" : Str) = none := wf_none (by decide +kernel) (by decide +kernel) (by decide +kernel) (by decide +kernel)
theorem wf_free : (wf l1 l2 l3 d).lookup ("free" : Str) = none := wf_none (by decide +kernel) (by decide +kernel) (by decide +kernel) (by decide +kernel)
theorem wf_see : (wf l1 l2 l3 d).lookup ("see" : Str) = none := wf_none (by decide +kernel) (by decide +kernel) (by decide +kernel) (by decide +kernel)
theorem wf_size_of : (wf l1 l2 l3 d).lookup ("size_of" : Str) = none := wf_none (by decide +kernel) (by decide +kernel) (by decide +kernel) (by decide +kernel)
theorem wf_left : (wf l1 l2 l3 d).lookup ("left" : Str) = none := wf_none (by decide +kernel) (by decide +kernel) (by decide +kernel) (by decide +kernel)
theorem wf_come : (wf l1 l2 l3 d).lookup ("come" : Str) = none := wf_none (by decide +kernel) (by decide +kernel) (by decide +kernel) (by decide +kernel)
theorem wf_fetch : (wf l1 l2 l3 d).lookup ("fetch" : Str) = none := wf_none (by decide +kernel) (by decide +kernel) (by decide +kernel) (by decide +kernel)
theorem wf_night : (wf l1 l2 l3 d).lookup ("night" : Str) = none := wf_none (by decide +kernel) (by decide +kernel) (by decide +kernel) (by decide +kernel)
theorem wf_move : (wf l1 l2 l3 d).lookup ("move" : Str) = none := wf_none (by decide +kernel) (by decide +kernel) (by decide +kernel) (by decide +kernel)
theorem wf_put : putF "today" (.int y) (wf l1 l2 l3 d) = wf l1 l2 l3 y := (put_past (by decide +kernel)).trans (congrArg _ ((put_past (by decide +kernel)).trans (congrArg _ ((put_past (by decide +kernel)).trans (congrArg _ put_here)))))
theorem wf_new : putF "today" (.int d) (putF "parcels" (.ref l3) (putF "inside" (.ref l2) (putF "boxes" (.ref l1) []))) = wf l1 l2 l3 d := by
  have e1 : putF "boxes" (.ref l1) [] = [(("boxes" : Str), V.ref l1)] := rfl
  have e2 : putF "inside" (.ref l2) [(("boxes" : Str), V.ref l1)] = [(("boxes" : Str), V.ref l1), ("inside", .ref l2)] := (put_past (by decide +kernel)).trans rfl
  have e3 : putF "parcels" (.ref l3) [(("boxes" : Str), V.ref l1), ("inside", .ref l2)] = [(("boxes" : Str), V.ref l1), ("inside", .ref l2), ("parcels", .ref l3)] := (put_past (by decide +kernel)).trans (congrArg _ ((put_past (by decide +kernel)).trans rfl))
  have e4 : putF "today" (.int d) [(("boxes" : Str), V.ref l1), ("inside", .ref l2), ("parcels", .ref l3)] = [(("boxes" : Str), V.ref l1), ("inside", .ref l2), ("parcels", .ref l3), ("today", .int d)] := (put_past (by decide +kernel)).trans (congrArg _ ((put_past (by decide +kernel)).trans (congrArg _ ((put_past (by decide +kernel)).trans rfl))))
  rw [e1, e2, e3, e4]; rfl
end
def optV : Option Nat → V
  | none => .non
  | some n => .int n
structure WS where
  w : Addr
  dx : Addr
  l1 : Addr
  l2 : Addr
  l3 : Addr
  sizes : List Int
  inside : List (Option Nat)
  parcels : List (Int × Int)
  today : Int
/-- a wall stands at s.w -/
structure WallAt (K : PySem.W.Frag) (H : Hp) (s : WS) : Prop where
  ob : H s.w = some (.ins (He.ga K "Wall") s.dx (wf s.l1 s.l2 s.l3 s.today))
  bx : H s.l1 = some (.lst (s.sizes.map V.int))
  is : H s.l2 = some (.lst (s.inside.map optV))
  ps : ∃ ts : List Addr, H s.l3 = some (.lst (ts.map V.ref)) ∧ ts.length = s.parcels.length ∧ ∀ (j : Nat) (t : Addr), ts[j]? = some t → H t = some (.tup [.int (s.parcels.getD j (0, 0)).1, .int (s.parcels.getD j (0, 0)).2])
  n12 : s.l1 ≠ s.l2
  n13 : s.l1 ≠ s.l3
  n23 : s.l2 ≠ s.l3
  len : s.inside.length = s.sizes.length
  l8 : s.sizes.length ≤ 8
  pl : s.parcels.length ≤ 1000
  nb : ∀ (j n : Nat), s.inside[j]? = some (some n) → n < s.parcels.length
theorem WallAt.mono {K : PySem.W.Frag} {H H' : Hp} {s : WS} (h : WallAt K H s) (e : Same H H') : WallAt K H' s :=
  ⟨e _ _ h.ob, e _ _ h.bx, e _ _ h.is, let ⟨ts, h1, h2, h3⟩ := h.ps; ⟨ts, e _ _ h1, h2, fun j t q => e _ _ (h3 j t q)⟩, h.n12, h.n13, h.n23, h.len, h.l8, h.pl, h.nb⟩
/-- all but the wall's own changing parts stands as it was -/
def Frm (s : WS) (H H' : Hp) : Prop := ∀ b o, H b = some o → b ≠ s.w → b ≠ s.l2 → b ≠ s.l3 → H' b = some o
/-- lists of sizes that make a wall; parcels' sizes -/
def OkW (ns : List Int) : Prop := 1 ≤ ns.length ∧ ns.length ≤ 8 ∧ ∀ x ∈ ns, 1 ≤ x ∧ x ≤ 9
def OkP (ns : List Int) : Prop := ∀ x ∈ ns, 1 ≤ x ∧ x ≤ 9
end Pw
namespace Pw
theorem putL {f : Str} {v : V} : ∀ {fs : List (Str × V)} {n : Nat}, fs.length ≤ n → (putF f v fs).length ≤ n + 1
  | [], n, h => by show 1 ≤ n + 1; omega
  | (g, x) :: r, n, h => by
    show (if g = f then (g, v) :: r else (g, x) :: putF f v r).length ≤ n + 1
    have h : r.length + 1 ≤ n := h
    by_cases c : g = f
    · rw [if_pos c]; show r.length + 1 ≤ n + 1; omega
    · rw [if_neg c]
      have ih := putL (f := f) (v := v) (fs := r) (n := n - 1) (by omega)
      show (putF f v r).length + 1 ≤ n + 1
      omega
theorem putL0 {f : Str} {v : V} : (putF f v []).length < 1000 := Nat.lt_of_le_of_lt (putL (Nat.le_refl 0)) (by decide)
theorem putL1 {f g : Str} {v u : V} : (putF f v (putF g u [])).length < 1000 := Nat.lt_of_le_of_lt (putL (putL (Nat.le_refl 0))) (by decide)
theorem putL2 {f g k : Str} {v u w : V} : (putF f v (putF g u (putF k w []))).length < 1000 := Nat.lt_of_le_of_lt (putL (putL (putL (Nat.le_refl 0)))) (by decide)
theorem wfL {l1 l2 l3 : Addr} {d : Int} : (wf l1 l2 l3 d).length < 1000 := by show 4 < 1000; decide
end Pw
namespace Pw
section
variable {K : PySem.W.Frag}
theorem kit_ii : PySem.W.kitOne K (.type "int") (.type "int") = some true := kit_ty (by decide +kernel)
theorem kit_ib : PySem.W.kitOne K (.type "int") (.type "bool") = some false := kit_ty (by decide +kernel)
theorem kit_il : PySem.W.kitOne K (.type "int") (.type "list") = some false := kit_ty (by decide +kernel)
theorem kit_is : PySem.W.kitOne K (.type "int") (.type "str") = some false := kit_ty (by decide +kernel)
theorem kit_ll : PySem.W.kitOne K (.type "list") (.type "list") = some true := kit_ty (by decide +kernel)
theorem kit_ls : PySem.W.kitOne K (.type "list") (.type "str") = some false := kit_ty (by decide +kernel)
theorem kit_ss : PySem.W.kitOne K (.type "str") (.type "str") = some true := kit_ty (by decide +kernel)
theorem kit_sl : PySem.W.kitOne K (.type "str") (.type "list") = some false := kit_ty (by decide +kernel)
theorem kit_tt : PySem.W.kitOne K (.type "tuple") (.type "tuple") = some true := kit_ty (by decide +kernel)
theorem kit_ns : PySem.W.kitOne K (.type "NoneType") (.type "str") = some false := kit_ty (by decide +kernel)
theorem kit_nl : PySem.W.kitOne K (.type "NoneType") (.type "list") = some false := kit_ty (by decide +kernel)
end
end Pw
namespace Pw
theorem leI {a b : Int} (h : a ≤ b) : a ≤ b := h
theorem ltI {a b : Int} (h : a < b) : a < b := h
theorem leN {a b : Nat} (h : a ≤ b) : a ≤ b := h
theorem ltN {a b : Nat} (h : a < b) : a < b := h
end Pw
namespace Pw
/-- a word at which the walk stops -/
structure Stop (P : Prop) : Prop where
  out : P
theorem insInt {xs : List Int} {n : Nat} {v : Int} : (xs.map V.int).take n ++ [V.int v] ++ (xs.map V.int).drop n = (xs.take n ++ [v] ++ xs.drop n).map V.int := by
  simp
theorem setInt {xs : List Int} {n : Nat} {v : Int} : (xs.map V.int).set n (V.int v) = (xs.set n v).map V.int := by
  rw [List.map_set]
theorem appInt {xs : List Int} {v : Int} : xs.map V.int ++ [V.int v] = (xs ++ [v]).map V.int := by
  simp
theorem getDlt {xs : List Int} {i : Nat} (hi : i < xs.length) : xs.getD i 0 = xs[i] := by rw [List.getD_eq_getElem?_getD, List.getElem?_eq_getElem hi]; rfl
theorem okGet {xs : List Int} (h : OkP xs) {i : Nat} (hi : i < xs.length) : 1 ≤ xs.getD i 0 ∧ xs.getD i 0 ≤ 9 := by
  rw [getDlt hi]
  exact h _ (List.getElem_mem hi)
theorem okSnoc {xs : List Int} {v : Int} (h : OkP xs) (h1 : 1 ≤ v ∧ v ≤ 9) : OkP (xs ++ [v]) := fun x hx => by
  rcases List.mem_append.mp hx with q | q
  · exact h x q
  · rw [List.mem_singleton.mp q]; exact h1
theorem okIns {xs : List Int} {v : Int} {n : Nat} (h : OkP xs) (h1 : 1 ≤ v ∧ v ≤ 9) : OkP (xs.take n ++ [v] ++ xs.drop n) := fun x hx => by
  rcases List.mem_append.mp hx with q | q
  · rcases List.mem_append.mp q with q | q
    · exact h x (List.mem_of_mem_take q)
    · rw [List.mem_singleton.mp q]; exact h1
  · exact h x (List.mem_of_mem_drop q)
theorem okSet {xs : List Int} {v : Int} {n : Nat} (h : OkP xs) (h1 : 1 ≤ v ∧ v ≤ 9) : OkP (xs.set n v) := fun x hx => by
  rcases List.mem_or_eq_of_mem_set hx with q | q
  · exact h x q
  · rw [q]; exact h1
theorem ixN_of {n : Nat} {i : Int} (h0 : 0 ≤ i) (h1 : i < n) : ixN n i = some i.toNat := by
  unfold ixN; rw [if_pos h0, if_pos h1]
end Pw
namespace Pw
/-! ### a statement, then the rest, with a word between them -/
@[irreducible] def CutG (t u : TS) (D : Ends) (σ : L2.St) (H : Hp) : Prop := Evl.tCut t u D σ H
def tCutP (t u : TS) : TS := fun D σ H => CutG t u D σ H
theorem tCutP_eq (t u : TS) : tCutP t u = Evl.tCut t u := by
  funext D σ H
  unfold tCutP CutG
  rfl
theorem pss_cutP {X : Cx} {st : Stmt} {rest : List Stmt} {t u : TS} (h1 : PS X st t) (h2 : PSs X rest u) : PSs X (st :: rest) (tCutP t u) := by
  rw [tCutP_eq]
  exact Evl.pss_cut h1 h2
theorem cut {t u : TS} {D : Ends} {σ : L2.St} {H : Hp} (Mid : L2.St → Hp → Prop) (h1 : t { D with nx := Mid } σ H) (h2 : ∀ σ' H', Mid σ' H' → u D σ' H') : CutG t u D σ H := by
  unfold CutG
  exact ⟨Mid, h1, h2⟩
end Pw
namespace Pw
theorem wallI {K : PySem.W.Frag} {H : Hp} {s : WS} (h : WallAt K H s) : WallAt K H s := h
end Pw
namespace Pw
theorem ifDT {c A B : Prop} [Decidable c] (h : c) (a : A) : if decide c = true then A else B := ifIs (decide_eq_true h) a
theorem ifDF {c A B : Prop} [Decidable c] (h : ¬ c) (b : B) : if decide c = true then A else B := ifNo (decide_eq_false h) b
theorem ifNT {c A B : Prop} [Decidable c] (h : ¬ c) (a : A) : if (!decide c) = true then A else B := ifIs (by rw [decide_eq_false h]; rfl) a
theorem ifNF {c A B : Prop} [Decidable c] (h : c) (b : B) : if (!decide c) = true then A else B := ifNo (by rw [decide_eq_true h]; rfl) b
end Pw
namespace Pw
theorem intEq {a b : Int} (h : a = b) : V.int a = V.int b := congrArg V.int h
theorem intNe {a b : Int} (h : a ≠ b) : ¬ V.int a = V.int b := fun e => h (V.int.inj e)
end Pw
namespace Pw
/-! ### rules at which the walk stops -/
@[irreducible] def rEqDI (K : PySem.W.Frag) : R2 := rEqD K
@[irreducible] def rNeDI (K : PySem.W.Frag) : R2 := rNeD K
@[irreducible] def rSortPO (K : PySem.W.Frag) : List V → Hp → VK → Prop := rSortedPO K
theorem op_eqDI {X : Cx} (hu : X.A.units + 64 < cLine) : OpR X (compareOp .Eq) (rEqDI X.K) := by unfold rEqDI; exact op_eqD hu
theorem op_neDI {X : Cx} (hu : X.A.units + 64 < cLine) : OpR X (compareOp .NotEq) (rNeDI X.K) := by unfold rNeDI; exact op_neD hu
theorem cr_sortPO {X : Cx} : CallR X (.builtin "sorted") (rSortPO X.K) := by unfold rSortPO; exact cr_sortedPO
end Pw
local macro_rules | `(tactic| walk_at "arith") => `(tactic| first | omega | (simp only [List.length_map, List.length_append, List.length_cons, List.length_nil, List.length_take, List.length_replicate, List.length_range, Int.zero_add, Int.toNat_natCast] at *; omega))
local macro_rules | `(tactic| walk_at "same") => `(tactic| first
  | assumption
  | exact Same.refl _
  | (refine Pw.sameNew ?_ ?_; (walk_at "same"); (walk_at "free"))
  | (refine Pw.sameMut ?_ ?_; (walk_at "same"); (walk_at "free"))
  | (refine Same.trans (H1 := ?mid) ?s1 ?s2; (case s2 => assumption); (case s1 => walk_at "same")))
local macro_rules | `(tactic| walk_at "free") => `(tactic| first
  | assumption
  | (refine Pw.updFree (p := ?pp) (o := ?oo) ?f; (case f => assumption))
  | (refine Same.free (H' := ?mid) ?s ?f; (case f => assumption); (case s => walk_at "same")))
local macro_rules | `(tactic| walk_at "ne") => `(tactic| first
  | assumption
  | (apply Ne.symm; assumption)
  | (refine ne_of_none (H := ?hh) (o := ?oo) ?h1 ?h2; (case h2 => assumption); (case h1 => walk_at "heap"))
  | (apply Ne.symm; refine ne_of_none (H := ?hh) ?h1 ?h2; (case h2 => assumption); (case h1 => walk_at "heap")))
local macro_rules | `(tactic| walk_at "heap") => `(tactic| first
  | assumption
  | exact upd_same
  | (refine Pw.updOld (o := ?oo) ?h ?f; (case h => walk_at "heap"); (case f => walk_at "free"))
  | (refine Pw.updNe (o := ?oo) ?h ?n; (case h => walk_at "heap"); (case n => walk_at "ne"))
  | (refine Pw.sameGet (H := ?hh) (o := ?oo) ?s ?h; (case s => assumption); (case h => walk_at "heap")))
local macro_rules | `(tactic| walk_at "sq") => `(tactic| first
  | assumption
  | (refine Same.seq (H := ?hh) (xs := ?xx) ?s ?h; (case h => assumption); (case s => walk_at "same"))
  | (refine SqL.of (xs := ?xx) ?h; (case h => walk_at "heap"))
  | (refine SqT.of (xs := ?xx) ?h; (case h => walk_at "heap")))
local macro_rules | `(tactic| walk_at "wall") => `(tactic| first
  | assumption
  | (refine Pw.WallAt.mono (H := ?hh) ?h ?s; (case h => assumption); (case s => walk_at "same")))
local macro_rules | `(tactic| walk_at "leaf") => `(tactic| first
  | with_reducible rfl
  | with_reducible exact Pw.kit_ii
  | with_reducible exact Pw.kit_ib
  | with_reducible exact Pw.kit_ll
  | with_reducible exact Pw.kit_tt
  | with_reducible exact Pw.kit_ss
  | with_reducible exact Pw.kit_il
  | with_reducible exact Pw.kit_is
  | with_reducible exact Pw.kit_ls
  | with_reducible exact Pw.kit_sl
  | with_reducible exact Pw.kit_ns
  | with_reducible exact Pw.kit_nl
  | with_reducible assumption
  | (with_reducible refine Pw.leI ?_; (first | walk_at "arith" | exact Pw.szLe (by walk_at "arith") | exact Pw.szLt (by walk_at "arith") | decide))
  | (with_reducible refine Pw.ltI ?_; (first | walk_at "arith" | exact Pw.szLe (by walk_at "arith") | exact Pw.szLt (by walk_at "arith") | decide))
  | (with_reducible refine Pw.leN ?_; (first | walk_at "arith" | exact Pw.szLe (by walk_at "arith") | exact Pw.szLt (by walk_at "arith") | decide))
  | (with_reducible refine Pw.ltN ?_; (first | walk_at "arith" | exact Pw.szLe (by walk_at "arith") | exact Pw.szLt (by walk_at "arith") | decide))
  | rfl
  | assumption
  | with_reducible exact Pw.wf_boxes
  | with_reducible exact Pw.wf_inside
  | with_reducible exact Pw.wf_parcels
  | with_reducible exact Pw.wf_today
  | with_reducible exact Pw.wf_sizes
  | with_reducible exact Pw.wf_held
  | with_reducible exact Pw.wf_day
  | with_reducible exact Pw.wf_free
  | with_reducible exact Pw.wf_see
  | with_reducible exact Pw.wf_size_of
  | with_reducible exact Pw.wf_left
  | with_reducible exact Pw.wf_come
  | with_reducible exact Pw.wf_fetch
  | with_reducible exact Pw.wf_night
  | with_reducible exact Pw.wf_move
  | exact ClsV.ty _
  | exact ClsV.own _
  | with_reducible exact TyX.base (TyOf.int _)
  | with_reducible exact TyX.base (TyOf.bl _)
  | with_reducible exact TyX.base (TyOf.str _)
  | with_reducible exact TyX.base TyOf.non
  | (refine TyX.base (TyOf.lst (xs := ?xx) ?q); (case q => walk_at "heap"))
  | (refine TyX.base (TyOf.tup (xs := ?xx) ?q); (case q => walk_at "heap"))
  | with_reducible exact Pw.putL0
  | with_reducible exact Pw.putL1
  | with_reducible exact Pw.putL2
  | with_reducible exact Pw.wfL
  | walk_at "sq"
  | walk_at "heap"
  | walk_at "arith"
  | (with_reducible refine Pw.wallI ?h; (case h => walk_at "wall"))
  | (refine Or.inl ?q; (case q => walk_at "sq"))
  | (refine Or.inr ?q; (case q => walk_at "sq"))
  | (refine Exists.intro ?ww ?q; (case q => walk_at "sq"))
  | (refine Or.inl (And.intro rfl (Exists.intro ?ww ?q)); (case q => walk_at "sq"))
  | (refine Or.inl (And.intro ?r (Exists.intro ?ww ?q)); (case r => rfl); (case q => walk_at "sq"))
  | exact Pw.atInt (by walk_at "arith") (by walk_at "arith")
  | decide)
local macro_rules | `(tactic| walk_at "sure") => `(tactic| first | with_reducible assumption | (with_reducible refine Pw.intEq ?_; walk_at "arith") | (with_reducible refine Pw.intNe ?_; walk_at "arith") | walk_at "arith")
local macro_rules | `(tactic| walk_at "if") => `(tactic| first
  | (with_reducible refine Pw.ifDT ?c ?_; (case c => walk_at "sure"))
  | (with_reducible refine Pw.ifDF ?c ?_; (case c => walk_at "sure"))
  | (with_reducible refine Pw.ifNT ?c ?_; (case c => walk_at "sure"))
  | (with_reducible refine Pw.ifNF ?c ?_; (case c => walk_at "sure")))
local macro_rules | `(tactic| walk_at "go") => `(tactic| repeat (first | apply Exists.intro | (refine And.intro ?l ?_; (case l => walk_at "leaf")) | walk_at "if"))
namespace Pw
/-- what the law draws -/
def drawn (ns : List Int) (k many : Int) : Int :=
  let cell := if 0 < (ns.length : Int) then ns.getD (k.fmod ns.length).toNat 0 else 7
  let s1 := (cell * 48271 + (k + 1) * 7919 + ns.length) % 2147483647
  let s2 := (s1 * s1 + k * 16807 + 11) % 2147483647
  (s2 * 48271 % 2147483647 / 16).fmod many
theorem drawn_in (ns : List Int) (k : Int) {many : Int} (h : 0 < many) : 0 ≤ drawn ns k many ∧ drawn ns k many < many := by
  unfold drawn
  exact ⟨Int.fmod_nonneg_of_pos _ h, Int.fmod_lt_of_pos _ h⟩
def sp_law_drawn (K : PySem.W.Frag) : Sp := fun vs H Q _ => ∃ (a : Addr) (ns : List Int) (k many : Int), vs = [.ref a, .int k, .int many] ∧ SqL K H a (ns.map V.int) ∧ ns.length ≤ 63 ∧ 0 < many ∧
  (0 ≤ drawn ns k many → drawn ns k many < many → Q (.int (drawn ns k many)) H)
theorem len_law_drawn {K : PySem.W.Frag} : ∀ vs H Q E, sp_law_drawn K vs H Q E → vs.length = 3 := by
  rintro vs H Q E ⟨_, _, _, _, rfl, _⟩
  rfl
def t_law_drawn (K : PySem.W.Frag) (E : XK) : TS :=
  tSeq (tAsg (tC (.int 7)) (gName 3))
    (tSeq (tIfS (tTest (tOp rGt (tCB (rLenSeq K) (tCons (tVar 0) tNil)) (tC (.int 0)))) (tAsg (tOp (rIxL K) (tVar 0) (tOp rModN (tVar 1) (tCB (rLenSeq K) (tCons (tVar 0) tNil)))) (gName 3)) (tNext))
    (tSeq (tAsg (tOp rModP (tOp rAddI (tOp rAddI (tOp rMulI (tVar 3) (tC (.int 48271))) (tOp rMulI (tOp rAddI (tVar 1) (tC (.int 1))) (tC (.int 7919)))) (tCB (rLenSeq K) (tCons (tVar 0) tNil))) (tC (.int 2147483647))) (gName 4))
    (tSeq (tAsg (tOp rModP (tOp rAddI (tOp rAddI (tOp rMulI (tVar 4) (tVar 4)) (tOp rMulI (tVar 1) (tC (.int 16807)))) (tC (.int 11))) (tC (.int 2147483647))) (gName 4))
    (tRet (tOp rModN (tOp rDivP (tOp rModP (tOp rMulI (tVar 4) (tC (.int 48271))) (tC (.int 2147483647))) (tC (.int 16))) (tVar 2))))))
theorem pure_law_drawn {K : PySem.W.Frag} (vs : List V) (H : Hp) (Q : VK) (E : XK) (h : sp_law_drawn K vs H Q E) : t_law_drawn K E { nx := fun _ H' => Q .non H', rt := Q } (start ["script", "k", "many", "cell", "stir"] vs) H := by
  obtain ⟨a, ns, k, many, rfl, hS, hl, hm, q⟩ := h
  have hd := drawn_in ns k hm
  have q := q hd.1 hd.2
  have fin : ∀ cell : Int, cell = (if 0 < (ns.length : Int) then ns.getD (k.fmod ns.length).toNat 0 else 7) → ∀ σ : L2.St, σ = [some (.ref a), some (.int k), some (.int many), some (.int cell), none] →
      (tSeq (tAsg (tOp rModP (tOp rAddI (tOp rAddI (tOp rMulI (tVar 3) (tC (.int 48271))) (tOp rMulI (tOp rAddI (tVar 1) (tC (.int 1))) (tC (.int 7919)))) (tCB (rLenSeq K) (tCons (tVar 0) tNil))) (tC (.int 2147483647))) (gName 4))
    (tSeq (tAsg (tOp rModP (tOp rAddI (tOp rAddI (tOp rMulI (tVar 4) (tVar 4)) (tOp rMulI (tVar 1) (tC (.int 16807)))) (tC (.int 11))) (tC (.int 2147483647))) (gName 4))
    (tRet (tOp rModN (tOp rDivP (tOp rModP (tOp rMulI (tVar 4) (tC (.int 48271))) (tC (.int 2147483647))) (tC (.int 16))) (tVar 2))))) { nx := fun _ H' => Q .non H', rt := Q } σ H := by
    intro cell ec σ es
    subst es
    have b1 := Int.emod_nonneg (cell * 48271 + (k + 1) * 7919 + ((ns.map V.int).length : Int)) (show (2147483647 : Int) ≠ 0 by decide)
    have b2 := Int.emod_lt_of_pos (cell * 48271 + (k + 1) * 7919 + ((ns.map V.int).length : Int)) (show (0 : Int) < 2147483647 by decide)
    walk_at "go"
    refine ⟨.inr (by decide), ?_⟩
    walk_at "go"
    refine ⟨.inr (by decide), ?_⟩
    walk_at "go"
    refine ⟨.inl ⟨by omega, by omega⟩, ?_⟩
    walk_at "go"
    refine ⟨.inr (by decide), ?_⟩
    walk_at "go"
    refine ⟨.inr (by decide), ?_⟩
    walk_at "go"
    refine ⟨⟨by decide, by decide⟩, ?_⟩
    walk_at "go"
    have e : drawn ns k many = ((((cell * 48271 + (k + 1) * 7919 + ns.length) % 2147483647 * ((cell * 48271 + (k + 1) * 7919 + ns.length) % 2147483647) + k * 16807 + 11) % 2147483647) * 48271 % 2147483647 / 16).fmod many := by
      unfold drawn; rw [← ec]
    rw [e] at q
    rw [List.length_map]
    exact q
  unfold t_law_drawn
  walk_at "go"
  refine ifD (fun h1 => ?_) (fun h1 => ?_)
  · walk_at "go"
    rw [List.length_map] at h1 ⊢
    have f1 := Int.fmod_nonneg_of_pos k h1
    have f2 := Int.fmod_lt_of_pos k h1
    refine ⟨atInt f1 f2, ?_⟩
    refine fin _ ?_ _ rfl
    rw [if_pos h1]
  · refine fin 7 ?_ _ rfl
    rw [List.length_map] at h1
    rw [if_neg h1]
end Pw
namespace Pw
def sp_law_sizes_by (K : PySem.W.Frag) : Sp := fun vs H Q _ => ∃ (a : Addr) (ns : List Int) (b : Int), vs = [.ref a, .int b] ∧ SqL K H a (ns.map V.int) ∧ ns.length ≤ 63 ∧ ∀ sizes : List Int, OkW sizes → RetNew H Q (sizes.map V.int)
theorem len_law_sizes_by {K : PySem.W.Frag} : ∀ vs H Q E, sp_law_sizes_by K vs H Q E → vs.length = 2 := by
  rintro vs H Q E ⟨_, _, _, rfl, _⟩
  rfl
def t_law_sizes_by (K : PySem.W.Frag) (E : XK) : TS :=
  tSeq (tAsg (tOp rAddI (tC (.int 1)) (tCall (sp_law_drawn K) [] E0 (tCons (tVar 0) (tCons (tVar 1) (tCons (tC (.int 8)) tNil))))) (gName 2))
    (tSeq (tAsg (tOp (rIxL K) (tLst (tCons (tC (.int 3)) (tCons (tC (.int 5)) (tCons (tC (.int 9)) tNil)))) (tCall (sp_law_drawn K) [] E0 (tCons (tVar 0) (tCons (tOp rAddI (tVar 1) (tC (.int 1))) (tCons (tC (.int 3)) tNil))))) (gName 3))
    (tRet (tLc (iRng1 (tCons (tVar 2) tNil)) (gName 4) tYes (tOp rAddI (tC (.int 1)) (tCall (sp_law_drawn K) [] E0 (tCons (tVar 0) (tCons (tOp rAddI (tOp rAddI (tVar 1) (tC (.int 2))) (tVar 4)) (tCons (tVar 3) tNil))))) [4])))
theorem pure_law_sizes_by {K : PySem.W.Frag} (vs : List V) (H : Hp) (Q : VK) (E : XK) (h : sp_law_sizes_by K vs H Q E) : t_law_sizes_by K E { nx := fun _ H' => Q .non H', rt := Q } (start ["script", "base", "many", "top", "k"] vs) H := by
  obtain ⟨a, ns, b, rfl, hS, hl, k⟩ := h
  unfold t_law_sizes_by
  walk_at "go"
  intro d0 d1
  walk_at "go"
  intro p hp
  walk_at "go"
  intro e0 e1
  walk_at "go"
  refine ⟨atInt (xs := [3, 5, 9]) e0 e1, ?_⟩
  have ht : 1 ≤ ([3, 5, 9] : List Int).getD (drawn ns (b + 1) 3).toNat 0 ∧ ([3, 5, 9] : List Int).getD (drawn ns (b + 1) 3).toNat 0 ≤ (9 : Int) := by
    have q : (drawn ns (b + 1) 3).toNat = 0 ∨ (drawn ns (b + 1) 3).toNat = 1 ∨ (drawn ns (b + 1) 3).toNat = 2 := by omega
    rcases q with q | q | q <;> rw [q] <;> decide
  generalize ([3, 5, 9] : List Int).getD (drawn ns (b + 1) 3).toNat 0 = top at ht ⊢
  generalize drawn ns b 8 = many at d0 d1 ⊢
  walk_at "go"
  intro D hD
  have hS1 : SqL K (upd H p (.lst [V.int 3, V.int 5, V.int 9])) a (ns.map V.int) := (sameNew (Same.refl _) hp).seq hS
  refine lcRng (n := (1 + many).toNat) (fun _ => true) (fun i : Nat => V.int (1 + drawn ns (b + 2 + (0 + (i : Int))) top)) hD (by omega) (fun _ => rfl) (fun i H' hi s' TT k' => ?_) (fun i H' hi _ s' Qv k' => ?_) (fun H' s' hD' => ?_)
  · exact k' _ (Same.refl _)
  · walk_at "go"
    intro d2 d3
    walk_at "go"
    exact k' _ (Same.refl _)
  · rw [filterAll] at hD'
    refine k ((List.range (1 + many).toNat).map fun i : Nat => 1 + drawn ns (b + 2 + (0 + (i : Int))) top) ⟨by simp; omega, by simp; omega, ?_⟩ _ D ((sameNew (Same.refl _) hp).trans s') (updFree hD) ?_
    · intro x hx
      obtain ⟨i, _, rfl⟩ := List.mem_map.mp hx
      have := drawn_in ns (b + 2 + (0 + (i : Int))) (many := top) (by omega)
      omega
    · rw [hD', List.map_map]; rfl
end Pw
namespace Pw
def sp_law_parcels_by (K : PySem.W.Frag) : Sp := fun vs H Q _ => ∃ (a b : Addr) (ns sizes : List Int), vs = [.ref a, .ref b] ∧ SqL K H a (ns.map V.int) ∧ ns.length ≤ 63 ∧ SqL K H b (sizes.map V.int) ∧ OkW sizes ∧
  ∀ parcels : List Int, OkP parcels → parcels.length ≤ 12 → RetNew H Q (parcels.map V.int)
theorem len_law_parcels_by {K : PySem.W.Frag} : ∀ vs H Q E, sp_law_parcels_by K vs H Q E → vs.length = 2 := by
  rintro vs H Q E ⟨_, _, _, _, rfl, _⟩
  rfl
def t_law_parcels_by (K : PySem.W.Frag) (E : XK) : TS :=
  tSeq (tIfS (tTest (tOp rEq (tCall (sp_law_drawn K) [] E0 (tCons (tVar 0) (tCons (tC (.int 100)) (tCons (tC (.int 2)) tNil)))) (tC (.int 1)))) (tRet (tLc (iRng1 (tCons (tCall (sp_law_drawn K) [] E0 (tCons (tVar 0) (tCons (tC (.int 101)) (tCons (tC (.int 13)) tNil)))) tNil)) (gName 7) tYes (tOp rAddI (tC (.int 1)) (tCall (sp_law_drawn K) [] E0 (tCons (tVar 0) (tCons (tOp rAddI (tC (.int 110)) (tVar 7)) (tCons (tC (.int 9)) tNil))))) [7])) (tNext))
    (tSeq (tAsg (tLst tNil) (gName 2))
    (tSeq (tForP (iRng1 (tCons (tCB (rLenSeq K) (tCons (tVar 1) tNil)) tNil)) (gName 3) (tIfS (tTest (tOp rGt (tCall (sp_law_drawn K) [] E0 (tCons (tVar 0) (tCons (tOp rAddI (tC (.int 130)) (tVar 3)) (tCons (tC (.int 5)) tNil)))) (tC (.int 0)))) (tSeq (tAsg (tOp rAddI (tC (.int 1)) (tCall (sp_law_drawn K) [] E0 (tCons (tVar 0) (tCons (tOp rAddI (tC (.int 150)) (tVar 3)) (tCons (tOp (rIxL K) (tVar 1) (tVar 3)) tNil))))) (gName 4))
    (tDrop (tBM K "list" rInsert (tVar 2) (tCons (tCall (sp_law_drawn K) [] E0 (tCons (tVar 0) (tCons (tOp rAddI (tC (.int 140)) (tVar 3)) (tCons (tOp rAddI (tCB (rLenSeq K) (tCons (tVar 2) tNil)) (tC (.int 1))) tNil)))) (tCons (tVar 4) tNil))))) (tNext)))
    (tSeq (tAsg (tCall (sp_law_drawn K) [] E0 (tCons (tVar 0) (tCons (tC (.int 102)) (tCons (tC (.int 4)) tNil)))) (gName 5))
    (tCutP (tIfS (tTest (tOp rEq (tVar 5) (tC (.int 1)))) (tDrop (tBM K "list" rAppend (tVar 2) (tCons (tCB (rMax K) (tCons (tVar 1) tNil)) tNil))) (tNext))
    (tCutP (tIfS (tAnd (tTest (tOp rEq (tVar 5) (tC (.int 2)))) (tTest (tOp rGt (tCB (rLenSeq K) (tCons (tVar 2) tNil)) (tC (.int 0))))) (tSeq (tAsg (tCall (sp_law_drawn K) [] E0 (tCons (tVar 0) (tCons (tC (.int 103)) (tCons (tCB (rLenSeq K) (tCons (tVar 2) tNil)) tNil)))) (gName 6))
    (tAsg (tCB rMin2 (tCons (tC (.int 9)) (tCons (tOp rAddI (tOp (rIxL K) (tVar 2) (tVar 6)) (tC (.int 1))) tNil))) (gSub (tVar 2) (tVar 6) rSetL))) (tNext))
    (tRet (tVar 2)))))))
theorem pure_law_parcels_by {K : PySem.W.Frag} (vs : List V) (H : Hp) (Q : VK) (E : XK) (h : sp_law_parcels_by K vs H Q E) : t_law_parcels_by K E { nx := fun _ H' => Q .non H', rt := Q } (start ["script", "sizes", "parcels", "box", "size", "way", "at", "k"] vs) H := by
  obtain ⟨a, b, ns, sizes, rfl, hS, hl, hZ, ok, k⟩ := h
  have okz : OkP sizes := ok.2.2
  have l8 := ok.2.1
  unfold t_law_parcels_by
  walk_at "go"
  intro d0 d1
  walk_at "go"
  refine ifD (fun _ => ?_) (fun _ => ?_)
  · walk_at "go"
    intro e0 e1
    walk_at "go"
    intro D hD
    refine lcRng (n := (drawn ns 101 13).toNat) (fun _ => true) (fun i : Nat => V.int (1 + drawn ns (110 + (0 + (i : Int))) 9)) hD (by omega) (fun _ => rfl) (fun i H' hi s' TT k' => ?_) (fun i H' hi _ s' Qv k' => ?_) (fun H' s' hD' => ?_)
    · exact k' _ (Same.refl _)
    · walk_at "go"
      intro d2 d3
      walk_at "go"
      exact k' _ (Same.refl _)
    · rw [filterAll] at hD'
      refine k ((List.range (drawn ns 101 13).toNat).map fun i : Nat => 1 + drawn ns (110 + (0 + (i : Int))) 9) ?_ (by simp; omega) _ D s' hD ?_
      · intro x hx
        obtain ⟨i, _, rfl⟩ := List.mem_map.mp hx
        have := drawn_in ns (110 + (0 + (i : Int))) (many := 9) (by omega)
        omega
      · rw [hD', List.map_map]; rfl
  · walk_at "go"
    intro l hL
    walk_at "go"
    simp only [List.length_map]
    refine forRange (n := ((sizes.length : Nat) : Int).toNat) (fun i σ H' => Stop (∃ (v3 v4 : Option V) (ps : List Int), σ = [some (.ref a), some (.ref b), some (.ref l), v3, v4, none, none, none] ∧ Same H H' ∧ H' l = some (.lst (ps.map V.int)) ∧ ps.length ≤ i ∧ OkP ps))
      ⟨none, none, [], rfl, sameNew (Same.refl _) hL, upd_same, Nat.zero_le _, by intro x hx; cases hx⟩ ?_ ?_
    · rintro i σ H' hi ⟨v3, v4, ps, rfl, sH, hl', hp, okp⟩
      have hi : i < sizes.length := by omega
      walk_at "go"
      intro e0 e1
      walk_at "go"
      refine ifD (fun _ => ?_) (fun _ => ?_)
      · have e : ((0 : Int) + (i : Int)).toNat = i := by omega
        have ok1 := okGet okz hi
        walk_at "go"
        rw [e]
        intro e2 e3
        walk_at "go"
        intro e4 e5
        simp only [List.length_map] at e4 e5 ⊢
        walk_at "go"
        rw [insInt]
        refine ⟨_, _, _, rfl, sameMut sH hL, upd_same, ?_, okIns okp ⟨by omega, by omega⟩⟩
        simp only [List.length_append, List.length_take, List.length_drop, List.length_cons, List.length_nil]
        omega
      · exact ⟨_, _, ps, rfl, sH, hl', by omega, okp⟩
    · rintro σ H' ⟨v3, v4, ps, rfl, sH, hl', hp, okp⟩
      walk_at "go"
      intro e0 e1
      have hp : ps.length ≤ 8 := by omega
      refine cut (fun σ H2 => Stop (∃ ps2 : List Int, σ = [some (.ref a), some (.ref b), some (.ref l), v3, v4, some (.int (drawn ns 102 4)), none, none] ∧ Same H H2 ∧ H2 l = some (.lst (ps2.map V.int)) ∧ ps2.length ≤ 12 ∧ OkP ps2)) ?_ ?_
      · walk_at "go"
        refine ifD (fun _ => ?_) (fun _ => ?_)
        · walk_at "go"
          refine ⟨ok.1, ?_⟩
          intro m hm hm2
          walk_at "go"
          rw [appInt]
          exact ⟨_, rfl, sameMut sH hL, upd_same, by simp; omega, okSnoc okp (okz m hm)⟩
        · exact ⟨ps, rfl, sH, hl', by omega, okp⟩
      rintro σ H2 ⟨ps2, rfl, s2, h2, l2, o2⟩
      refine cut (fun σ H2 => Stop (∃ (v6 : Option V) (ps2 : List Int), σ = [some (.ref a), some (.ref b), some (.ref l), v3, v4, some (.int (drawn ns 102 4)), v6, none] ∧ Same H H2 ∧ H2 l = some (.lst (ps2.map V.int)) ∧ ps2.length ≤ 12 ∧ OkP ps2)) ?_ ?_
      · walk_at "go"
        refine ifD (fun _ => ?_) (fun _ => ?_)
        · walk_at "go"
          simp only [List.length_map]
          refine ifD (fun c => ?_) (fun c => ?_)
          · walk_at "go"
            simp only [List.length_map]
            intro f0 f1
            have okq := okGet o2 (i := (drawn ns 103 ps2.length).toNat) (by omega)
            walk_at "go"
            refine ⟨ixN_of f0 (by rw [List.length_map]; exact f1), ?_⟩
            rw [setInt]
            refine ⟨_, _, rfl, sameMut s2 hL, upd_same, by rw [List.length_set]; exact l2, okSet o2 ?_⟩
            split <;> omega
          · exact ⟨_, ps2, rfl, s2, h2, l2, o2⟩
        · exact ⟨_, ps2, rfl, s2, h2, l2, o2⟩
      rintro σ H3 ⟨v6, ps3, rfl, s3, h3, l3, o3⟩
      walk_at "go"
      exact k ps3 o3 l3 _ l s3 hL h3
end Pw
namespace Pw
def sp_Wall_sizes (K : PySem.W.Frag) : Sp := fun vs H Q _ => ∃ (s : WS), WallAt K H s ∧ vs = [.ref s.w] ∧ RetNew H Q (s.sizes.map V.int)
theorem len_Wall_sizes {K : PySem.W.Frag} : ∀ vs H Q E, sp_Wall_sizes K vs H Q E → vs.length = 1 := by
  rintro vs H Q E ⟨_, _, rfl, _⟩
  rfl
def t_Wall_sizes (K : PySem.W.Frag) (E : XK) : TS :=
  tRet (tCB (rListOf K) (tCons (tFld K (tVar 0) "boxes") tNil))
theorem pure_Wall_sizes {K : PySem.W.Frag} (T : TW K) (vs : List V) (H : Hp) (Q : VK) (E : XK) (h : sp_Wall_sizes K vs H Q E) : t_Wall_sizes K E { nx := fun _ H' => Q .non H', rt := Q } (start ["self"] vs) H := by
  obtain ⟨s, A, rfl, k⟩ := h
  obtain ⟨tcl, tnb, tni, tnp, tnt⟩ := id T
  have hob := A.ob
  have hbx := A.bx
  unfold t_Wall_sizes
  walk_at "go"
  intro p hp
  exact k _ p (sameNew (Same.refl _) hp) hp upd_same
end Pw
namespace Pw
def sp_is_size (K : PySem.W.Frag) : Sp := fun vs H Q _ => ∃ n : Int, vs = [.int n] ∧ Q (.bl (decide (1 ≤ n ∧ n ≤ 9))) H
theorem len_is_size {K : PySem.W.Frag} : ∀ vs H Q E, sp_is_size K vs H Q E → vs.length = 1 := by
  rintro vs H Q E ⟨_, rfl, _⟩
  rfl
def t_is_size (K : PySem.W.Frag) (E : XK) : TS :=
  tRet (tAndV (tOp rLe (tC (.int 1)) (tVar 0)) (tOp rLe (tVar 0) (tC (.int 9))))
theorem pure_is_size {K : PySem.W.Frag} (vs : List V) (H : Hp) (Q : VK) (E : XK) (h : sp_is_size K vs H Q E) : t_is_size K E { nx := fun _ H' => Q .non H', rt := Q } (start ["number"] vs) H := by
  obtain ⟨n, rfl, k⟩ := h
  unfold t_is_size
  walk_at "go"
  refine ifD (fun h1 => ?_) (fun h1 => ?_)
  · walk_at "go"
    simpa [h1] using k
  · simpa [h1] using k
end Pw
namespace Pw
def sp_see_parcels (K : PySem.W.Frag) : Sp := fun vs H Q E => ∃ (a : Addr) (ns : List Int), vs = [.ref a] ∧ SqL K H a (ns.map V.int) ∧ (OkP ns → Q .non H) ∧ (¬ OkP ns → E (.ref (He.ga K "NoSize")) none H)
theorem len_see_parcels {K : PySem.W.Frag} : ∀ vs H Q E, sp_see_parcels K vs H Q E → vs.length = 1 := by
  rintro vs H Q E ⟨_, _, rfl, _⟩
  rfl
def t_see_parcels (K : PySem.W.Frag) (E : XK) : TS :=
  tForP (iList K (tVar 0)) (gName 1) (tIfS (tNot (tB (tCall (sp_is_size K) [] E0 (tCons (tVar 1) tNil)))) (tRaise E (He.ga K "NoSize")) (tNext))
theorem pure_see_parcels {K : PySem.W.Frag} (vs : List V) (H : Hp) (Q : VK) (E : XK) (h : sp_see_parcels K vs H Q E) : t_see_parcels K E { nx := fun _ H' => Q .non H', rt := Q } (start ["parcels", "size"] vs) H := by
  obtain ⟨a, ns, rfl, hS, k, kE⟩ := h
  unfold t_see_parcels
  walk_at "go"
  refine forList (K := K) (a := a) (xs := ns.map V.int) (fun i σ H' => ∃ v : Option V, σ = [some (.ref a), v] ∧ H' = H ∧ ∀ x ∈ ns.take i, 1 ≤ x ∧ x ≤ 9) ⟨none, rfl, rfl, by simp⟩ ?_ ?_ ?_
  · rintro i σ H' _ ⟨v, _, rfl, _⟩
    exact hS
  · rintro i x σ H' hi ⟨v, rfl, rfl, ha⟩
    obtain ⟨n, hn, rfl⟩ := mapGet hi
    walk_at "go"
    refine ifN (fun c => ?_) (fun c => ?_)
    · refine kE fun o => c (o n (List.mem_of_getElem? hn))
    · walk_at "go"
      intro x hx
      rw [takeMore hn] at hx
      rcases List.mem_append.mp hx with q | q
      · exact ha x q
      · rw [List.mem_singleton.mp q]; exact c
  · rintro σ H' ⟨v, rfl, rfl, ha⟩
    rw [List.length_map, List.take_length] at ha
    exact k ha
end Pw
namespace Pw
def sp_Wall_init (K : PySem.W.Frag) : Sp := fun vs H Q E => ∃ (w dx a : Addr) (ns : List Int), vs = [.ref w, .ref a] ∧ H w = some (.ins (He.ga K "Wall") dx []) ∧ SqL K H a (ns.map V.int) ∧ ns.length ≤ 1000 ∧
  (OkW ns → ∀ H' l1 l2 l3, WallAt K H' ⟨w, dx, l1, l2, l3, ns, List.replicate ns.length none, [], 0⟩ → H l1 = none → H l2 = none → H l3 = none → (∀ b o, H b = some o → b ≠ w → H' b = some o) → Q .non H') ∧
  (¬ OkW ns → E (.ref (He.ga K "NoWall")) none H)
theorem len_Wall_init {K : PySem.W.Frag} : ∀ vs H Q E, sp_Wall_init K vs H Q E → vs.length = 2 := by
  rintro vs H Q E ⟨_, _, _, _, rfl, _⟩
  rfl
def t_Wall_init (K : PySem.W.Frag) (E : XK) : TS :=
  tSeq (tIfS (tOr (tTest (tOp rLt (tCB (rLenSeq K) (tCons (tVar 1) tNil)) (tC (.int 1)))) (tTest (tOp rGt (tCB (rLenSeq K) (tCons (tVar 1) tNil)) (tC (.int 8))))) (tRaise E (He.ga K "NoWall")) (tNext))
    (tSeq (tForP (iList K (tVar 1)) (gName 2) (tIfS (tNot (tB (tCall (sp_is_size K) [] E0 (tCons (tVar 2) tNil)))) (tRaise E (He.ga K "NoWall")) (tNext)))
    (tSeq (sFld K (tVar 0) (tCB (rListOf K) (tCons (tVar 1) tNil)) "boxes")
    (tSeq (sFld K (tVar 0) (tLc (iList K (tVar 1)) (gName 2) tYes (tC .non) [2]) "inside")
    (tSeq (sFld K (tVar 0) (tLst tNil) "parcels")
    (sFld K (tVar 0) (tC (.int 0)) "today")))))
theorem pure_Wall_init {K : PySem.W.Frag} (T : TW K) (vs : List V) (H : Hp) (Q : VK) (E : XK) (h : sp_Wall_init K vs H Q E) : t_Wall_init K E { nx := fun _ H' => Q .non H', rt := Q } (start ["self", "sizes", "size"] vs) H := by
  obtain ⟨w, dx, a, ns, rfl, hw, hS, hl, k, kE⟩ := h
  obtain ⟨tcl, tnb, tni, tnp, tnt⟩ := id T
  unfold t_Wall_init
  walk_at "go"
  simp only [List.length_map]
  refine ifD (fun c => ?_) (fun c => ?_)
  · exact kE fun o => by have := o.1; omega
  walk_at "go"
  simp only [List.length_map]
  refine ifD (fun c2 => ?_) (fun c2 => ?_)
  · exact kE fun o => by have := o.2.1; omega
  walk_at "go"
  refine forList (K := K) (a := a) (xs := ns.map V.int) (fun i σ H' => ∃ v : Option V, σ = [some (.ref w), some (.ref a), v] ∧ H' = H ∧ ∀ x ∈ ns.take i, 1 ≤ x ∧ x ≤ 9) ⟨none, rfl, rfl, by simp⟩ ?_ ?_ ?_
  · rintro i σ H' _ ⟨v, _, rfl, _⟩
    exact hS
  · rintro i x σ H' hi ⟨v, rfl, rfl, ha⟩
    obtain ⟨n, hn, rfl⟩ := mapGet hi
    walk_at "go"
    refine ifN (fun c => ?_) (fun c => ?_)
    · refine kE fun o => c (o.2.2 n (List.mem_of_getElem? hn))
    · walk_at "go"
      intro x hx
      rw [takeMore hn] at hx
      rcases List.mem_append.mp hx with q | q
      · exact ha x q
      · rw [List.mem_singleton.mp q]; exact c
  · rintro σ H' ⟨v, rfl, rfl, ha⟩
    rw [List.length_map, List.take_length] at ha
    have ok : OkW ns := ⟨by omega, by omega, ha⟩
    walk_at "go"
    intro l1 h1
    have n1 : w ≠ l1 := ne_of_none hw h1
    have hS2 : SqL K (upd (upd H' l1 (.lst (ns.map V.int))) w (.ins (He.ga K "Wall") dx (putF "boxes" (.ref l1) []))) a (ns.map V.int) := by
      rcases hS with (q | ⟨o, q⟩) | q
      · refine .inl (.inl ?_)
        rw [upd_ne (ne_of q hw (by intro z; cases z)), upd_ne (ne_of_none q h1)]; exact q
      · refine .inl (.inr ⟨o, ?_⟩)
        rw [upd_ne (ne_of q hw (by intro z; cases z)), upd_ne (ne_of_none q h1)]; exact q
      · exact .inr q
    walk_at "go"
    intro l2 h2
    refine lcMap (fun _ => true) (fun _ => V.non) h2 hS2 (by omega) (fun _ => rfl) (fun i n H3 _ s3 TT k' => ?_) (fun i n H3 _ _ s3 Qv k' => ?_) (fun H3 s3 hD => ?_)
    · exact k' _ (Same.refl _)
    · exact k' _ (Same.refl _)
    rw [filterAll] at hD
    have f1 : H' l2 = none := updFree (updFree h2)
    have n2 : w ≠ l2 := ne_of_none hw f1
    have n12 : l2 ≠ l1 := fun e => by
      rw [e, upd_ne n1.symm, upd_same] at h2
      cases h2
    have hw3 : H3 w = some (.ins (He.ga K "Wall") dx (putF "boxes" (.ref l1) [])) := s3 _ _ upd_same
    have hl1 : H3 l1 = some (.lst (ns.map V.int)) := s3 _ _ (by rw [upd_ne n1.symm]; exact upd_same)
    walk_at "go"
    intro l3 h3
    have h3' : H3 l3 = none := by
      have n : l3 ≠ w := fun e => by rw [e, upd_same] at h3; cases h3
      rw [upd_ne n] at h3; exact h3
    have n3 : w ≠ l3 := ne_of_none hw3 h3'
    have n13 : l1 ≠ l3 := ne_of_none hl1 h3'
    have n23 : l2 ≠ l3 := ne_of_none hD h3'
    walk_at "go"
    have fr3 : H' l3 = none := by
      cases q : H' l3 with
      | none => rfl
      | some o =>
        have := s3 l3 o (by rw [upd_ne n3.symm, upd_ne n13.symm]; exact q)
        rw [h3'] at this; cases this
    refine k ok _ l1 l2 l3 ⟨?_, ?_, ?_, ?_, n12.symm, n13, n23, by simp, ok.2.1, by simp, ?_⟩ h1 f1 fr3 ?_
    · rw [upd_same]
      exact congrArg (fun q => some (HO.ins (He.ga K "Wall") dx q)) wf_new
    · show upd _ w _ l1 = _
      rw [upd_ne n1.symm, upd_ne n1.symm, upd_ne n13, upd_ne n1.symm]; exact hl1
    · show upd _ w _ l2 = _
      rw [upd_ne n2.symm, upd_ne n2.symm, upd_ne n23, upd_ne n2.symm, hD]
      have e : ∀ l : List Int, l.map (fun _ => V.non) = (List.replicate l.length (none : Option Nat)).map optV := fun l => by
        rw [List.map_replicate]
        induction l with
        | nil => rfl
        | cons x r ih => rw [List.map_cons, List.length_cons, List.replicate_succ, ih]; rfl
      rw [e]
    · refine ⟨[], ?_, rfl, fun j t q => by simp at q⟩
      show upd _ w _ l3 = _
      rw [upd_ne n3.symm, upd_ne n3.symm, upd_same]; rfl
    · intro j n q
      have q : (List.replicate ns.length none)[j]? = some (some n) := q
      rw [List.getElem?_replicate] at q
      split at q
      · cases q
      · cases q
    · intro b o e hb
      rw [upd_ne hb, upd_ne hb, upd_ne (fun z => by rw [z, fr3] at e; cases e), upd_ne hb]
      exact s3 b o (by rw [upd_ne hb, upd_ne (fun z => by rw [z, h1] at e; cases e)]; exact e)
end Pw
namespace Pw
/-! ### lists of pairs of ints -/
def pairAt (H : Hp) (v : V) : Int × Int := match v with
  | .ref t => (match H t with
    | some (.tup [.int i, .int j]) => (i, j)
    | _ => (0, 0))
  | _ => (0, 0)
theorem pairAt_of {H : Hp} {t : Addr} {i j : Int} (h : H t = some (.tup [.int i, .int j])) : pairAt H (.ref t) = (i, j) := by
  unfold pairAt
  simp only [h]
def IsPair (H : Hp) (y : V) : Prop := ∃ (t : Addr) (i j : Int), y = V.ref t ∧ H t = some (.tup [.int i, .int j])
theorem IsPair.at_ {H : Hp} {y : V} (h : IsPair H y) : ∃ t, y = V.ref t ∧ H t = some (.tup [.int (pairAt H y).1, .int (pairAt H y).2]) := by
  obtain ⟨t, i, j, rfl, e⟩ := h
  exact ⟨t, rfl, by rw [pairAt_of e]; exact e⟩
theorem IsPair.keep {H H' : Hp} {y : V} (h : IsPair H y) (s : ∀ t i j, H t = some (.tup [.int i, .int j]) → H' t = some (.tup [.int i, .int j])) : IsPair H' y ∧ pairAt H' y = pairAt H y := by
  obtain ⟨t, i, j, rfl, e⟩ := h
  exact ⟨⟨t, i, j, rfl, s _ _ _ e⟩, by rw [pairAt_of e, pairAt_of (s _ _ _ e)]⟩
/-- a list of pairs stands at p -/
structure PairL (H : Hp) (p : Addr) (ps : List (Int × Int)) : Prop where
  ex : ∃ ys : List V, H p = some (.lst ys) ∧ (∀ y ∈ ys, IsPair H y) ∧ ys.map (pairAt H) = ps
theorem mapKeep {H H' : Hp} {ys : List V} (h : ∀ y ∈ ys, IsPair H y) (s : ∀ t i j, H t = some (.tup [.int i, .int j]) → H' t = some (.tup [.int i, .int j])) : (∀ y ∈ ys, IsPair H' y) ∧ ys.map (pairAt H') = ys.map (pairAt H) :=
  ⟨fun y hy => ((h y hy).keep s).1, List.map_congr_left fun y hy => ((h y hy).keep s).2⟩
theorem PairL.mono {H H' : Hp} {p : Addr} {ps : List (Int × Int)} (h : PairL H p ps) (s : Same H H') : PairL H' p ps := by
  obtain ⟨ys, h1, h2, h3⟩ := h.ex
  have q := mapKeep (H' := H') h2 fun t i j e => s _ _ e
  exact ⟨ys, s _ _ h1, q.1, by rw [q.2, h3]⟩
theorem PairL.at_ {H : Hp} {p : Addr} {ps : List (Int × Int)} (h : PairL H p ps) {z : Int} (h0 : 0 ≤ z) (h1 : z < ps.length) :
    ∃ ys t, H p = some (.lst ys) ∧ atI ys z = some (V.ref t) ∧ H t = some (.tup [.int (ps.getD z.toNat (0, 0)).1, .int (ps.getD z.toNat (0, 0)).2]) := by
  obtain ⟨ys, e1, e2, e3⟩ := h.ex
  have hl : ys.length = ps.length := by rw [← e3, List.length_map]
  have hz : z.toNat < ys.length := by omega
  obtain ⟨t, ht, hh⟩ := (e2 ys[z.toNat] (List.getElem_mem hz)).at_
  refine ⟨ys, t, e1, at_of (j := z.toNat) (by omega) (by rw [List.getElem?_eq_getElem hz, ht]), ?_⟩
  have e : ps.getD z.toNat (0, 0) = pairAt H ys[z.toNat] := by
    rw [← e3, List.getD_eq_getElem?_getD, List.getElem?_map, List.getElem?_eq_getElem hz]; rfl
  rw [e]; exact hh
theorem PairL.len {H : Hp} {p : Addr} {ps : List (Int × Int)} (h : PairL H p ps) : ∃ ys, H p = some (.lst ys) ∧ ys.length = ps.length := by
  obtain ⟨ys, e1, _, e3⟩ := h.ex
  exact ⟨ys, e1, by rw [← e3, List.length_map]⟩
theorem PairL.nil {H : Hp} {p : Addr} (h : H p = some (.lst [])) : PairL H p [] := ⟨[], h, fun y hy => (by cases hy), rfl⟩
theorem PairL.snoc {H : Hp} {D t : Addr} {ps : List (Int × Int)} {i j : Int} (h : PairL H D ps) (ht : H t = some (.tup [.int i, .int j])) :
    ∃ ys, H D = some (.lst ys) ∧ ys.length = ps.length ∧ PairL (upd H D (.lst (ys ++ [V.ref t]))) D (ps ++ [(i, j)]) := by
  obtain ⟨ys, e1, e2, e3⟩ := h.ex
  refine ⟨ys, e1, by rw [← e3, List.length_map], ?_⟩
  have s : ∀ (t' : Addr) (i j : Int), H t' = some (.tup [.int i, .int j]) → upd H D (.lst (ys ++ [V.ref t])) t' = some (.tup [.int i, .int j]) := fun t' i j e => by
    rw [upd_ne (ne_of e e1 (by intro q; cases q))]; exact e
  have q := mapKeep (H' := upd H D (.lst (ys ++ [V.ref t]))) e2 s
  refine ⟨ys ++ [V.ref t], upd_same, fun y hy => ?_, ?_⟩
  · rcases List.mem_append.mp hy with z | z
    · exact q.1 y z
    · rw [List.mem_singleton.mp z]; exact ⟨t, i, j, rfl, s _ _ _ ht⟩
  · rw [List.map_append, q.2, e3]
    show ps ++ [pairAt _ (V.ref t)] = _
    rw [pairAt_of (s _ _ _ ht)]
def LexLe (p q : Int × Int) : Prop := p.1 < q.1 ∨ (p.1 = q.1 ∧ p.2 ≤ q.2)
/-- sorted(ps) -/
theorem sortedPairs {K : PySem.W.Frag} {H : Hp} {Q : VK} {a : Addr} {ps : List (Int × Int)} (h : PairL H a ps)
    (k : ∀ (ps' : List (Int × Int)) (p : Addr) (H' : Hp), ps'.Perm ps → ps'.Pairwise LexLe → Same H H' → H p = none → PairL H' p ps' → Q (.ref p) H') : rSortPO K [.ref a] H Q := by
  unfold rSortPO
  obtain ⟨ys, e1, e2, e3⟩ := h.ex
  refine ⟨a, ys, pairAt H, rfl, SqL.of e1, fun x hx => (e2 x hx).at_, fun zs p hs hst hp => ?_⟩
  have hperm : zs.Perm ys := hst.perm
  have s : Same H (upd H p (.lst zs)) := sameNew (Same.refl _) hp
  have hz : ∀ y ∈ zs, IsPair H y := fun y hy => e2 y (hperm.mem_iff.mp hy)
  have q := mapKeep (H' := upd H p (.lst zs)) hz fun t i j e => s _ _ e
  refine k (zs.map (pairAt H)) p _ (by rw [← e3]; exact hperm.map _) ?_ s hp ⟨zs, upd_same, q.1, q.2⟩
  rw [List.pairwise_map]
  refine List.Pairwise.imp (fun {x y} hxy => ?_) hs
  have := SrtO.lexB_no.mp hxy
  unfold LexLe
  omega
section
variable {K : PySem.W.Frag} {tt : TT} {te : TE} {vs : List Nat} {j : Nat} {σ : L2.St} {H1 : Hp} {D : Addr} {Qd : Hp → Prop}
/-- [(f(i), g(i)) for i in range(n) if p(i)] -/
theorem lcPairs {lo : Int} {n : Nat} (p : Nat → Bool) (f g : Nat → Int) (hD : H1 D = none) (hlen : n ≤ 50000) (hw : ∀ x, wipe ((wipe σ vs).set j (some x)) vs = wipe σ vs)
    (ht : ∀ (i : Nat) H', i < n → Same H1 H' → ∀ T : Bool → Hp → Prop, (∀ H'', Same H' H'' → T (p i) H'') → tt ((wipe σ vs).set j (some (.int (lo + i)))) H' T)
    (he : ∀ (i : Nat) H', i < n → p i = true → Same H1 H' → ∀ Qv : VK, (∀ t H'', Same H' H'' → H'' t = some (.tup [.int (f i), .int (g i)]) → Qv (.ref t) H'') → te ((wipe σ vs).set j (some (.int (lo + i)))) H' Qv)
    (hd : ∀ H', Same H1 H' → PairL H' D (((List.range n).filter p).map fun i => (f i, g i)) → Qd H') :
    ∃ W : Nat → Nat → Hp → Prop, (∃ m, W 0 m (upd H1 D (.lst []))) ∧ ∀ i m H, W i m H →
      ((Itr lo n).stop i H ∧ Qd H) ∨ ((Itr lo n).go i H ∧ ∃ Nx : Hp → Prop, (∀ H', Nx H' → ∃ m', m' < m ∧ W (i + 1) m' H') ∧ ∀ x H', (Itr lo n).yld i H x H' → gName j x (wipe σ vs) H' fun σ2 H2 => wipe σ2 vs = wipe σ vs ∧ tt σ2 H2 fun b H3 =>
        if b = true then te σ2 H3 fun y H4 => ∃ acc, H4 D = some (.lst acc) ∧ acc.length < sizeLine ∧ Nx (upd H4 D (.lst (acc ++ [y]))) else Nx H3) := by
  refine lc_range (lo := lo) (n := n) (fun i H' => Same H1 H' ∧ PairL H' D (((List.range i).filter p).map fun i => (f i, g i))) ⟨sameNew (Same.refl _) hD, PairL.nil upd_same⟩ ?_ ?_
  · rintro i H' hi ⟨s, hL⟩
    refine ⟨hw _, ?_⟩
    refine ht i H' hi s _ fun H3 s3 => ?_
    have e : ((List.range (i + 1)).filter p).map (fun i => (f i, g i)) = ((List.range i).filter p).map (fun i => (f i, g i)) ++ (if p i = true then [(f i, g i)] else []) := by
      rw [List.range_succ, List.filter_append, List.map_append]
      congr 1
      by_cases c : p i = true
      · rw [if_pos c]; simp [c]
      · rw [if_neg c]; simp [c]
    refine ifB (fun c => ?_) (fun c => ?_)
    · refine he i H3 hi c (s.trans s3) _ fun t H4 s4 ht4 => ?_
      rw [if_pos c] at e
      obtain ⟨ys, y1, y2, y3⟩ := (hL.mono (s3.trans s4)).snoc ht4
      refine ⟨ys, y1, ?_, sameMut (s.trans (s3.trans s4)) hD, by rw [e]; exact y3⟩
      have q1 : (((List.range i).filter p).map fun i => (f i, g i)).length ≤ i := by
        rw [List.length_map]
        exact Nat.le_trans (List.length_filter_le _ _) (by rw [List.length_range]; omega)
      exact szLt (by omega)
    · rw [if_neg (by rw [c]; exact Bool.false_ne_true), List.append_nil] at e
      exact ⟨s.trans s3, by rw [e]; exact hL.mono s3⟩
  · rintro H' ⟨s, hL⟩
    exact hd H' s hL
end
/-! ### how many are as great -/
def cntGe (xs : List Int) (s : Int) : Nat := (xs.filter fun x => decide (s ≤ x)).length
theorem cntGe_cons (x : Int) (xs : List Int) (s : Int) : cntGe (x :: xs) s = (if s ≤ x then 1 else 0) + cntGe xs s := by
  unfold cntGe
  by_cases h : s ≤ x
  · simp [h]; omega
  · simp [h]
theorem cntGe_perm {xs ys : List Int} (h : xs.Perm ys) (s : Int) : cntGe xs s = cntGe ys s := (h.filter _).length_eq
theorem cntGe_zero {xs : List Int} {s : Int} (h : ∀ y ∈ xs, y < s) : cntGe xs s = 0 := by
  induction xs with
  | nil => rfl
  | cons x r ih =>
    rw [cntGe_cons, if_neg (by have := h x List.mem_cons_self; omega), ih fun y hy => h y (List.mem_cons_of_mem _ hy)]
theorem cntGe_le (xs : List Int) (s : Int) : cntGe xs s ≤ xs.length := List.length_filter_le _ _
theorem cntGe_all {xs : List Int} {s : Int} (h : ∀ y ∈ xs, s ≤ y) : cntGe xs s = xs.length := by
  induction xs with
  | nil => rfl
  | cons x r ih =>
    rw [cntGe_cons, if_pos (h x List.mem_cons_self), ih fun y hy => h y (List.mem_cons_of_mem _ hy), List.length_cons]; omega
/-- in a falling list the first of those as great as s -/
theorem desc_cnt : ∀ {A : List Int} {s : Int}, A.Pairwise (fun x y => y ≤ x) → ∀ (k : Nat) (hk : k < A.length), s ≤ A[k] ↔ k < cntGe A s
  | [], _, _, k, hk => absurd hk (Nat.not_lt_zero _)
  | x :: r, s, h, k, hk => by
    obtain ⟨h1, h2⟩ := List.pairwise_cons.mp h
    rw [cntGe_cons]
    by_cases c : s ≤ x
    · rw [if_pos c]
      cases k with
      | zero => show s ≤ x ↔ _; exact ⟨fun _ => by omega, fun _ => c⟩
      | succ k =>
        have hk' : k < r.length := Nat.lt_of_succ_lt_succ hk
        have ih := desc_cnt (s := s) h2 k hk'
        show s ≤ r[k] ↔ _
        rw [ih]; omega
    · rw [if_neg c, cntGe_zero (fun y hy => by have := h1 y hy; omega)]
      constructor
      · intro q
        cases k with
        | zero => exact absurd q c
        | succ k =>
          have := h1 _ (List.getElem_mem (Nat.lt_of_succ_lt_succ hk))
          have q : s ≤ r[k]'(Nat.lt_of_succ_lt_succ hk) := q
          omega
      · intro q; omega
theorem fallen_le {A B : List Int} (hA : A.Pairwise fun x y => y ≤ x) (hB : B.Pairwise fun x y => y ≤ x) (h : ∀ s, 1 ≤ s → s ≤ 9 → cntGe A s ≤ cntGe B s) (hr : ∀ x ∈ A, 1 ≤ x ∧ x ≤ 9) (k : Nat) (hk : k < A.length) :
    ∃ hk' : k < B.length, A[k] ≤ B[k] := by
  have hs := hr _ (List.getElem_mem hk)
  have c1 := (desc_cnt (s := A[k]) hA k hk).mp (Int.le_refl _)
  have c2 := h A[k] hs.1 hs.2
  have c3 := cntGe_le B A[k]
  have hk' : k < B.length := by omega
  exact ⟨hk', (desc_cnt hB k hk').mpr (by omega)⟩
/-! ### a fitting -/
def Boxes (sizes parcels fs : List Int) : Prop := fs.length = parcels.length ∧ (∀ k < parcels.length, 0 ≤ fs.getD k 0 ∧ fs.getD k 0 < sizes.length ∧ parcels.getD k 0 ≤ sizes.getD (fs.getD k 0).toNat 0) ∧ fs.Nodup
def Many (sizes parcels : List Int) (s : Int) : Prop := 1 ≤ s ∧ s ≤ 9 ∧ cntGe sizes s < cntGe parcels s
/-- the falling order of xs, with the places -/
structure Fall (xs : List Int) (ps : List (Int × Int)) : Prop where
  perm : ps.Perm ((List.range xs.length).map fun i => (0 - xs.getD i 0, (i : Int)))
  srt : ps.Pairwise LexLe
namespace Fall
variable {xs : List Int} {ps : List (Int × Int)} (F : Fall xs ps)
include F
theorem len : ps.length = xs.length := by rw [F.perm.length_eq]; simp
theorem item {j : Nat} (hj : j < ps.length) : ∃ i : Nat, i < xs.length ∧ (ps.getD j (0, 0)).2 = (i : Int) ∧ (ps.getD j (0, 0)).1 = 0 - xs.getD i 0 := by
  have e : ps.getD j (0, 0) = ps[j] := by rw [List.getD_eq_getElem?_getD, List.getElem?_eq_getElem hj]; rfl
  have m := F.perm.mem_iff.mp (List.getElem_mem hj)
  obtain ⟨i, hi, q⟩ := List.mem_map.mp m
  exact ⟨i, List.mem_range.mp hi, by rw [e, ← q], by rw [e, ← q]⟩
theorem places : (ps.map (·.2)).Perm ((List.range xs.length).map fun i : Nat => (i : Int)) := by
  have q := F.perm.map (·.2)
  rw [List.map_map] at q
  exact q
theorem nodup : (ps.map (·.2)).Nodup := by
  refine F.places.nodup_iff.mpr ?_
  refine List.Pairwise.map _ (R := (· ≠ ·)) (fun a b h e => h (by omega)) List.nodup_range
theorem vals : (ps.map fun p => 0 - p.1).Perm xs := by
  have q := F.perm.map (fun p => 0 - p.1)
  rw [List.map_map] at q
  have e : (List.range xs.length).map ((fun p : Int × Int => 0 - p.1) ∘ fun i => (0 - xs.getD i 0, (i : Int))) = xs := by
    refine List.ext_getElem (by simp) fun i h1 h2 => ?_
    rw [List.getElem_map, List.getElem_range]
    show 0 - (0 - xs.getD i 0) = _
    rw [getDlt h2]; omega
  rw [e] at q
  exact q
theorem falls : (ps.map fun p => 0 - p.1).Pairwise fun x y => y ≤ x := by
  rw [List.pairwise_map]
  exact F.srt.imp fun {x y} h => by unfold LexLe at h; omega
end Fall
/-- what the two orders tell: the k-th greatest parcel goes into the k-th greatest box -/
theorem fall_fits {sizes parcels : List Int} {po pf : List (Int × Int)} (O : Fall parcels po) (F : Fall sizes pf) (okp : OkP parcels) (h : ∀ s, 1 ≤ s → s ≤ 9 → cntGe parcels s ≤ cntGe sizes s) {j : Nat} (hj : j < po.length) :
    ∃ (i b : Nat), i < parcels.length ∧ b < sizes.length ∧ j < pf.length ∧ (po.getD j (0, 0)).2 = (i : Int) ∧ (pf.getD j (0, 0)).2 = (b : Int) ∧ parcels.getD i 0 ≤ sizes.getD b 0 := by
  obtain ⟨i, hi, e1, e2⟩ := O.item hj
  obtain ⟨hk, hle⟩ := fallen_le O.falls F.falls (fun s h1 h2 => by rw [cntGe_perm O.vals, cntGe_perm F.vals]; exact h s h1 h2) (fun x hx => okp x (O.vals.mem_iff.mp hx)) j (by rw [List.length_map]; exact hj)
  have hj2 : j < pf.length := by rw [List.length_map] at hk; exact hk
  obtain ⟨b, hb, f1, f2⟩ := F.item hj2
  refine ⟨i, b, hi, hb, hj2, e1, f1, ?_⟩
  rw [List.getElem_map, List.getElem_map] at hle
  have e : po.getD j (0, 0) = po[j] := by rw [List.getD_eq_getElem?_getD, List.getElem?_eq_getElem hj]; rfl
  have f : pf.getD j (0, 0) = pf[j] := by rw [List.getD_eq_getElem?_getD, List.getElem?_eq_getElem hj2]; rfl
  rw [e] at e2
  rw [f] at f2
  omega
/-- the boxes found so far -/
def Found (po pf : List (Int × Int)) (n i : Nat) (fs : List Int) : Prop := fs.length = n ∧ ∀ j < i, fs.getD (po.getD j (0, 0)).2.toNat 0 = (pf.getD j (0, 0)).2
theorem found_set {xs : List Int} {po pf : List (Int × Int)} (O : Fall xs po) {i : Nat} {fs : List Int} (hi : i < po.length) (h : Found po pf xs.length i fs) : Found po pf xs.length (i + 1) (fs.set (po.getD i (0, 0)).2.toNat (pf.getD i (0, 0)).2) := by
  obtain ⟨hl, ha⟩ := h
  obtain ⟨a, ha1, ha2, _⟩ := O.item hi
  refine ⟨by rw [List.length_set]; exact hl, fun j hj => ?_⟩
  obtain ⟨b, hb1, hb2, _⟩ := O.item (j := j) (by omega)
  by_cases c : j = i
  · subst c
    rw [List.getD_eq_getElem?_getD, List.getElem?_set_self (by rw [ha2]; omega)]; rfl
  · have ne : (po.getD i (0, 0)).2.toNat ≠ (po.getD j (0, 0)).2.toNat := fun e => by
      have nd := O.nodup
      have hj' : j < (po.map (·.2)).length := by rw [List.length_map]; omega
      have hi' : i < (po.map (·.2)).length := by rw [List.length_map]; omega
      have q : (po.map (·.2))[i] = (po.map (·.2))[j] := by
        rw [List.getElem_map, List.getElem_map]
        have e1 : po.getD i (0, 0) = po[i] := by rw [List.getD_eq_getElem?_getD, List.getElem?_eq_getElem hi]; rfl
        have e2 : po.getD j (0, 0) = po[j]'(by omega) := by rw [List.getD_eq_getElem?_getD, List.getElem?_eq_getElem (by omega)]; rfl
        rw [← e1, ← e2]; omega
      exact c ((List.getElem_inj nd).mp q).symm
    rw [List.getD_eq_getElem?_getD, List.getElem?_set_ne ne, ← List.getD_eq_getElem?_getD]
    exact ha j (by omega)
theorem found_boxes {sizes parcels : List Int} {po pf : List (Int × Int)} (O : Fall parcels po) (F : Fall sizes pf) (okp : OkP parcels) (h : ∀ s, 1 ≤ s → s ≤ 9 → cntGe parcels s ≤ cntGe sizes s) {fs : List Int} (hf : Found po pf parcels.length po.length fs) : Boxes sizes parcels fs := by
  obtain ⟨hl, ha⟩ := hf
  have key : ∀ k < parcels.length, ∃ j, j < po.length ∧ (po.getD j (0, 0)).2 = (k : Int) := fun k hk => by
    have m : ((k : Nat) : Int) ∈ po.map (·.2) := O.places.mem_iff.mpr (List.mem_map.mpr ⟨k, List.mem_range.mpr hk, rfl⟩)
    obtain ⟨j, hj, e⟩ := List.mem_iff_getElem.mp m
    rw [List.length_map] at hj
    rw [List.getElem_map] at e
    exact ⟨j, hj, by rw [List.getD_eq_getElem?_getD, List.getElem?_eq_getElem hj]; exact e⟩
  refine ⟨hl, fun k hk => ?_, ?_⟩
  · obtain ⟨j, hj, e⟩ := key k hk
    obtain ⟨i, b, hi, hb, hj2, e1, e2, e3⟩ := fall_fits O F okp h hj
    have q := ha j hj
    have : i = k := by omega
    subst this
    rw [e1] at q
    rw [show ((i : Nat) : Int).toNat = i from rfl] at q
    rw [q, e2]
    refine ⟨by omega, by omega, ?_⟩
    rw [show ((b : Nat) : Int).toNat = b from rfl]; exact e3
  · refine List.pairwise_iff_getElem.mpr fun k k' hk hk' hlt e => ?_
    obtain ⟨j, hj, e1⟩ := key k (by omega)
    obtain ⟨j', hj', e1'⟩ := key k' (by omega)
    obtain ⟨i, b, hi, hb, hj2, f1, f2, f3⟩ := fall_fits O F okp h hj
    obtain ⟨i', b', hi', hb', hj2', f1', f2', f3'⟩ := fall_fits O F okp h hj'
    have q := ha j hj
    have q' := ha j' hj'
    rw [e1, show ((k : Nat) : Int).toNat = k from rfl, getDlt hk] at q
    rw [e1', show ((k' : Nat) : Int).toNat = k' from rfl, getDlt hk'] at q'
    have eb : (pf.getD j (0, 0)).2 = (pf.getD j' (0, 0)).2 := by rw [← q, ← q', e]
    have nd := F.nodup
    have z : (pf.map (·.2))[j]'(by rw [List.length_map]; exact hj2) = (pf.map (·.2))[j']'(by rw [List.length_map]; exact hj2') := by
      rw [List.getElem_map, List.getElem_map]
      have x1 : pf.getD j (0, 0) = pf[j] := by rw [List.getD_eq_getElem?_getD, List.getElem?_eq_getElem hj2]; rfl
      have x2 : pf.getD j' (0, 0) = pf[j'] := by rw [List.getD_eq_getElem?_getD, List.getElem?_eq_getElem hj2']; rfl
      rw [← x1, ← x2]; exact eb
    have jj := (List.getElem_inj nd).mp z
    subst jj
    omega
end Pw
namespace Pw
def sp_fit (K : PySem.W.Frag) : Sp := fun vs H Q E => ∃ (a b : Addr) (sizes parcels : List Int), vs = [.ref a, .ref b] ∧ SqL K H a (sizes.map V.int) ∧ SqL K H b (parcels.map V.int) ∧ sizes.length ≤ 1000 ∧ parcels.length ≤ 1000 ∧
  (OkW sizes → OkP parcels → ∀ (H' : Hp) (p : Addr) (s : Int), Same H H' → H p = none → H' p = some (.tup [.str "many", .int s]) → Many sizes parcels s → Q (.ref p) H') ∧
  (OkW sizes → OkP parcels → ∀ (H' : Hp) (p q : Addr) (fs : List Int), Same H H' → H p = none → H q = none → H' p = some (.tup [.str "boxes", .ref q]) → H' q = some (.lst (fs.map V.int)) → Boxes sizes parcels fs →
    (∀ s, 1 ≤ s → s ≤ 9 → cntGe parcels s ≤ cntGe sizes s) → Q (.ref p) H') ∧
  (¬ OkW sizes → ∀ H', Same H H' → E (.ref (He.ga K "NoWall")) none H') ∧
  (OkW sizes → ¬ OkP parcels → ∀ H', Same H H' → E (.ref (He.ga K "NoSize")) none H')
theorem len_fit {K : PySem.W.Frag} : ∀ vs H Q E, sp_fit K vs H Q E → vs.length = 2 := by
  rintro vs H Q E ⟨_, _, _, _, rfl, _⟩
  rfl
def t_fit (K : PySem.W.Frag) (E : XK) : TS :=
  tSeq (tAsg (tMeth (He.ga K "Wall") "sizes" (sp_Wall_sizes K) [] E0 (tMake (He.ga K "Wall") (sp_Wall_init K) [] E (tCons (tVar 0) tNil)) tNil) (gName 2))
    (tSeq (tDrop (tCall (sp_see_parcels K) [] E (tCons (tVar 1) tNil)))
    (tSeq (tForP (iRng2 (tCons (tC (.int 1)) (tCons (tOp rAddI (tC (.int 9)) (tC (.int 1))) tNil))) (gName 3) (tIfS (tTest (tOp rGt (tCB (rLenSeq K) (tCons (tLc (iList K (tVar 1)) (gName 8) (tTest (tOp rGe (tVar 8) (tVar 3))) (tVar 8) [8]) tNil)) (tCB (rLenSeq K) (tCons (tLc (iList K (tVar 2)) (gName 9) (tTest (tOp rGe (tVar 9) (tVar 3))) (tVar 9) [9]) tNil)))) (tRet (tTup (tCons (tC (.str "many")) (tCons (tVar 3) tNil)))) (tNext)))
    (tSeq (tAsg (tCB (rSortPO K) (tCons (tLc (iRng1 (tCons (tCB (rLenSeq K) (tCons (tVar 1) tNil)) tNil)) (gName 7) tYes (tTup (tCons (tOp rSubI (tC (.int 0)) (tOp (rIxL K) (tVar 1) (tVar 7))) (tCons (tVar 7) tNil))) [7]) tNil)) (gName 4))
    (tSeq (tAsg (tCB (rSortPO K) (tCons (tLc (iRng1 (tCons (tCB (rLenSeq K) (tCons (tVar 2) tNil)) tNil)) (gName 9) tYes (tTup (tCons (tOp rSubI (tC (.int 0)) (tOp (rIxL K) (tVar 2) (tVar 9))) (tCons (tVar 9) tNil))) [9]) tNil)) (gName 5))
    (tSeq (tAsg (tLc (iList K (tVar 1)) (gName 3) tYes (tC (.int 0)) [3]) (gName 6))
    (tSeq (tForP (iRng1 (tCons (tCB (rLenSeq K) (tCons (tVar 4) tNil)) tNil)) (gName 7) (tAsg (tOp (rIxT K) (tOp (rIxL K) (tVar 5) (tVar 7)) (tC (.int 1))) (gSub (tVar 6) (tOp (rIxT K) (tOp (rIxL K) (tVar 4) (tVar 7)) (tC (.int 1))) rSetL)))
    (tRet (tTup (tCons (tC (.str "boxes")) (tCons (tVar 6) tNil))))))))))
theorem pure_fit {K : PySem.W.Frag} (T : TW K) (vs : List V) (H : Hp) (Q : VK) (E : XK) (h : sp_fit K vs H Q E) : t_fit K E { nx := fun _ H' => Q .non H', rt := Q } (start ["sizes", "parcels", "boxes", "size", "order", "free", "found", "k", "one", "box"] vs) H := by
  obtain ⟨a, b, sizes, parcels, rfl, hA, hB, lA, lB, kM, kB, eW, eS⟩ := h
  obtain ⟨tcl, tnb, tni, tnp, tnt⟩ := id T
  unfold t_fit
  walk_at "go"
  intro x dx hx hdx hne
  have s0 : Same H (upd (upd H dx (.own x)) x (.ins (He.ga K "Wall") dx [])) := sameNew (sameNew (Same.refl _) hdx) (by rw [upd_ne (Ne.symm hne)]; exact hx)
  refine ⟨x, dx, a, sizes, rfl, upd_same, s0.seq hA, lA, fun ok H1 l1 l2 l3 A1 n1 n2 n3 fr => ?_, fun nok => eW nok _ s0⟩
  have s1 : Same H H1 := fun c o e => fr c o (s0 c o e) (ne_of_none e hx)
  refine ⟨rfl, ?_⟩
  have hob : H1 x = some (.ins (He.ga K "Wall") dx (wf l1 l2 l3 0)) := A1.ob
  walk_at "go"
  intro H2 bl s2 hb2 hbl
  have s3 := s1.trans s2
  have hbn : H bl = none := s1.free hb2
  walk_at "go"
  refine ⟨fun okp => ?_, fun nok => eS ok nok _ s3⟩
  have hbl : H2 bl = some (.lst (sizes.map V.int)) := hbl
  walk_at "go"
  refine forRange (n := (9 + 1 - 1 : Int).toNat) (fun i σ H' => Stop (∃ v3 : Option V, σ = [some (.ref a), some (.ref b), some (.ref bl), v3, none, none, none, none, none, none] ∧ Same H H' ∧ H' bl = some (.lst (sizes.map V.int)) ∧ ∀ s, 1 ≤ s → s ≤ (i : Int) → cntGe parcels s ≤ cntGe sizes s))
    ⟨none, rfl, s3, hbl, fun s h1 h2 => by omega⟩ ?_ ?_
  · rintro i σ H3 hi ⟨v3, rfl, s4, hb3, ha⟩
    have hi : i < 9 := hi
    walk_at "go"
    intro D1 hD1
    refine lcMap (fun x => decide ((1 : Int) + i ≤ x)) V.int hD1 (s4.seq hB) (by omega) (fun _ => rfl) (fun j n H' _ s' TT k' => ?_) (fun j n H' _ _ s' Qv k' => ?_) (fun H4 s5 hL1 => ?_)
    · walk_at "go"
      exact k' _ (Same.refl _)
    · walk_at "go"
      exact k' _ (Same.refl _)
    walk_at "go"
    intro D2 hD2
    have hb4 : H4 bl = some (.lst (sizes.map V.int)) := s5 _ _ hb3
    refine lcMap (fun x => decide ((1 : Int) + i ≤ x)) V.int hD2 (SqL.of hb4) (by omega) (fun _ => rfl) (fun j n H' _ s' TT k' => ?_) (fun j n H' _ _ s' Qv k' => ?_) (fun H5 s6 hL2 => ?_)
    · walk_at "go"
      exact k' _ (Same.refl _)
    · walk_at "go"
      exact k' _ (Same.refl _)
    have s7 : Same H H5 := (s4.trans s5).trans s6
    have hL1' := s6 _ _ hL1
    walk_at "go"
    simp only [List.length_map]
    refine ifD (fun c => ?_) (fun c => ?_)
    · walk_at "go"
      intro p hp
      refine kM ok okp _ p _ (sameNew s7 hp) (s7.free hp) upd_same ⟨by omega, by omega, ?_⟩
      show (List.filter _ _).length < (List.filter _ _).length
      omega
    · refine ⟨_, rfl, s7, s6 _ _ (s5 _ _ hb3), fun s h1 h2 => ?_⟩
      by_cases e : s = 1 + (i : Int)
      · subst e
        show (List.filter _ _).length ≤ (List.filter _ _).length
        omega
      · exact ha s h1 (by omega)
  · rintro σ H3 ⟨v3, rfl, s4, hb3, ha⟩
    have hall : ∀ s, 1 ≤ s → s ≤ 9 → cntGe parcels s ≤ cntGe sizes s := fun s h1 h2 => ha s h1 h2
    walk_at "go"
    intro D1 hD1
    refine lcPairs (n := (((parcels.map V.int).length : Nat) : Int).toNat) (fun _ => true) (fun i => 0 - parcels.getD i 0) (fun i => (i : Int)) hD1 (by simp; omega) (fun _ => rfl) (fun i H' hi s' TT k' => ?_) (fun i H' hi _ s' Qv k' => ?_) (fun H4 s5 hL1 => ?_)
    · exact k' _ (Same.refl _)
    · have hi : i < parcels.length := by simpa using hi
      have e : ((0 : Int) + (i : Int)).toNat = i := by omega
      have sq : SqL K H' b (parcels.map V.int) := (s4.trans s').seq hB
      walk_at "go"
      rw [e]
      intro t ht
      refine k' t _ (sameNew (Same.refl _) ht) ?_
      rw [show ((0 : Int) + (i : Int)) = (i : Int) by omega]
      exact upd_same
    rw [filterAll] at hL1
    walk_at "go"
    refine sortedPairs hL1 fun po o1 H5 po1 po2 s6 ho1 hL2 => ?_
    have O : Fall parcels po := ⟨by simpa using po1, po2⟩
    have hb5 : H5 bl = some (.lst (sizes.map V.int)) := s6 _ _ (s5 _ _ hb3)
    walk_at "go"
    intro D2 hD2
    refine lcPairs (n := (((sizes.map V.int).length : Nat) : Int).toNat) (fun _ => true) (fun i => 0 - sizes.getD i 0) (fun i => (i : Int)) hD2 (by simp; omega) (fun _ => rfl) (fun i H' hi s' TT k' => ?_) (fun i H' hi _ s' Qv k' => ?_) (fun H6 s7 hL3 => ?_)
    · exact k' _ (Same.refl _)
    · have hi : i < sizes.length := by simpa using hi
      have e : ((0 : Int) + (i : Int)).toNat = i := by omega
      have hb' : H' bl = some (.lst (sizes.map V.int)) := s' _ _ hb5
      walk_at "go"
      rw [e]
      intro t ht
      refine k' t _ (sameNew (Same.refl _) ht) ?_
      rw [show ((0 : Int) + (i : Int)) = (i : Int) by omega]
      exact upd_same
    rw [filterAll] at hL3
    walk_at "go"
    refine sortedPairs hL3 fun pf o2 H7 pf1 pf2 s8 ho2 hL4 => ?_
    have F : Fall sizes pf := ⟨by simpa using pf1, pf2⟩
    have s9 : Same H H7 := ((((s4.trans s5).trans s6).trans s7).trans s8)
    have hL2' := hL2.mono (s7.trans s8)
    have sqB : SqL K H7 b (parcels.map V.int) := s9.seq hB
    walk_at "go"
    intro f hf
    refine lcMap (fun _ => true) (fun _ => V.int 0) hf sqB (by omega) (fun _ => rfl) (fun j n H' _ s' TT k' => ?_) (fun j n H' _ _ s' Qv k' => ?_) (fun H8 s10 hF => ?_)
    · exact k' _ (Same.refl _)
    · exact k' _ (Same.refl _)
    rw [filterAll] at hF
    have fn : H f = none := s9.free hf
    have hL5 := hL2'.mono s10
    have hL6 := hL4.mono s10
    obtain ⟨ys, hy, hyl⟩ := hL5.len
    have hpo := O.len
    have nfo : f ≠ o1 := by
      obtain ⟨ys1, hy1, _⟩ := hL2'.len
      exact fun e => by rw [e, hy1] at hf; cases hf
    have nfo2 : f ≠ o2 := by
      obtain ⟨ys1, hy1, _⟩ := hL4.len
      exact fun e => by rw [e, hy1] at hf; cases hf
    walk_at "go"
    refine forRange (n := ((ys.length : Nat) : Int).toNat) (fun i σ H' => Stop (∃ (v7 : Option V) (fs : List Int), σ = [some (.ref a), some (.ref b), some (.ref bl), v3, some (.ref o1), some (.ref o2), some (.ref f), v7, none, none] ∧ Same H H' ∧ PairL H' o1 po ∧ PairL H' o2 pf ∧ H' f = some (.lst (fs.map V.int)) ∧ Found po pf parcels.length i fs))
      ⟨none, List.replicate parcels.length 0, rfl, s9.trans s10, hL5, hL6, ?_, by simp, fun j hj => absurd hj (Nat.not_lt_zero _)⟩ ?_ ?_
    · rw [hF]
      congr 2
      rw [List.map_replicate]
      exact List.map_const' ..
    · rintro i σ H9 hi ⟨v7, fs, rfl, s11, q1, q2, q3, q4⟩
      have hi : i < po.length := by omega
      obtain ⟨i1, b1, hi1, hb1, hj2, e1, e2, e3⟩ := fall_fits O F okp hall hi
      obtain ⟨y1, t1, w1, w2, w3⟩ := q1.at_ (z := (0 : Int) + i) (by omega) (by omega)
      obtain ⟨y2, t2, x1, x2, x3⟩ := q2.at_ (z := (0 : Int) + i) (by omega) (by omega)
      have e : ((0 : Int) + (i : Int)).toNat = i := by omega
      rw [e] at w3 x3
      walk_at "go"
      refine ⟨ixN_of (by rw [e1]; omega) (by rw [e1, List.length_map, q4.1]; omega), ?_⟩
      rw [setInt]
      have keep : ∀ {o : Addr} {ps : List (Int × Int)}, PairL H9 o ps → o ≠ f → PairL (upd H9 f (.lst ((fs.set (po.getD i (0, 0)).2.toNat (pf.getD i (0, 0)).2).map V.int))) o ps := by
        intro o ps hP hne'
        obtain ⟨zs, z1, z2, z3⟩ := hP.ex
        have z := mapKeep (H' := upd H9 f (.lst ((fs.set (po.getD i (0, 0)).2.toNat (pf.getD i (0, 0)).2).map V.int))) z2 fun t i j et => by
          rw [upd_ne (ne_of et q3 (by intro q; cases q))]; exact et
        exact ⟨zs, by rw [upd_ne hne']; exact z1, z.1, by rw [z.2]; exact z3⟩
      exact ⟨_, _, rfl, sameMut s11 fn, keep q1 (Ne.symm nfo), keep q2 (Ne.symm nfo2), upd_same, found_set O hi q4⟩
    · rintro σ H9 ⟨v7, fs, rfl, s11, q1, q2, q3, q4⟩
      walk_at "go"
      intro p hp
      have npf : f ≠ p := ne_of_none q3 hp
      refine kB ok okp _ p f fs (sameNew s11 hp) (s11.free hp) fn upd_same (by rw [upd_ne npf]; exact q3) ?_ hall
      refine found_boxes O F okp hall ?_
      have e : ((ys.length : Nat) : Int).toNat = po.length := by omega
      rw [e] at q4
      exact q4
end Pw
namespace Pw
def sp_law_whole (K : PySem.W.Frag) : Sp := fun vs H Q _ => ∃ (n : Int), vs = [.int n] ∧ Q (.bl true) H
theorem len_law_whole {K : PySem.W.Frag} : ∀ vs H Q E, sp_law_whole K vs H Q E → vs.length = 1 := by
  rintro vs H Q E ⟨_, rfl, _⟩
  rfl
def t_law_whole (K : PySem.W.Frag) (E : XK) : TS :=
  tRet (tAndV (tCB (rIsi K) (tCons (tVar 0) (tCons (tC (.ty "int")) tNil))) (tNotV (tCB (rIsi K) (tCons (tVar 0) (tCons (tC (.ty "bool")) tNil)))))
theorem pure_law_whole {K : PySem.W.Frag} (vs : List V) (H : Hp) (Q : VK) (E : XK) (h : sp_law_whole K vs H Q E) : t_law_whole K E { nx := fun _ H' => Q .non H', rt := Q } (start ["found"] vs) H := by
  obtain ⟨n, rfl, k⟩ := h
  unfold t_law_whole
  walk_at "go"
  exact k
end Pw
namespace Pw
def sp_law_right_k05 (K : PySem.W.Frag) : Sp := fun vs H Q _ => ∃ (f b c : Addr) (sizes parcels : List Int), vs = [.ref f, .ref b, .ref c] ∧ SqL K H b (sizes.map V.int) ∧ SqL K H c (parcels.map V.int) ∧ sizes.length ≤ 1000 ∧ parcels.length ≤ 1000 ∧
  ((∃ s, H f = some (.tup [.str "many", .int s]) ∧ Many sizes parcels s) ∨ (∃ q fs, H f = some (.tup [.str "boxes", .ref q]) ∧ H q = some (.lst (fs.map V.int)) ∧ Boxes sizes parcels fs)) ∧ ∀ H', Same H H' → Q (.bl true) H'
theorem len_law_right_k05 {K : PySem.W.Frag} : ∀ vs H Q E, sp_law_right_k05 K vs H Q E → vs.length = 3 := by
  rintro vs H Q E ⟨_, _, _, _, _, rfl, _⟩
  rfl
def t_law_right_k05 (K : PySem.W.Frag) (E : XK) : TS :=
  tSeq (tIfS (tOr (tNot (tB (tCB (rIsi K) (tCons (tVar 0) (tCons (tC (.ty "tuple")) tNil))))) (tTest (tOp rNe (tCB (rLenSeq K) (tCons (tVar 0) tNil)) (tC (.int 2))))) (tRet (tC (.bl false))) (tNext))
    (tSeq (tIfS (tTest (tOp rEq (tOp (rIxT K) (tVar 0) (tC (.int 0))) (tC (.str "many")))) (tSeq (tIfS (tOr (tNot (tB (tCall (sp_law_whole K) [] E0 (tCons (tOp (rIxT K) (tVar 0) (tC (.int 1))) tNil)))) (tOr (tTest (tOp rLt (tOp (rIxT K) (tVar 0) (tC (.int 1))) (tC (.int 1)))) (tTest (tOp rGt (tOp (rIxT K) (tVar 0) (tC (.int 1))) (tC (.int 9)))))) (tRet (tC (.bl false))) (tNext))
    (tSeq (tAsg (tCB (rLenSeq K) (tCons (tLc (iList K (tVar 2)) (gName 6) (tTest (tOp rGe (tVar 6) (tOp (rIxT K) (tVar 0) (tC (.int 1))))) (tVar 6) [6]) tNil)) (gName 3))
    (tRet (tOp rGt (tVar 3) (tCB (rLenSeq K) (tCons (tLc (iList K (tVar 1)) (gName 6) (tTest (tOp rGe (tVar 6) (tOp (rIxT K) (tVar 0) (tC (.int 1))))) (tVar 6) [6]) tNil)))))) (tNext))
    (tSeq (tIfS (tOr (tTest (tOp rNe (tOp (rIxT K) (tVar 0) (tC (.int 0))) (tC (.str "boxes")))) (tOr (tNot (tB (tCB (rIsi K) (tCons (tOp (rIxT K) (tVar 0) (tC (.int 1))) (tCons (tC (.ty "list")) tNil))))) (tTest (tOp rNe (tCB (rLenSeq K) (tCons (tOp (rIxT K) (tVar 0) (tC (.int 1))) tNil)) (tCB (rLenSeq K) (tCons (tVar 2) tNil)))))) (tRet (tC (.bl false))) (tNext))
    (tSeq (tForP (iRng1 (tCons (tCB (rLenSeq K) (tCons (tVar 2) tNil)) tNil)) (gName 4) (tSeq (tAsg (tOp (rIxL K) (tOp (rIxT K) (tVar 0) (tC (.int 1))) (tVar 4)) (gName 5))
    (tIfS (tOr (tNot (tB (tCall (sp_law_whole K) [] E0 (tCons (tVar 5) tNil)))) (tOr (tTest (tOp rLt (tVar 5) (tC (.int 0)))) (tOr (tTest (tOp rGe (tVar 5) (tCB (rLenSeq K) (tCons (tVar 1) tNil)))) (tTest (tOp rLt (tOp (rIxL K) (tVar 1) (tVar 5)) (tOp (rIxL K) (tVar 2) (tVar 4))))))) (tRet (tC (.bl false))) (tNext))))
    (tRet (tOp rEq (RZ.tLenSetI K (tOp (rIxT K) (tVar 0) (tC (.int 1)))) (tCB (rLenSeq K) (tCons (tVar 2) tNil)))))))
theorem pure_law_right_k05 {K : PySem.W.Frag} (vs : List V) (H : Hp) (Q : VK) (E : XK) (h : sp_law_right_k05 K vs H Q E) : t_law_right_k05 K E { nx := fun _ H' => Q .non H', rt := Q } (start ["found", "sizes", "parcels", "above", "k", "box", "size"] vs) H := by
  obtain ⟨f, b, c, sizes, parcels, rfl, hB, hC, lB, lC, ⟨s, hf, m1, m2, m3⟩ | ⟨q, fs, hf, hq, b1, b2, b3⟩, k⟩ := h
  · unfold t_law_right_k05
    walk_at "go"
    intro D1 hD1
    refine lcMap (fun x => decide (s ≤ x)) V.int hD1 hC (by omega) (fun _ => rfl) (fun j n H' _ s' TT k' => ?_) (fun j n H' _ _ s' Qv k' => ?_) (fun H4 s5 hL1 => ?_)
    · have hf' := s' _ _ hf
      walk_at "go"
      exact k' _ (Same.refl _)
    · walk_at "go"
      exact k' _ (Same.refl _)
    walk_at "go"
    intro D2 hD2
    refine lcMap (fun x => decide (s ≤ x)) V.int hD2 (s5.seq hB) (by omega) (fun _ => rfl) (fun j n H' _ s' TT k' => ?_) (fun j n H' _ _ s' Qv k' => ?_) (fun H5 s6 hL2 => ?_)
    · have hf' := (s5.trans s') _ _ hf
      walk_at "go"
      exact k' _ (Same.refl _)
    · walk_at "go"
      exact k' _ (Same.refl _)
    walk_at "go"
    have e : decide ((((List.filter (fun x => decide (s ≤ x)) sizes).map V.int).length : Int) < (((List.filter (fun x => decide (s ≤ x)) parcels).map V.int).length : Int)) = true := by
      rw [List.length_map, List.length_map]
      refine decide_eq_true ?_
      have m3 : (List.filter (fun x => decide (s ≤ x)) sizes).length < (List.filter (fun x => decide (s ≤ x)) parcels).length := m3
      omega
    have := k H5 (s5.trans s6)
    rw [← e] at this
    exact this
  · unfold t_law_right_k05
    walk_at "go"
    refine forRange (n := (((parcels.map V.int).length : Nat) : Int).toNat) (fun i σ H' => Stop (∃ v4 v5 : Option V, σ = [some (.ref f), some (.ref b), some (.ref c), none, v4, v5, none] ∧ H' = H)) ⟨none, none, rfl, rfl⟩ ?_ ?_
    · rintro i σ H' hi ⟨v4, v5, rfl, rfl⟩
      have hi : i < parcels.length := by simpa using hi
      have e : ((0 : Int) + (i : Int)).toNat = i := by omega
      obtain ⟨q1, q2, q3⟩ := b2 i hi
      walk_at "go"
      exact ⟨_, _, rfl, rfl⟩
    · rintro σ H' ⟨v4, v5, rfl, rfl⟩
      walk_at "go"
      have e : decide (V.int (fs.length : Nat) = V.int ((parcels.map V.int).length : Nat)) = true := by
        rw [List.length_map, b1]; exact decide_eq_true rfl
      have := k H' (Same.refl _)
      rw [← e] at this
      exact this
end Pw
namespace Pw
/-! ### data that is compared as a whole -/
structure PlD (n : Nat) (d : PyData) : Prop where
  c : d.canLay0 = true
  dp : d.depth ≤ n
theorem plInt (i : Int) : PlD 0 (.int i) := ⟨by simp [PyData.canLay0], by simp [PyData.depth]⟩
theorem plBool (b : Bool) : PlD 0 (.bool b) := ⟨by simp [PyData.canLay0], by simp [PyData.depth]⟩
theorem plNone : PlD 0 .none := ⟨by simp [PyData.canLay0], by simp [PyData.depth]⟩
theorem PlD.up {n m : Nat} {d : PyData} (h : PlD n d) (hm : n ≤ m) : PlD m d := ⟨h.c, Nat.le_trans h.dp hm⟩
theorem plAll {n : Nat} : ∀ {ds : List PyData}, (∀ d ∈ ds, PlD n d) → PyData.canLayAll0 ds = true ∧ PyData.depthAll ds ≤ n
  | [], _ => ⟨by simp [PyData.canLayAll0], by simp [PyData.depthAll]⟩
  | d :: r, h => by
    have a := h d List.mem_cons_self
    have b := plAll (ds := r) fun x hx => h x (List.mem_cons_of_mem _ hx)
    refine ⟨?_, ?_⟩
    · simp only [PyData.canLayAll0, a.c, b.1, Bool.and_self]
    · have a2 := a.dp
      simp only [PyData.depthAll]
      omega
theorem plList {n : Nat} {ds : List PyData} (h : ∀ d ∈ ds, PlD n d) : PlD (n + 1) (.list ds) := by
  have q := plAll h
  exact ⟨by simp only [PyData.canLay0]; exact q.1, by simp only [PyData.depth]; omega⟩
theorem plTup {n : Nat} {ds : List PyData} (h : ∀ d ∈ ds, PlD n d) : PlD (n + 1) (.tuple ds) := by
  have q := plAll h
  exact ⟨by simp only [PyData.canLay0]; exact q.1, by simp only [PyData.depth]; omega⟩
theorem PlD.ok {n : Nat} {d : PyData} (h : PlD n d) (hn : n ≤ 64) : SeqAt.shaped d = true := by
  unfold SeqAt.shaped
  rw [h.c, decide_eq_true (Nat.le_trans h.dp hn)]; rfl
theorem PlD.eq {n : Nat} {d : PyData} (h : PlD n d) : PyData.eqv d d = true := SeqAt.eqv_refl d h.c
theorem dpAllMap {α : Type} {K : PySem.W.Frag} {H : Hp} {f : α → V} {g : α → PyData} (h : ∀ x, Dp K H (f x) (g x)) : ∀ xs : List α, DpAll K H (xs.map f) (xs.map g)
  | [] => .nil
  | x :: r => .cons (h x) (dpAllMap h r)
theorem dpInts {K : PySem.W.Frag} {H : Hp} {a : Addr} {ns : List Int} (h : SqL K H a (ns.map V.int)) : Dp K H (.ref a) (.list (ns.map PyData.int)) := .lst h (dpAllMap (fun x => .int x) ns)
theorem plInts (ns : List Int) : PlD 1 (.list (ns.map PyData.int)) := plList fun d hd => by
  obtain ⟨x, _, rfl⟩ := List.mem_map.mp hd
  exact plInt x
theorem plMem1 {n : Nat} {a : PyData} (h : PlD n a) : ∀ d ∈ [a], PlD n d := fun d hd => by
  rw [List.mem_singleton.mp hd]; exact h
theorem plCons {n : Nat} {a : PyData} {r : List PyData} (h : PlD n a) (h2 : ∀ d ∈ r, PlD n d) : ∀ d ∈ a :: r, PlD n d := fun d hd => by
  rcases List.mem_cons.mp hd with e | e
  · rw [e]; exact h
  · exact h2 d e
theorem plNil {n : Nat} : ∀ d ∈ ([] : List PyData), PlD n d := fun d hd => by cases hd
/-- two lists of ints in a list -/
theorem dpTwo {K : PySem.W.Frag} {H : Hp} {l a b : Addr} {xs ys : List Int} (h : SqL K H l [.ref a, .ref b]) (ha : SqL K H a (xs.map V.int)) (hb : SqL K H b (ys.map V.int)) :
    Dp K H (.ref l) (.list [.list (xs.map PyData.int), .list (ys.map PyData.int)]) := .lst h (.cons (dpInts ha) (.cons (dpInts hb) .nil))
theorem plTwo (xs ys : List Int) : PlD 2 (.list [.list (xs.map PyData.int), .list (ys.map PyData.int)]) := plList (plCons (plInts xs) (plCons (plInts ys) plNil))
/-- != of two such -/
theorem neTwo {K : PySem.W.Frag} {H : Hp} {l l' a b a' b' : Addr} {xs ys : List Int} {Q : VK} (h : SqL K H l [.ref a, .ref b]) (ha : SqL K H a (xs.map V.int)) (hb : SqL K H b (ys.map V.int))
    (h' : SqL K H l' [.ref a', .ref b']) (ha' : SqL K H a' (xs.map V.int)) (hb' : SqL K H b' (ys.map V.int)) (k : Q (.bl false) H) : rNeDI K (.ref l) (.ref l') H Q := by
  unfold rNeDI
  exact ⟨_, _, dpTwo h ha hb, dpTwo h' ha' hb', (plTwo xs ys).ok (by decide), (plTwo xs ys).ok (by decide), by rw [(plTwo xs ys).eq]; exact k⟩
theorem eqTwo {K : PySem.W.Frag} {H : Hp} {l l' a b a' b' : Addr} {xs ys : List Int} {Q : VK} (h : SqL K H l [.ref a, .ref b]) (ha : SqL K H a (xs.map V.int)) (hb : SqL K H b (ys.map V.int))
    (h' : SqL K H l' [.ref a', .ref b']) (ha' : SqL K H a' (xs.map V.int)) (hb' : SqL K H b' (ys.map V.int)) (k : Q (.bl true) H) : rEqDI K (.ref l) (.ref l') H Q := by
  unfold rEqDI
  exact ⟨_, _, dpTwo h ha hb, dpTwo h' ha' hb', (plTwo xs ys).ok (by decide), (plTwo xs ys).ok (by decide), by rw [(plTwo xs ys).eq]; exact k⟩
end Pw
namespace Pw
def sp_law_k05 (K : PySem.W.Frag) : Sp := fun vs H Q _ => ∃ (a : Addr) (ns : List Int), vs = [.ref a] ∧ SqL K H a (ns.map V.int) ∧ ns.length ≤ 63 ∧ ∀ H', Q (.bl true) H'
theorem len_law_k05 {K : PySem.W.Frag} : ∀ vs H Q E, sp_law_k05 K vs H Q E → vs.length = 1 := by
  rintro vs H Q E ⟨_, _, rfl, _⟩
  rfl
def t_law_k05 (K : PySem.W.Frag) (E : XK) : TS :=
  tSeq (tAsg (tCall (sp_law_sizes_by K) [] E0 (tCons (tVar 0) (tCons (tC (.int 0)) tNil))) (gName 1))
    (tSeq (tAsg (tCall (sp_law_parcels_by K) [] E0 (tCons (tVar 0) (tCons (tVar 1) tNil))) (gName 2))
    (tSeq (tAsg (tLst (tCons (tCB (rListOf K) (tCons (tVar 1) tNil)) (tCons (tCB (rListOf K) (tCons (tVar 2) tNil)) tNil))) (gName 3))
    (tSeq (tForP (iRng1 (tCons (tC (.int 2)) tNil)) (gName 4) (tSeq (tAsg (tCall (sp_fit K) [] E0 (tCons (tOp (rIxL K) (tVar 3) (tC (.int 0))) (tCons (tOp (rIxL K) (tVar 3) (tC (.int 1))) tNil))) (gName 5))
    (tSeq (tIfS (tOr (tNot (tB (tCall (sp_law_right_k05 K) [] E0 (tCons (tVar 5) (tCons (tVar 1) (tCons (tVar 2) tNil)))))) (tTest (tOp (rNeDI K) (tVar 3) (tLst (tCons (tVar 1) (tCons (tVar 2) tNil)))))) (tRet (tC (.bl false))) (tNext))
    (tIfS (tTest (tOp rEq (tOp (rIxT K) (tVar 5) (tC (.int 0))) (tC (.str "boxes")))) (tDrop (tBM K "list" rAppend (tOp (rIxT K) (tVar 5) (tC (.int 1))) (tCons (tC (.int 9)) tNil))) (tNext)))))
    (tRet (tOp (rEqDI K) (tVar 3) (tLst (tCons (tVar 1) (tCons (tVar 2) tNil))))))))
theorem pure_law_k05 {K : PySem.W.Frag} (vs : List V) (H : Hp) (Q : VK) (E : XK) (h : sp_law_k05 K vs H Q E) : t_law_k05 K E { nx := fun _ H' => Q .non H', rt := Q } (start ["script", "sizes", "parcels", "handed", "lap", "found"] vs) H := by
  obtain ⟨a, ns, rfl, hS, hl, k⟩ := h
  unfold t_law_k05
  walk_at "go"
  intro sizes ok H1 b s1 hb hB
  walk_at "go"
  intro parcels okp lp H2 c s2 hc hC
  have hB2 := s2 _ _ hB
  have lz := ok.2.1
  walk_at "go"
  intro p hp
  walk_at "go"
  intro q hq
  walk_at "go"
  intro l hl
  have B3 : upd (upd (upd H2 p (.lst (sizes.map V.int))) q (.lst (parcels.map V.int))) l (.lst [.ref p, .ref q]) b = some (.lst (sizes.map V.int)) := by walk_at "heap"
  have C3 : upd (upd (upd H2 p (.lst (sizes.map V.int))) q (.lst (parcels.map V.int))) l (.lst [.ref p, .ref q]) c = some (.lst (parcels.map V.int)) := by walk_at "heap"
  have P3 : upd (upd (upd H2 p (.lst (sizes.map V.int))) q (.lst (parcels.map V.int))) l (.lst [.ref p, .ref q]) p = some (.lst (sizes.map V.int)) := by walk_at "heap"
  have Q3 : upd (upd (upd H2 p (.lst (sizes.map V.int))) q (.lst (parcels.map V.int))) l (.lst [.ref p, .ref q]) q = some (.lst (parcels.map V.int)) := by walk_at "heap"
  have L3 : upd (upd (upd H2 p (.lst (sizes.map V.int))) q (.lst (parcels.map V.int))) l (.lst [.ref p, .ref q]) l = some (.lst [.ref p, .ref q]) := upd_same
  generalize upd (upd (upd H2 p (.lst (sizes.map V.int))) q (.lst (parcels.map V.int))) l (.lst [.ref p, .ref q]) = H3 at B3 C3 P3 Q3 L3 ⊢
  walk_at "go"
  refine forRange (n := (2 : Int).toNat) (fun i σ H' => Stop (∃ v4 v5 : Option V, σ = [some (.ref a), some (.ref b), some (.ref c), some (.ref l), v4, v5] ∧ Same H3 H')) ⟨none, none, rfl, Same.refl _⟩ ?_ ?_
  · rintro i σ H' hi ⟨v4, v5, rfl, s⟩
    have B4 := s _ _ B3
    have C4 := s _ _ C3
    have P4 := s _ _ P3
    have Q4 := s _ _ Q3
    have L4 := s _ _ L3
    walk_at "go"
    refine ⟨fun _ _ H5 f z sF fn hf m => ?_, fun _ _ H5 f g fs sF fn gn hf hg bx _ => ?_, fun nok => absurd ok nok, fun _ nok => absurd okp nok⟩
    · walk_at "go"
      refine ⟨.inl ⟨z, hf, m⟩, fun H6 s6 => ?_⟩
      walk_at "go"
      intro l2 h2
      refine neTwo (SqL.of (by walk_at "heap")) (SqL.of (by walk_at "heap")) (SqL.of (by walk_at "heap")) (SqL.of upd_same) (SqL.of (by walk_at "heap")) (SqL.of (by walk_at "heap")) ?_
      have hf2 := s6 _ _ hf
      walk_at "go"
      exact ⟨_, _, rfl, by walk_at "same"⟩
    · walk_at "go"
      refine ⟨.inr ⟨g, fs, hf, hg, bx⟩, fun H6 s6 => ?_⟩
      walk_at "go"
      intro l2 h2
      refine neTwo (SqL.of (by walk_at "heap")) (SqL.of (by walk_at "heap")) (SqL.of (by walk_at "heap")) (SqL.of upd_same) (SqL.of (by walk_at "heap")) (SqL.of (by walk_at "heap")) ?_
      have hf2 := s6 _ _ hf
      have hg2 := s6 _ _ hg
      have e := bx.1
      walk_at "go"
      exact ⟨_, _, rfl, sameMut (by walk_at "same") (s.free gn)⟩
  · rintro σ H' ⟨v4, v5, rfl, s⟩
    walk_at "go"
    intro l2 h2
    exact eqTwo (SqL.of (by walk_at "heap")) (SqL.of (by walk_at "heap")) (SqL.of (by walk_at "heap")) (SqL.of upd_same) (SqL.of (by walk_at "heap")) (SqL.of (by walk_at "heap")) (k _)
end Pw
namespace Pw
def top (i : Nat) : Stmt := PySem.Challenge.pw_parcelwall_k05_whole_fit_or_too_many.main.body.getD i (.Pass ⟨0, 0, 0, 0⟩)
abbrev R : PySem.W.OpenRow := PySem.W.OpenLaw.row PySem.Challenge.rw_parcelwall_k05_whole_fit_or_too_many
abbrev s_law_drawn : Stmt := (top 14)
def d_law_drawn : He.DefD := ⟨("_law_drawn", none), "_law_drawn", "_law_drawn", defArgs s_law_drawn, defBody s_law_drawn, defScope s_law_drawn, [], []⟩
abbrev s_law_sizes_by : Stmt := (top 18)
def d_law_sizes_by : He.DefD := ⟨("_law_sizes_by", none), "_law_sizes_by", "_law_sizes_by", defArgs s_law_sizes_by, defBody s_law_sizes_by, defScope s_law_sizes_by, [], []⟩
abbrev s_law_parcels_by : Stmt := (top 19)
def d_law_parcels_by : He.DefD := ⟨("_law_parcels_by", none), "_law_parcels_by", "_law_parcels_by", defArgs s_law_parcels_by, defBody s_law_parcels_by, defScope s_law_parcels_by, [], []⟩
abbrev s_Wall_sizes : Stmt := (inClass (top 9) 1)
def d_Wall_sizes : He.DefD := ⟨("Wall", some "sizes"), "sizes", "Wall.sizes", defArgs s_Wall_sizes, defBody s_Wall_sizes, defScope s_Wall_sizes, [], []⟩
abbrev s_is_size : Stmt := (top 8)
def d_is_size : He.DefD := ⟨("is_size", none), "is_size", "is_size", defArgs s_is_size, defBody s_is_size, defScope s_is_size, [], []⟩
abbrev s_see_parcels : Stmt := (top 11)
def d_see_parcels : He.DefD := ⟨("see_parcels", none), "see_parcels", "see_parcels", defArgs s_see_parcels, defBody s_see_parcels, defScope s_see_parcels, [], []⟩
abbrev s_Wall_init : Stmt := (inClass (top 9) 0)
def d_Wall_init : He.DefD := ⟨("Wall", some "__init__"), "__init__", "Wall.__init__", defArgs s_Wall_init, defBody s_Wall_init, defScope s_Wall_init, [], []⟩
abbrev s_fit : Stmt := (top 12)
def d_fit : He.DefD := ⟨("fit", none), "fit", "fit", defArgs s_fit, defBody s_fit, defScope s_fit, [], []⟩
abbrev s_law_whole : Stmt := (top 15)
def d_law_whole : He.DefD := ⟨("_law_whole", none), "_law_whole", "_law_whole", defArgs s_law_whole, defBody s_law_whole, defScope s_law_whole, [], []⟩
abbrev s_law_right_k05 : Stmt := (top 20)
def d_law_right_k05 : He.DefD := ⟨("_law_right", none), "_law_right", "_law_right", defArgs s_law_right_k05, defBody s_law_right_k05, defScope s_law_right_k05, [], []⟩
abbrev s_law_k05 : Stmt := (top 21)
def d_law_k05 : He.DefD := ⟨("law", none), "law", "law", defArgs s_law_k05, defBody s_law_k05, defScope s_law_k05, [], []⟩
def fn : List He.DefD := [d_law_drawn, d_law_sizes_by, d_law_parcels_by, d_Wall_sizes, d_is_size, d_see_parcels, d_Wall_init, d_fit, d_law_whole, d_law_right_k05, d_law_k05]
def fa : List He.Fa := [.free "bool", .free "int", .free "isinstance", .free "len", .free "list", .free "max", .free "min", .free "range", .free "set", .free "sorted", .free "tuple", .glo "NoSize", .glo "NoWall", .glo "Wall", .glo "_law_drawn", .glo "_law_parcels_by", .glo "_law_right", .glo "_law_sizes_by", .glo "_law_whole", .glo "fit", .glo "is_size", .glo "law", .glo "see_parcels", .int "MOST_BOXES" 8, .int "MOST_SIZE" 9, .exc "NoSize", .exc "NoWall", .cls "Wall", .noat "Wall" "boxes", .noat "Wall" "inside", .noat "Wall" "parcels", .noat "Wall" "today", .mkr "Wall", .meth "Wall" "sizes"]
theorem f_bool {h : Heap} {mg : Str → Option Value} {K : PySem.W.Frag} (KX : K.In h) (G : h.Ns mainGlobals mg) (c : He.SaysD fa fn K) : mg "bool" = none := He.free_ok KX G (c.fact 0)
theorem f_int {h : Heap} {mg : Str → Option Value} {K : PySem.W.Frag} (KX : K.In h) (G : h.Ns mainGlobals mg) (c : He.SaysD fa fn K) : mg "int" = none := He.free_ok KX G (c.fact 1)
theorem f_isinstance {h : Heap} {mg : Str → Option Value} {K : PySem.W.Frag} (KX : K.In h) (G : h.Ns mainGlobals mg) (c : He.SaysD fa fn K) : mg "isinstance" = none := He.free_ok KX G (c.fact 2)
theorem f_len {h : Heap} {mg : Str → Option Value} {K : PySem.W.Frag} (KX : K.In h) (G : h.Ns mainGlobals mg) (c : He.SaysD fa fn K) : mg "len" = none := He.free_ok KX G (c.fact 3)
theorem f_list {h : Heap} {mg : Str → Option Value} {K : PySem.W.Frag} (KX : K.In h) (G : h.Ns mainGlobals mg) (c : He.SaysD fa fn K) : mg "list" = none := He.free_ok KX G (c.fact 4)
theorem f_max {h : Heap} {mg : Str → Option Value} {K : PySem.W.Frag} (KX : K.In h) (G : h.Ns mainGlobals mg) (c : He.SaysD fa fn K) : mg "max" = none := He.free_ok KX G (c.fact 5)
theorem f_min {h : Heap} {mg : Str → Option Value} {K : PySem.W.Frag} (KX : K.In h) (G : h.Ns mainGlobals mg) (c : He.SaysD fa fn K) : mg "min" = none := He.free_ok KX G (c.fact 6)
theorem f_range {h : Heap} {mg : Str → Option Value} {K : PySem.W.Frag} (KX : K.In h) (G : h.Ns mainGlobals mg) (c : He.SaysD fa fn K) : mg "range" = none := He.free_ok KX G (c.fact 7)
theorem f_set {h : Heap} {mg : Str → Option Value} {K : PySem.W.Frag} (KX : K.In h) (G : h.Ns mainGlobals mg) (c : He.SaysD fa fn K) : mg "set" = none := He.free_ok KX G (c.fact 8)
theorem f_sorted {h : Heap} {mg : Str → Option Value} {K : PySem.W.Frag} (KX : K.In h) (G : h.Ns mainGlobals mg) (c : He.SaysD fa fn K) : mg "sorted" = none := He.free_ok KX G (c.fact 9)
theorem f_tuple {h : Heap} {mg : Str → Option Value} {K : PySem.W.Frag} (KX : K.In h) (G : h.Ns mainGlobals mg) (c : He.SaysD fa fn K) : mg "tuple" = none := He.free_ok KX G (c.fact 10)
theorem g_NoSize {h : Heap} {mg : Str → Option Value} {K : PySem.W.Frag} (KX : K.In h) (G : h.Ns mainGlobals mg) (c : He.SaysD fa fn K) : mg "NoSize" = some (.ref (He.ga K "NoSize")) := He.glo_ok KX G (c.fact 11)
theorem g_NoWall {h : Heap} {mg : Str → Option Value} {K : PySem.W.Frag} (KX : K.In h) (G : h.Ns mainGlobals mg) (c : He.SaysD fa fn K) : mg "NoWall" = some (.ref (He.ga K "NoWall")) := He.glo_ok KX G (c.fact 12)
theorem g_Wall {h : Heap} {mg : Str → Option Value} {K : PySem.W.Frag} (KX : K.In h) (G : h.Ns mainGlobals mg) (c : He.SaysD fa fn K) : mg "Wall" = some (.ref (He.ga K "Wall")) := He.glo_ok KX G (c.fact 13)
theorem g_law_drawn {h : Heap} {mg : Str → Option Value} {K : PySem.W.Frag} (KX : K.In h) (G : h.Ns mainGlobals mg) (c : He.SaysD fa fn K) : mg "_law_drawn" = some (.ref (He.ga K "_law_drawn")) := He.glo_ok KX G (c.fact 14)
theorem g_law_parcels_by {h : Heap} {mg : Str → Option Value} {K : PySem.W.Frag} (KX : K.In h) (G : h.Ns mainGlobals mg) (c : He.SaysD fa fn K) : mg "_law_parcels_by" = some (.ref (He.ga K "_law_parcels_by")) := He.glo_ok KX G (c.fact 15)
theorem g_law_right {h : Heap} {mg : Str → Option Value} {K : PySem.W.Frag} (KX : K.In h) (G : h.Ns mainGlobals mg) (c : He.SaysD fa fn K) : mg "_law_right" = some (.ref (He.ga K "_law_right")) := He.glo_ok KX G (c.fact 16)
theorem g_law_sizes_by {h : Heap} {mg : Str → Option Value} {K : PySem.W.Frag} (KX : K.In h) (G : h.Ns mainGlobals mg) (c : He.SaysD fa fn K) : mg "_law_sizes_by" = some (.ref (He.ga K "_law_sizes_by")) := He.glo_ok KX G (c.fact 17)
theorem g_law_whole {h : Heap} {mg : Str → Option Value} {K : PySem.W.Frag} (KX : K.In h) (G : h.Ns mainGlobals mg) (c : He.SaysD fa fn K) : mg "_law_whole" = some (.ref (He.ga K "_law_whole")) := He.glo_ok KX G (c.fact 18)
theorem g_fit {h : Heap} {mg : Str → Option Value} {K : PySem.W.Frag} (KX : K.In h) (G : h.Ns mainGlobals mg) (c : He.SaysD fa fn K) : mg "fit" = some (.ref (He.ga K "fit")) := He.glo_ok KX G (c.fact 19)
theorem g_is_size {h : Heap} {mg : Str → Option Value} {K : PySem.W.Frag} (KX : K.In h) (G : h.Ns mainGlobals mg) (c : He.SaysD fa fn K) : mg "is_size" = some (.ref (He.ga K "is_size")) := He.glo_ok KX G (c.fact 20)
theorem g_law {h : Heap} {mg : Str → Option Value} {K : PySem.W.Frag} (KX : K.In h) (G : h.Ns mainGlobals mg) (c : He.SaysD fa fn K) : mg "law" = some (.ref (He.ga K "law")) := He.glo_ok KX G (c.fact 21)
theorem g_see_parcels {h : Heap} {mg : Str → Option Value} {K : PySem.W.Frag} (KX : K.In h) (G : h.Ns mainGlobals mg) (c : He.SaysD fa fn K) : mg "see_parcels" = some (.ref (He.ga K "see_parcels")) := He.glo_ok KX G (c.fact 22)
theorem c_MOST_BOXES {h : Heap} {mg : Str → Option Value} {K : PySem.W.Frag} (KX : K.In h) (G : h.Ns mainGlobals mg) (c : He.SaysD fa fn K) : ∃ t, mg "MOST_BOXES" = some (.int 8 t) := He.int_ok KX G (c.fact 23)
theorem c_MOST_SIZE {h : Heap} {mg : Str → Option Value} {K : PySem.W.Frag} (KX : K.In h) (G : h.Ns mainGlobals mg) (c : He.SaysD fa fn K) : ∃ t, mg "MOST_SIZE" = some (.int 9 t) := He.int_ok KX G (c.fact 24)
theorem x_NoSize {K : PySem.W.Frag} (c : He.SaysD fa fn K) : PySem.W.excIn K (He.ga K "NoSize") He.veBase "ValueError.__new__" = true ∧ PySem.W.keepIn K (.ref (He.ga K "NoSize")) = true ∧ PySem.W.subIn K (.ref (He.ga K "NoSize")) (.type "BaseException") = some true ∧ PySem.W.typeIn K (.ref (He.ga K "NoSize")) = some (.type "type") := He.exc_ok (c.fact 25)
theorem x_NoWall {K : PySem.W.Frag} (c : He.SaysD fa fn K) : PySem.W.excIn K (He.ga K "NoWall") He.veBase "ValueError.__new__" = true ∧ PySem.W.keepIn K (.ref (He.ga K "NoWall")) = true ∧ PySem.W.subIn K (.ref (He.ga K "NoWall")) (.type "BaseException") = some true ∧ PySem.W.typeIn K (.ref (He.ga K "NoWall")) = some (.type "type") := He.exc_ok (c.fact 26)
theorem clW {K : PySem.W.Frag} (c : He.SaysD fa fn K) : Cls K (He.ga K "Wall") := He.cls_ok (c.fact 27)
theorem tW {K : PySem.W.Frag} (c : He.SaysD fa fn K) : TW K := ⟨clW c, He.noat_ok (c.fact 28), He.noat_ok (c.fact 29), He.noat_ok (c.fact 30), He.noat_ok (c.fact 31)⟩
theorem mkW {K : PySem.W.Frag} (c : He.SaysD fa fn K) : Mk K (He.ga K "Wall") (He.ma K (He.ga K "Wall") "__init__") := He.mkr_ok (c.fact 32)
theorem m_Wall_sizes {K : PySem.W.Frag} (c : He.SaysD fa fn K) : Meth K (He.ga K "Wall") "sizes" (He.ma K (He.ga K "Wall") "sizes") := He.meth_ok (c.fact 33)
theorem sc_law_drawn : FnScope ["script", "k", "many", "cell", "stir"] ["script", "k", "many"] (defScope s_law_drawn) := ⟨rfl, rfl, rfl, by decide +kernel, rfl, by decide +kernel, by decide +kernel⟩
theorem ok_law_drawn {P : Program} {w : World} {base : Heap} {h : Heap} {mg : Str → Option Value} {K : PySem.W.Frag} (KX : K.In h) (G : h.Ns mainGlobals mg) (c : He.SaysD fa fn K) : OkF P w K mg base CX0 1 (He.fAd K d_law_drawn.at_) ["script", "k", "many"] (sp_law_drawn K) := by
  obtain ⟨fd, F⟩ := c.def_ 0 (d := d_law_drawn) rfl
  have nd := sc_law_drawn.nd
  refine ⟨fd, F.ok sc_law_drawn (len_law_drawn (K := K)) (fun cdv A outer s H vs Q E hr hsp => ⟨t_law_drawn K E, PSs.nox ?_, pure_law_drawn vs H Q E hsp⟩), F.bindsN (fun _ _ _ _ _ _ us hl => match us, hl with | [_, _, _], _ => rfl), F.kp⟩
  exact pss_cons (ps_set (i := 3) nd rfl (Or.inl rfl) (pe_int))
      (pss_cons (ps_if (pt_cmpR op_gt (pe_callB call_len_seq (by rfl) (f_len KX G c) (by decide +kernel) (pa_cons (pv 0) pa_nil)) (pe_int) (nomark _))
        (pss_one (ps_set (i := 3) nd rfl (Or.inl rfl) (pe_ix ix_list (pv 0) (pe_op op_modN (pv 1) (pe_callB call_len_seq (by rfl) (f_len KX G c) (by decide +kernel) (pa_cons (pv 0) pa_nil))) (fun _ _ => rfl))))
        (pss_nil))
      (pss_cons (ps_set (i := 4) nd rfl (Or.inl rfl) (pe_op op_mod (pe_op op_add (pe_op op_add (pe_op op_mul (pv 3) (pe_int)) (pe_op op_mul (pe_op op_add (pv 1) (pe_int)) (pe_int))) (pe_callB call_len_seq (by rfl) (f_len KX G c) (by decide +kernel) (pa_cons (pv 0) pa_nil))) (pe_int)))
      (pss_cons (ps_set (i := 4) nd rfl (Or.inl rfl) (pe_op op_mod (pe_op op_add (pe_op op_add (pe_op op_mul (pv 4) (pv 4)) (pe_op op_mul (pv 1) (pe_int))) (pe_int)) (pe_int)))
      (pss_one (ps_ret (pe_op op_modN (pe_op op_fdiv (pe_op op_mod (pe_op op_mul (pv 4) (pe_int)) (pe_int)) (pe_int)) (pv 2)))))))
theorem sc_law_sizes_by : FnScope ["script", "base", "many", "top", "k"] ["script", "base"] (defScope s_law_sizes_by) := ⟨rfl, rfl, rfl, by decide +kernel, rfl, by decide +kernel, by decide +kernel⟩
theorem ok_law_sizes_by {P : Program} {w : World} {base : Heap} {h : Heap} {mg : Str → Option Value} {K : PySem.W.Frag} (KX : K.In h) (G : h.Ns mainGlobals mg) (c : He.SaysD fa fn K) : OkF P w K mg base CX0 2 (He.fAd K d_law_sizes_by.at_) ["script", "base"] (sp_law_sizes_by K) := by
  obtain ⟨fd, F⟩ := c.def_ 1 (d := d_law_sizes_by) rfl
  obtain ⟨fd_law_drawn, G_law_drawn, b_law_drawn, k_law_drawn⟩ := ok_law_drawn (P := P) (w := w) (base := base) KX G c
  have nd := sc_law_sizes_by.nd
  refine ⟨fd, F.ok sc_law_sizes_by (len_law_sizes_by (K := K)) (fun cdv A outer s H vs Q E hr hsp => ⟨t_law_sizes_by K E, PSs.nox ?_, pure_law_sizes_by vs H Q E hsp⟩), F.bindsN (fun _ _ _ _ _ _ us hl => match us, hl with | [_, _], _ => rfl), F.kp⟩
  exact pss_cons (ps_set (i := 2) nd rfl (Or.inl rfl) (pe_op op_add (pe_int) (pe_call G_law_drawn (hr.mono (by decide : 1 ≤ 1)) rfl (g_law_drawn KX G c) k_law_drawn b_law_drawn .nil pass0 (pa_cons (pv 0) (pa_cons (pv 1) (pa_cons (pe_int) pa_nil))))))
      (pss_cons (ps_set (i := 3) nd rfl (Or.inr rfl) (pe_ix ix_list (pe_lst (pa_cons (pe_int) (pa_cons (pe_int) (pa_cons (pe_int) pa_nil)))) (pe_call G_law_drawn (hr.mono (by decide : 1 ≤ 1)) rfl (g_law_drawn KX G c) k_law_drawn b_law_drawn .nil pass0 (pa_cons (pv 0) (pa_cons (pe_op op_add (pv 1) (pe_int)) (pa_cons (pe_int) pa_nil)))) (fun _ _ => rfl)))
      (pss_one (ps_ret (pe_lc (own := [("k", 4)]) (g := gName 4) rfl nd (pi_range1 rfl (f_range KX G c) (pa_cons (pv 2) pa_nil)) (blkOk_by (N := ["script", "base", "many", "top", "k"]) (sc := defScope s_law_sizes_by) (by decide +kernel)) (fun _ _ _ _ _ => pg_name (i := 4) nd rfl (Or.inl rfl)) (fun _ _ _ _ _ => pts_nil) (fun _ _ _ _ _ => pe_op op_add (pe_int) (pe_call G_law_drawn (hr.mono (by decide : 1 ≤ 1)) rfl (g_law_drawn KX G c) k_law_drawn b_law_drawn .nil pass0 (pa_cons (pv 0) (pa_cons (pe_op op_add (pe_op op_add (pv 1) (pe_int)) (pv 4)) (pa_cons (pv 3) pa_nil)))))))))
theorem sc_law_parcels_by : FnScope ["script", "sizes", "parcels", "box", "size", "way", "at", "k"] ["script", "sizes"] (defScope s_law_parcels_by) := ⟨rfl, rfl, rfl, by decide +kernel, rfl, by decide +kernel, by decide +kernel⟩
theorem ok_law_parcels_by {P : Program} {w : World} {base : Heap} {h : Heap} {mg : Str → Option Value} {K : PySem.W.Frag} (KX : K.In h) (G : h.Ns mainGlobals mg) (c : He.SaysD fa fn K) : OkF P w K mg base CX0 2 (He.fAd K d_law_parcels_by.at_) ["script", "sizes"] (sp_law_parcels_by K) := by
  obtain ⟨fd, F⟩ := c.def_ 2 (d := d_law_parcels_by) rfl
  obtain ⟨fd_law_drawn, G_law_drawn, b_law_drawn, k_law_drawn⟩ := ok_law_drawn (P := P) (w := w) (base := base) KX G c
  have nd := sc_law_parcels_by.nd
  refine ⟨fd, F.ok sc_law_parcels_by (len_law_parcels_by (K := K)) (fun cdv A outer s H vs Q E hr hsp => ⟨t_law_parcels_by K E, PSs.nox ?_, pure_law_parcels_by vs H Q E hsp⟩), F.bindsN (fun _ _ _ _ _ _ us hl => match us, hl with | [_, _], _ => rfl), F.kp⟩
  exact pss_cons (ps_if (pt_cmpR op_eq (pe_call G_law_drawn (hr.mono (by decide : 1 ≤ 1)) rfl (g_law_drawn KX G c) k_law_drawn b_law_drawn .nil pass0 (pa_cons (pv 0) (pa_cons (pe_int) (pa_cons (pe_int) pa_nil)))) (pe_int) (nomark _))
        (pss_one (ps_ret (pe_lc (own := [("k", 7)]) (g := gName 7) rfl nd (pi_range1 rfl (f_range KX G c) (pa_cons (pe_call G_law_drawn (hr.mono (by decide : 1 ≤ 1)) rfl (g_law_drawn KX G c) k_law_drawn b_law_drawn .nil pass0 (pa_cons (pv 0) (pa_cons (pe_int) (pa_cons (pe_int) pa_nil)))) pa_nil)) (blkOk_by (N := ["script", "sizes", "parcels", "box", "size", "way", "at", "k"]) (sc := defScope s_law_parcels_by) (by decide +kernel)) (fun _ _ _ _ _ => pg_name (i := 7) nd rfl (Or.inl rfl)) (fun _ _ _ _ _ => pts_nil) (fun _ _ _ _ _ => pe_op op_add (pe_int) (pe_call G_law_drawn (hr.mono (by decide : 1 ≤ 1)) rfl (g_law_drawn KX G c) k_law_drawn b_law_drawn .nil pass0 (pa_cons (pv 0) (pa_cons (pe_op op_add (pe_int) (pv 7)) (pa_cons (pe_int) pa_nil))))))))
        (pss_nil))
      (pss_cons (ps_set (i := 2) nd rfl (Or.inl rfl) (pe_lst pa_nil))
      (pss_cons (ps_forP (PassesOwn.never) rfl (pi_range1 rfl (f_range KX G c) (pa_cons (pe_callB call_len_seq (by rfl) (f_len KX G c) (by decide +kernel) (pa_cons (pv 1) pa_nil)) pa_nil)) (pg_name (i := 3) nd rfl (Or.inl rfl))
        (pss_one (ps_if (pt_cmpR op_gt (pe_call G_law_drawn (hr.mono (by decide : 1 ≤ 1)) rfl (g_law_drawn KX G c) k_law_drawn b_law_drawn .nil pass0 (pa_cons (pv 0) (pa_cons (pe_op op_add (pe_int) (pv 3)) (pa_cons (pe_int) pa_nil)))) (pe_int) (nomark _))
        (pss_cons (ps_set (i := 4) nd rfl (Or.inl rfl) (pe_op op_add (pe_int) (pe_call G_law_drawn (hr.mono (by decide : 1 ≤ 1)) rfl (g_law_drawn KX G c) k_law_drawn b_law_drawn .nil pass0 (pa_cons (pv 0) (pa_cons (pe_op op_add (pe_int) (pv 3)) (pa_cons (pe_ix ix_list (pv 1) (pv 3) (fun _ _ => rfl)) pa_nil))))))
      (pss_one (ps_expr (pe_bm PySem.F.plainAttrs_list PySem.F.slot_list_insert PySem.F.type_list_insert mt_insert (pv 2) (pa_cons (pe_call G_law_drawn (hr.mono (by decide : 1 ≤ 1)) rfl (g_law_drawn KX G c) k_law_drawn b_law_drawn .nil pass0 (pa_cons (pv 0) (pa_cons (pe_op op_add (pe_int) (pv 3)) (pa_cons (pe_op op_add (pe_callB call_len_seq (by rfl) (f_len KX G c) (by decide +kernel) (pa_cons (pv 2) pa_nil)) (pe_int)) pa_nil)))) (pa_cons (pv 4) pa_nil))))))
        (pss_nil))))
      (pss_cons (ps_set (i := 5) nd rfl (Or.inl rfl) (pe_call G_law_drawn (hr.mono (by decide : 1 ≤ 1)) rfl (g_law_drawn KX G c) k_law_drawn b_law_drawn .nil pass0 (pa_cons (pv 0) (pa_cons (pe_int) (pa_cons (pe_int) pa_nil)))))
      (pss_cutP (ps_if (pt_cmpR op_eq (pv 5) (pe_int) (nomark _))
        (pss_one (ps_expr (pe_bm PySem.F.plainAttrs_list PySem.F.slot_list_append PySem.F.type_list_append mt_append (pv 2) (pa_cons (pe_callB (cr_max rfl) (by rfl) (f_max KX G c) (by decide +kernel) (pa_cons (pv 1) pa_nil)) pa_nil))))
        (pss_nil))
      (pss_cutP (ps_if (PW.pt (pw_and (pt_cmpR op_eq (pv 5) (pe_int) (nomark _)) (pw_and1 (pt_cmpR op_gt (pe_callB call_len_seq (by rfl) (f_len KX G c) (by decide +kernel) (pa_cons (pv 2) pa_nil)) (pe_int) (nomark _)))))
        (pss_cons (ps_set (i := 6) nd rfl (Or.inl rfl) (pe_call G_law_drawn (hr.mono (by decide : 1 ≤ 1)) rfl (g_law_drawn KX G c) k_law_drawn b_law_drawn .nil pass0 (pa_cons (pv 0) (pa_cons (pe_int) (pa_cons (pe_callB call_len_seq (by rfl) (f_len KX G c) (by decide +kernel) (pa_cons (pv 2) pa_nil)) pa_nil)))))
      (pss_one (ps_asg (pe_callB (call_min2 rfl) (by rfl) (f_min KX G c) (by decide +kernel) (pa_cons (pe_int) (pa_cons (pe_op op_add (pe_ix ix_list (pv 2) (pv 6) (fun _ _ => rfl)) (pe_int)) pa_nil))) (pg_sub (pv 2) (pv 6) set_list))))
        (pss_nil))
      (pss_one (ps_ret (pv 2))))))))
theorem sc_Wall_sizes : FnScope ["self"] ["self"] (defScope s_Wall_sizes) := ⟨rfl, rfl, rfl, by decide +kernel, rfl, by decide +kernel, by decide +kernel⟩
theorem ok_Wall_sizes {P : Program} {w : World} {base : Heap} {h : Heap} {mg : Str → Option Value} {K : PySem.W.Frag} (KX : K.In h) (G : h.Ns mainGlobals mg) (c : He.SaysD fa fn K) : OkF P w K mg base CX0 1 (He.fAd K d_Wall_sizes.at_) ["self"] (sp_Wall_sizes K) := by
  obtain ⟨fd, F⟩ := c.def_ 3 (d := d_Wall_sizes) rfl
  have nd := sc_Wall_sizes.nd
  refine ⟨fd, F.ok sc_Wall_sizes (len_Wall_sizes (K := K)) (fun cdv A outer s H vs Q E hr hsp => ⟨t_Wall_sizes K E, PSs.nox ?_, pure_Wall_sizes (tW c) vs H Q E hsp⟩), F.bindsN (fun _ _ _ _ _ _ us hl => match us, hl with | [_], _ => rfl), F.kp⟩
  exact pss_one (ps_ret (pe_callTy call_list_of (by rfl) (f_list KX G c) (by decide +kernel) (pa_cons (pe_fld (pv 0) rfl) pa_nil)))
theorem sc_is_size : FnScope ["number"] ["number"] (defScope s_is_size) := ⟨rfl, rfl, rfl, by decide +kernel, rfl, by decide +kernel, by decide +kernel⟩
theorem ok_is_size {P : Program} {w : World} {base : Heap} {h : Heap} {mg : Str → Option Value} {K : PySem.W.Frag} (KX : K.In h) (G : h.Ns mainGlobals mg) (c : He.SaysD fa fn K) : OkF P w K mg base CX0 1 (He.fAd K d_is_size.at_) ["number"] (sp_is_size K) := by
  obtain ⟨fd, F⟩ := c.def_ 4 (d := d_is_size) rfl
  have nd := sc_is_size.nd
  refine ⟨fd, F.ok sc_is_size (len_is_size (K := K)) (fun cdv A outer s H vs Q E hr hsp => ⟨t_is_size K E, PSs.nox ?_, pure_is_size vs H Q E hsp⟩), F.bindsN (fun _ _ _ _ _ _ us hl => match us, hl with | [_], _ => rfl), F.kp⟩
  exact pss_one (ps_ret (pe_and (pe_cmpR op_le (pe_int) (pv 0) (nomark _)) (pe_one (pe_cmpR op_le (pv 0) (pe_glob rfl (c_MOST_SIZE KX G c).choose_spec ⟨_, rfl⟩) (nomark _)))))
theorem sc_see_parcels : FnScope ["parcels", "size"] ["parcels"] (defScope s_see_parcels) := ⟨rfl, rfl, rfl, by decide +kernel, rfl, by decide +kernel, by decide +kernel⟩
theorem ok_see_parcels {P : Program} {w : World} {base : Heap} {h : Heap} {mg : Str → Option Value} {K : PySem.W.Frag} (KX : K.In h) (G : h.Ns mainGlobals mg) (c : He.SaysD fa fn K) : OkF P w K mg base (L2.CX P w) 2 (He.fAd K d_see_parcels.at_) ["parcels"] (sp_see_parcels K) := by
  obtain ⟨fd, F⟩ := c.def_ 5 (d := d_see_parcels) rfl
  obtain ⟨fd_is_size, G_is_size, b_is_size, k_is_size⟩ := ok_is_size (P := P) (w := w) (base := base) KX G c
  have nd := sc_see_parcels.nd
  refine ⟨fd, F.ok sc_see_parcels (len_see_parcels (K := K)) (fun cdv A outer s H vs Q E hr hsp => ⟨t_see_parcels K E, id ?_, pure_see_parcels vs H Q E hsp⟩), F.bindsN (fun _ _ _ _ _ _ us hl => match us, hl with | [_], _ => rfl), F.kp⟩
  exact pss_one (ps_forP (passes_of rfl) rfl (pi_list (pv 0)) (pg_name (i := 1) nd rfl (Or.inl rfl))
        (pss_one (ps_if (pt_not (pt_val (pe_call G_is_size (hr.mono (by decide : 1 ≤ 1)) rfl (g_is_size KX G c) k_is_size b_is_size .nil pass0 (pa_cons (pv 1) pa_nil))))
        (pss_one (ps_raise rfl (takes_of rfl rfl rfl rfl) (pmk_own PySem.F.excBase_ValueError (x_NoSize c).1 (g_NoSize KX G c) (x_NoSize c).2.1 (raises_own (x_NoSize c).2.2.1 (x_NoSize c).2.2.2) (by exact rfl))))
        (pss_nil))))
theorem sc_Wall_init : FnScope ["self", "sizes", "size"] ["self", "sizes"] (defScope s_Wall_init) := ⟨rfl, rfl, rfl, by decide +kernel, rfl, by decide +kernel, by decide +kernel⟩
theorem ok_Wall_init {P : Program} {w : World} {base : Heap} {h : Heap} {mg : Str → Option Value} {K : PySem.W.Frag} (KX : K.In h) (G : h.Ns mainGlobals mg) (c : He.SaysD fa fn K) : OkF P w K mg base (L2.CX P w) 2 (He.fAd K d_Wall_init.at_) ["self", "sizes"] (sp_Wall_init K) := by
  obtain ⟨fd, F⟩ := c.def_ 6 (d := d_Wall_init) rfl
  obtain ⟨fd_is_size, G_is_size, b_is_size, k_is_size⟩ := ok_is_size (P := P) (w := w) (base := base) KX G c
  have nd := sc_Wall_init.nd
  refine ⟨fd, F.ok sc_Wall_init (len_Wall_init (K := K)) (fun cdv A outer s H vs Q E hr hsp => ⟨t_Wall_init K E, id ?_, pure_Wall_init (tW c) vs H Q E hsp⟩), F.bindsN (fun _ _ _ _ _ _ us hl => match us, hl with | [_, _], _ => rfl), F.kp⟩
  exact pss_cons (ps_if (PW.pt (pw_or (pt_cmpR op_lt (pe_callB call_len_seq (by rfl) (f_len KX G c) (by decide +kernel) (pa_cons (pv 1) pa_nil)) (pe_int) (nomark _)) (pw_or1 (pt_cmpR op_gt (pe_callB call_len_seq (by rfl) (f_len KX G c) (by decide +kernel) (pa_cons (pv 1) pa_nil)) (pe_glob rfl (c_MOST_BOXES KX G c).choose_spec ⟨_, rfl⟩) (nomark _)))))
        (pss_one (ps_raise rfl (takes_of rfl rfl rfl rfl) (pmk_own PySem.F.excBase_ValueError (x_NoWall c).1 (g_NoWall KX G c) (x_NoWall c).2.1 (raises_own (x_NoWall c).2.2.1 (x_NoWall c).2.2.2) (by exact rfl))))
        (pss_nil))
      (pss_cons (ps_forP (passes_of rfl) rfl (pi_list (pv 1)) (pg_name (i := 2) nd rfl (Or.inl rfl))
        (pss_one (ps_if (pt_not (pt_val (pe_call G_is_size (hr.mono (by decide : 1 ≤ 1)) rfl (g_is_size KX G c) k_is_size b_is_size .nil pass0 (pa_cons (pv 2) pa_nil))))
        (pss_one (ps_raise rfl (takes_of rfl rfl rfl rfl) (pmk_own PySem.F.excBase_ValueError (x_NoWall c).1 (g_NoWall KX G c) (x_NoWall c).2.1 (raises_own (x_NoWall c).2.2.1 (x_NoWall c).2.2.2) (by exact rfl))))
        (pss_nil))))
      (pss_cons (ps_fld (pv 0) (pe_callTy call_list_of (by rfl) (f_list KX G c) (by decide +kernel) (pa_cons (pv 1) pa_nil)) rfl)
      (pss_cons (ps_fld (pv 0) (pe_lc (own := [("size", 2)]) (g := gName 2) rfl nd (pi_list (pv 1)) (blkOk_by (N := ["self", "sizes", "size"]) (sc := defScope s_Wall_init) (by decide +kernel)) (fun _ _ _ _ _ => pg_name (i := 2) nd rfl (Or.inl rfl)) (fun _ _ _ _ _ => pts_nil) (fun _ _ _ _ _ => pe_non)) rfl)
      (pss_cons (ps_fld (pv 0) (pe_lst pa_nil) rfl)
      (pss_one (ps_fld (pv 0) (pe_int) rfl))))))
theorem sc_fit : FnScope ["sizes", "parcels", "boxes", "size", "order", "free", "found", "k", "one", "box"] ["sizes", "parcels"] (defScope s_fit) := ⟨rfl, rfl, rfl, by decide +kernel, rfl, by decide +kernel, by decide +kernel⟩
theorem ok_fit {P : Program} {w : World} {base : Heap} {h : Heap} {mg : Str → Option Value} {K : PySem.W.Frag} (KX : K.In h) (G : h.Ns mainGlobals mg) (c : He.SaysD fa fn K) : OkF P w K mg base (L2.CX P w) 4 (He.fAd K d_fit.at_) ["sizes", "parcels"] (sp_fit K) := by
  obtain ⟨fd, F⟩ := c.def_ 7 (d := d_fit) rfl
  obtain ⟨fd_see_parcels, G_see_parcels, b_see_parcels, k_see_parcels⟩ := ok_see_parcels (P := P) (w := w) (base := base) KX G c
  obtain ⟨fd_Wall_init, G_Wall_init, b_Wall_init, k_Wall_init⟩ := ok_Wall_init (P := P) (w := w) (base := base) KX G c
  obtain ⟨fd_Wall_sizes, G_Wall_sizes, b_Wall_sizes, k_Wall_sizes⟩ := ok_Wall_sizes (P := P) (w := w) (base := base) KX G c
  have nd := sc_fit.nd
  refine ⟨fd, F.ok sc_fit (len_fit (K := K)) (fun cdv A outer s H vs Q E hr hsp => ⟨t_fit K E, id ?_, pure_fit (tW c) vs H Q E hsp⟩), F.bindsN (fun _ _ _ _ _ _ us hl => match us, hl with | [_, _], _ => rfl), F.kp⟩
  exact pss_cons (ps_set (i := 2) nd rfl (Or.inr rfl) (pe_meth0 (pe_make (mkW c) G_Wall_init (hr.mono (by decide : 3 ≤ 3)) rfl (g_Wall KX G c) b_Wall_init .nil (passes_call (takes_of rfl rfl rfl rfl) (fun _ _ _ _ h => h)) (pa_cons (pv 0) pa_nil)) (clW c) (m_Wall_sizes c) G_Wall_sizes (hr.mono (by decide : 1 ≤ 3)) b_Wall_sizes .nil pass0 ))
      (pss_cons (ps_expr (pe_call G_see_parcels (hr.mono (by decide : 2 ≤ 3)) rfl (g_see_parcels KX G c) k_see_parcels b_see_parcels .nil (passes_call (takes_of rfl rfl rfl rfl) (fun _ _ _ _ h => h)) (pa_cons (pv 1) pa_nil)))
      (pss_cons (ps_forP (passes_of rfl) rfl (pi_range2 rfl (f_range KX G c) (pa_cons (pe_int) (pa_cons (pe_op op_add (pe_glob rfl (c_MOST_SIZE KX G c).choose_spec ⟨_, rfl⟩) (pe_int)) pa_nil))) (pg_name (i := 3) nd rfl (Or.inr rfl))
        (pss_one (ps_if (pt_cmpR op_gt (pe_callB call_len_seq (by rfl) (f_len KX G c) (by decide +kernel) (pa_cons (pe_lc (own := [("one", 8)]) (g := gName 8) rfl nd (pi_list (pv 1)) (blkOk_by (N := ["sizes", "parcels", "boxes", "size", "order", "free", "found", "k", "one", "box"]) (sc := defScope s_fit) (by decide +kernel)) (fun _ _ _ _ _ => pg_name (i := 8) nd rfl (Or.inl rfl)) (fun _ _ _ _ _ => pts_one (pt_cmpR op_ge (pv 8) (pv 3) (nomark _))) (fun _ _ _ _ _ => pv 8)) pa_nil)) (pe_callB call_len_seq (by rfl) (f_len KX G c) (by decide +kernel) (pa_cons (pe_lc (own := [("box", 9)]) (g := gName 9) rfl nd (pi_list (pv 2)) (blkOk_by (N := ["sizes", "parcels", "boxes", "size", "order", "free", "found", "k", "one", "box"]) (sc := defScope s_fit) (by decide +kernel)) (fun _ _ _ _ _ => pg_name (i := 9) nd rfl (Or.inl rfl)) (fun _ _ _ _ _ => pts_one (pt_cmpR op_ge (pv 9) (pv 3) (nomark _))) (fun _ _ _ _ _ => pv 9)) pa_nil)) (nomark _))
        (pss_one (ps_ret (pe_tup (pa_cons (pe_str) (pa_cons (pv 3) pa_nil)))))
        (pss_nil))))
      (pss_cons (ps_set (i := 4) nd rfl (Or.inl rfl) (pe_callB cr_sortPO (by rfl) (f_sorted KX G c) (by decide +kernel) (pa_cons (pe_lc (own := [("k", 7)]) (g := gName 7) rfl nd (pi_range1 rfl (f_range KX G c) (pa_cons (pe_callB call_len_seq (by rfl) (f_len KX G c) (by decide +kernel) (pa_cons (pv 1) pa_nil)) pa_nil)) (blkOk_by (N := ["sizes", "parcels", "boxes", "size", "order", "free", "found", "k", "one", "box"]) (sc := defScope s_fit) (by decide +kernel)) (fun _ _ _ _ _ => pg_name (i := 7) nd rfl (Or.inl rfl)) (fun _ _ _ _ _ => pts_nil) (fun _ _ _ _ _ => pe_tup (pa_cons (pe_op op_sub (pe_int) (pe_ix ix_list (pv 1) (pv 7) (fun _ _ => rfl))) (pa_cons (pv 7) pa_nil)))) pa_nil)))
      (pss_cons (ps_set (i := 5) nd rfl (Or.inl rfl) (pe_callB cr_sortPO (by rfl) (f_sorted KX G c) (by decide +kernel) (pa_cons (pe_lc (own := [("box", 9)]) (g := gName 9) rfl nd (pi_range1 rfl (f_range KX G c) (pa_cons (pe_callB call_len_seq (by rfl) (f_len KX G c) (by decide +kernel) (pa_cons (pv 2) pa_nil)) pa_nil)) (blkOk_by (N := ["sizes", "parcels", "boxes", "size", "order", "free", "found", "k", "one", "box"]) (sc := defScope s_fit) (by decide +kernel)) (fun _ _ _ _ _ => pg_name (i := 9) nd rfl (Or.inl rfl)) (fun _ _ _ _ _ => pts_nil) (fun _ _ _ _ _ => pe_tup (pa_cons (pe_op op_sub (pe_int) (pe_ix ix_list (pv 2) (pv 9) (fun _ _ => rfl))) (pa_cons (pv 9) pa_nil)))) pa_nil)))
      (pss_cons (ps_setLc (i := 6) (own := [("size", 3)]) (g := gName 3) rfl nd rfl rfl (sw_true rfl rfl rfl (by decide +kernel)) (pi_list (pv 1)) (blkOk_by (N := ["sizes", "parcels", "boxes", "size", "order", "free", "found", "k", "one", "box"]) (sc := defScope s_fit) (by decide +kernel)) (fun _ _ _ _ _ => pg_name (i := 3) nd rfl (Or.inl rfl)) (fun _ _ _ _ _ => pts_nil) (fun _ _ _ _ _ => pe_int))
      (pss_cons (ps_forP (passes_of rfl) rfl (pi_range1 rfl (f_range KX G c) (pa_cons (pe_callB call_len_seq (by rfl) (f_len KX G c) (by decide +kernel) (pa_cons (pv 4) pa_nil)) pa_nil)) (pg_name (i := 7) nd rfl (Or.inl rfl))
        (pss_one (ps_asg (pe_ix ix_tup (pe_ix ix_list (pv 5) (pv 7) (fun _ _ => rfl)) (pe_int) (fun _ _ => rfl)) (pg_sub (pv 6) (pe_ix ix_tup (pe_ix ix_list (pv 4) (pv 7) (fun _ _ => rfl)) (pe_int) (fun _ _ => rfl)) set_list))))
      (pss_one (ps_ret (pe_tup (pa_cons (pe_str) (pa_cons (pv 6) pa_nil)))))))))))
theorem sc_law_whole : FnScope ["found"] ["found"] (defScope s_law_whole) := ⟨rfl, rfl, rfl, by decide +kernel, rfl, by decide +kernel, by decide +kernel⟩
theorem ok_law_whole {P : Program} {w : World} {base : Heap} {h : Heap} {mg : Str → Option Value} {K : PySem.W.Frag} (KX : K.In h) (G : h.Ns mainGlobals mg) (c : He.SaysD fa fn K) : OkF P w K mg base CX0 1 (He.fAd K d_law_whole.at_) ["found"] (sp_law_whole K) := by
  obtain ⟨fd, F⟩ := c.def_ 8 (d := d_law_whole) rfl
  have nd := sc_law_whole.nd
  refine ⟨fd, F.ok sc_law_whole (len_law_whole (K := K)) (fun cdv A outer s H vs Q E hr hsp => ⟨t_law_whole K E, PSs.nox ?_, pure_law_whole vs H Q E hsp⟩), F.bindsN (fun _ _ _ _ _ _ us hl => match us, hl with | [_], _ => rfl), F.kp⟩
  exact pss_one (ps_ret (pe_and (pe_callB call_isi (by rfl) (f_isinstance KX G c) (by decide +kernel) (pa_cons (pv 0) (pa_cons (pe_bltn (by rfl) (f_int KX G c) (by decide +kernel) rfl) pa_nil))) (pe_one (pe_not (pe_callB call_isi (by rfl) (f_isinstance KX G c) (by decide +kernel) (pa_cons (pv 0) (pa_cons (pe_bltn (by rfl) (f_bool KX G c) (by decide +kernel) rfl) pa_nil)))))))
theorem sc_law_right_k05 : FnScope ["found", "sizes", "parcels", "above", "k", "box", "size"] ["found", "sizes", "parcels"] (defScope s_law_right_k05) := ⟨rfl, rfl, rfl, by decide +kernel, rfl, by decide +kernel, by decide +kernel⟩
theorem ok_law_right_k05 {P : Program} {w : World} {base : Heap} {h : Heap} {mg : Str → Option Value} {K : PySem.W.Frag} (KX : K.In h) (G : h.Ns mainGlobals mg) (c : He.SaysD fa fn K) : OkF P w K mg base CX0 2 (He.fAd K d_law_right_k05.at_) ["found", "sizes", "parcels"] (sp_law_right_k05 K) := by
  obtain ⟨fd, F⟩ := c.def_ 9 (d := d_law_right_k05) rfl
  obtain ⟨fd_law_whole, G_law_whole, b_law_whole, k_law_whole⟩ := ok_law_whole (P := P) (w := w) (base := base) KX G c
  have nd := sc_law_right_k05.nd
  refine ⟨fd, F.ok sc_law_right_k05 (len_law_right_k05 (K := K)) (fun cdv A outer s H vs Q E hr hsp => ⟨t_law_right_k05 K E, PSs.nox ?_, pure_law_right_k05 vs H Q E hsp⟩), F.bindsN (fun _ _ _ _ _ _ us hl => match us, hl with | [_, _, _], _ => rfl), F.kp⟩
  exact pss_cons (ps_if (PW.pt (pw_or (pt_not (pt_val (pe_callB call_isi (by rfl) (f_isinstance KX G c) (by decide +kernel) (pa_cons (pv 0) (pa_cons (pe_bltn (by rfl) (f_tuple KX G c) (by decide +kernel) rfl) pa_nil))))) (pw_or1 (pt_cmpR op_ne (pe_callB call_len_seq (by rfl) (f_len KX G c) (by decide +kernel) (pa_cons (pv 0) pa_nil)) (pe_int) (nomark _)))))
        (pss_one (ps_ret (pe_bl)))
        (pss_nil))
      (pss_cons (ps_if (pt_cmpR op_eq (pe_ix ix_tup (pv 0) (pe_int) (fun _ _ => rfl)) (pe_str) (nomark _))
        (pss_cons (ps_if (PW.pt (pw_or (pt_not (pt_val (pe_call G_law_whole (hr.mono (by decide : 1 ≤ 1)) rfl (g_law_whole KX G c) k_law_whole b_law_whole .nil pass0 (pa_cons (pe_ix ix_tup (pv 0) (pe_int) (fun _ _ => rfl)) pa_nil)))) (pw_or (pt_cmpR op_lt (pe_ix ix_tup (pv 0) (pe_int) (fun _ _ => rfl)) (pe_int) (nomark _)) (pw_or1 (pt_cmpR op_gt (pe_ix ix_tup (pv 0) (pe_int) (fun _ _ => rfl)) (pe_int) (nomark _))))))
        (pss_one (ps_ret (pe_bl)))
        (pss_nil))
      (pss_cons (ps_set (i := 3) nd rfl (Or.inl rfl) (pe_callB call_len_seq (by rfl) (f_len KX G c) (by decide +kernel) (pa_cons (pe_lc (own := [("size", 6)]) (g := gName 6) rfl nd (pi_list (pv 2)) (blkOk_by (N := ["found", "sizes", "parcels", "above", "k", "box", "size"]) (sc := defScope s_law_right_k05) (by decide +kernel)) (fun _ _ _ _ _ => pg_name (i := 6) nd rfl (Or.inl rfl)) (fun _ _ _ _ _ => pts_one (pt_cmpR op_ge (pv 6) (pe_ix ix_tup (pv 0) (pe_int) (fun _ _ => rfl)) (nomark _))) (fun _ _ _ _ _ => pv 6)) pa_nil)))
      (pss_one (ps_ret (pe_cmpR op_gt (pv 3) (pe_callB call_len_seq (by rfl) (f_len KX G c) (by decide +kernel) (pa_cons (pe_lc (own := [("size", 6)]) (g := gName 6) rfl nd (pi_list (pv 1)) (blkOk_by (N := ["found", "sizes", "parcels", "above", "k", "box", "size"]) (sc := defScope s_law_right_k05) (by decide +kernel)) (fun _ _ _ _ _ => pg_name (i := 6) nd rfl (Or.inl rfl)) (fun _ _ _ _ _ => pts_one (pt_cmpR op_ge (pv 6) (pe_ix ix_tup (pv 0) (pe_int) (fun _ _ => rfl)) (nomark _))) (fun _ _ _ _ _ => pv 6)) pa_nil)) (nomark _))))))
        (pss_nil))
      (pss_cons (ps_if (PW.pt (pw_or (pt_cmpR op_ne (pe_ix ix_tup (pv 0) (pe_int) (fun _ _ => rfl)) (pe_str) (nomark _)) (pw_or (pt_not (pt_val (pe_callB call_isi (by rfl) (f_isinstance KX G c) (by decide +kernel) (pa_cons (pe_ix ix_tup (pv 0) (pe_int) (fun _ _ => rfl)) (pa_cons (pe_bltn (by rfl) (f_list KX G c) (by decide +kernel) rfl) pa_nil))))) (pw_or1 (pt_cmpR op_ne (pe_callB call_len_seq (by rfl) (f_len KX G c) (by decide +kernel) (pa_cons (pe_ix ix_tup (pv 0) (pe_int) (fun _ _ => rfl)) pa_nil)) (pe_callB call_len_seq (by rfl) (f_len KX G c) (by decide +kernel) (pa_cons (pv 2) pa_nil)) (nomark _))))))
        (pss_one (ps_ret (pe_bl)))
        (pss_nil))
      (pss_cons (ps_forP (PassesOwn.never) rfl (pi_range1 rfl (f_range KX G c) (pa_cons (pe_callB call_len_seq (by rfl) (f_len KX G c) (by decide +kernel) (pa_cons (pv 2) pa_nil)) pa_nil)) (pg_name (i := 4) nd rfl (Or.inl rfl))
        (pss_cons (ps_set (i := 5) nd rfl (Or.inl rfl) (pe_ix ix_list (pe_ix ix_tup (pv 0) (pe_int) (fun _ _ => rfl)) (pv 4) (fun _ _ => rfl)))
      (pss_one (ps_if (PW.pt (pw_or (pt_not (pt_val (pe_call G_law_whole (hr.mono (by decide : 1 ≤ 1)) rfl (g_law_whole KX G c) k_law_whole b_law_whole .nil pass0 (pa_cons (pv 5) pa_nil)))) (pw_or (pt_cmpR op_lt (pv 5) (pe_int) (nomark _)) (pw_or (pt_cmpR op_ge (pv 5) (pe_callB call_len_seq (by rfl) (f_len KX G c) (by decide +kernel) (pa_cons (pv 1) pa_nil)) (nomark _)) (pw_or1 (pt_cmpR op_lt (pe_ix ix_list (pv 1) (pv 5) (fun _ _ => rfl)) (pe_ix ix_list (pv 2) (pv 4) (fun _ _ => rfl)) (nomark _)))))))
        (pss_one (ps_ret (pe_bl)))
        (pss_nil)))))
      (pss_one (ps_ret (pe_cmpR op_eq (RZ.pe_lenSetI rfl (f_len KX G c) rfl (f_set KX G c) (pe_ix ix_tup (pv 0) (pe_int) (fun _ _ => rfl))) (pe_callB call_len_seq (by rfl) (f_len KX G c) (by decide +kernel) (pa_cons (pv 2) pa_nil)) (nomark _)))))))
theorem sc_law_k05 : FnScope ["script", "sizes", "parcels", "handed", "lap", "found"] ["script"] (defScope s_law_k05) := ⟨rfl, rfl, rfl, by decide +kernel, rfl, by decide +kernel, by decide +kernel⟩
theorem ok_law_k05 {P : Program} {w : World} {base : Heap} {h : Heap} {mg : Str → Option Value} {K : PySem.W.Frag} (KX : K.In h) (G : h.Ns mainGlobals mg) (c : He.SaysD fa fn K) {fd : FuncData} (F : FunD K d_law_k05.name d_law_k05.qual d_law_k05.params d_law_k05.body d_law_k05.scope [] [] (He.fAd K d_law_k05.at_) fd) : FnOk P w K mg base CX0 5 (He.fAd K d_law_k05.at_) fd ["script"] (sp_law_k05 K) := by
  obtain ⟨fd_law_right_k05, G_law_right_k05, b_law_right_k05, k_law_right_k05⟩ := ok_law_right_k05 (P := P) (w := w) (base := base) KX G c
  obtain ⟨fd_fit, G_fit, b_fit, k_fit⟩ := ok_fit (P := P) (w := w) (base := base) KX G c
  obtain ⟨fd_law_parcels_by, G_law_parcels_by, b_law_parcels_by, k_law_parcels_by⟩ := ok_law_parcels_by (P := P) (w := w) (base := base) KX G c
  obtain ⟨fd_law_sizes_by, G_law_sizes_by, b_law_sizes_by, k_law_sizes_by⟩ := ok_law_sizes_by (P := P) (w := w) (base := base) KX G c
  have nd := sc_law_k05.nd
  refine F.ok sc_law_k05 (len_law_k05 (K := K)) (fun cdv A outer s H vs Q E hr hsp => ⟨t_law_k05 K E, PSs.nox ?_, pure_law_k05 vs H Q E hsp⟩)
  exact pss_cons (ps_set (i := 1) nd rfl (Or.inl rfl) (pe_call G_law_sizes_by (hr.mono (by decide : 2 ≤ 4)) rfl (g_law_sizes_by KX G c) k_law_sizes_by b_law_sizes_by .nil pass0 (pa_cons (pv 0) (pa_cons (pe_int) pa_nil))))
      (pss_cons (ps_set (i := 2) nd rfl (Or.inl rfl) (pe_call G_law_parcels_by (hr.mono (by decide : 2 ≤ 4)) rfl (g_law_parcels_by KX G c) k_law_parcels_by b_law_parcels_by .nil pass0 (pa_cons (pv 0) (pa_cons (pv 1) pa_nil))))
      (pss_cons (ps_set (i := 3) nd rfl (Or.inl rfl) (pe_lst (pa_cons (pe_callTy call_list_of (by rfl) (f_list KX G c) (by decide +kernel) (pa_cons (pv 1) pa_nil)) (pa_cons (pe_callTy call_list_of (by rfl) (f_list KX G c) (by decide +kernel) (pa_cons (pv 2) pa_nil)) pa_nil))))
      (pss_cons (ps_forP (PassesOwn.never) rfl (pi_range1 rfl (f_range KX G c) (pa_cons (pe_int) pa_nil)) (pg_name (i := 4) nd rfl (Or.inl rfl))
        (pss_cons (ps_set (i := 5) nd rfl (Or.inl rfl) (pe_call G_fit (hr.mono (by decide : 4 ≤ 4)) rfl (g_fit KX G c) k_fit b_fit .nil passL (pa_cons (pe_ix ix_list (pv 3) (pe_int) (fun _ _ => rfl)) (pa_cons (pe_ix ix_list (pv 3) (pe_int) (fun _ _ => rfl)) pa_nil))))
      (pss_cons (ps_if (PW.pt (pw_or (pt_not (pt_val (pe_call G_law_right_k05 (hr.mono (by decide : 2 ≤ 4)) rfl (g_law_right KX G c) k_law_right_k05 b_law_right_k05 .nil pass0 (pa_cons (pv 5) (pa_cons (pv 1) (pa_cons (pv 2) pa_nil)))))) (pw_or1 (pt_cmpR (op_neDI hr.units) (pv 3) (pe_lst (pa_cons (pv 1) (pa_cons (pv 2) pa_nil))) (nomark _)))))
        (pss_one (ps_ret (pe_bl)))
        (pss_nil))
      (pss_one (ps_if (pt_cmpR op_eq (pe_ix ix_tup (pv 5) (pe_int) (fun _ _ => rfl)) (pe_str) (nomark _))
        (pss_one (ps_expr (pe_bm PySem.F.plainAttrs_list PySem.F.slot_list_append PySem.F.type_list_append mt_append (pe_ix ix_tup (pv 5) (pe_int) (fun _ _ => rfl)) (pa_cons (pe_int) pa_nil))))
        (pss_nil))))))
      (pss_one (ps_ret (pe_cmpR (op_eqDI hr.units) (pv 3) (pe_lst (pa_cons (pv 1) (pa_cons (pv 2) pa_nil))) (nomark _)))))))
abbrev hk : PySem.W.Hook := He.hookD 4 fa fn
def ob (s : PySem.W.SharedT) : He.AlD := He.obsDG 4 fa fn (HandSHeadRun.getT s)
theorem ob_eq (s : PySem.W.SharedT) : ob s = hk.obs s.abs := He.obsDG_eq (HandSHeadRun.getT_eq s)
theorem run (w : World) : HandSHeadRun.RunEq R (PySem.W.view R.prog [21]) hk ob 4000 ["_wall", "__name__", "WallError", "NoWall", "NoSize", "MOST_BOXES", "MOST_SIZE", "is_size", "Wall", "see_parcels", "fit", "_law_drawn", "_law_whole", "_law_row", "_law_rows", "_law_sizes_by", "_law_parcels_by", "_law_right"] w := by
  intro os
  kernel_rfl
theorem facts {P : Program} {w : World} {K : PySem.W.Frag} {h : Heap} {mg : Str → Option Value} {f : Addr} (KX : K.In h) (G : h.Ns mainGlobals mg) (hfa : mg ("law" : Str) = some (.ref f)) (c : He.SaysD fa fn K) :
    ∃ fd : FuncData, (∀ (s : Shared) (v : Value), BindsTo s fd ⟨[v], []⟩ [("script", v)]) ∧ ∀ base : Heap, K.In base → base.Ns mainGlobals mg → FnOk P w K mg base CX0 5 f fd ["script"] (sp_law_k05 K) := by
  obtain ⟨fd, F⟩ := c.def_ 10 (d := d_law_k05) rfl
  have e := hfa.symm.trans (g_law KX G c)
  cases e
  have b := FunD.bindsA (ps := ["script"]) F fun _ _ _ _ _ _ us hl => match us, hl with | [_], _ => rfl
  exact ⟨fd, fun s v => b s [v] rfl, fun base _ _ => ok_law_k05 KX G c F⟩
end Pw
open PySem PySem.W PySem.Calls PyProof.Rows
theorem PySem.Challenge.cw_parcelwall_k05_whole_fit_or_too_many_holds : PySem.Challenge.rw_parcelwall_k05_whole_fit_or_too_many.Holds := by
  w_on; o_law
  refine HandSHeadRun.head_any (r := OpenLaw.row PySem.Challenge.rw_parcelwall_k05_whole_fit_or_too_many) (q := view (OpenLaw.row PySem.Challenge.rw_parcelwall_k05_whole_fit_or_too_many).prog [21]) (H := Pw.hk) (ob := Pw.ob) (M := 4000) (loose := ["_wall", "__name__", "WallError", "NoWall", "NoSize", "MOST_BOXES", "MOST_SIZE", "is_size", "Wall", "see_parcels", "fit", "_law_drawn", "_law_whole", "_law_row", "_law_rows", "_law_sizes_by", "_law_parcels_by", "_law_right"]) (d := HandSHeadRun.topDef (OpenLaw.row PySem.Challenge.rw_parcelwall_k05_whole_fit_or_too_many).prog 21) (kwd := []) Pw.ob_eq
    (by kernel_rfl) (fun s => by kernel_rfl) Pw.run (by kernel_rfl) (by kernel_rfl) (by kernel_rfl) (by rfl) (by first | assumption | decide +kernel) (by decide +kernel) ⟨rfl, rfl, rfl, rfl, rfl, by decide +kernel⟩ ?hw ?hc
  case hw => w_witness2
  case hc =>
    refine L2.walk_ofE (l := PySem.Challenge.rw_parcelwall_k05_whole_fit_or_too_many) (n := 63) (k := 5) (x := "script") (CX := L2.CX0) rfl (by decide) (by kernel_rfl) ⟨rfl, by decide, by decide⟩ ?F (fun _ _ _ _ z => z)
    intro w mg fa h Y G hmg0
    obtain ⟨K, KX, c⟩ := Y
    have hmg : mg ("law" : PySem.Str) = some (.ref fa) := by
      have e : (HandSHeadRun.topDef (OpenLaw.row PySem.Challenge.rw_parcelwall_k05_whole_fit_or_too_many).prog 21).name = ("law" : PySem.Str) := by kernel_rfl
      rw [← e]
      exact hmg0
    obtain ⟨fd, hb, hF⟩ := Pw.facts (P := (PySem.Challenge.rw_parcelwall_k05_whole_fit_or_too_many).prog) (w := w) KX G hmg c
    exact ⟨K, fd, Pw.sp_law_k05 K, KX, hb, fun H a ns hl _ hS => ⟨a, ns, rfl, hS, hl, fun _ => rfl⟩, hF⟩
