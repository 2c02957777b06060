import PyProof.Rows.All
import Wide.All
import OpenK.AllK
import Wide.FinOn
import HandS.ForMost
import HandS.Wide
import HandS.Flow
import HandS.Conv
import HandS.Zip
import HandS.IsInst
import HandS.Exc
import HandS.TryOnly
import HandS.ExcOwn
import HandS.WordsExc
import HandS.Style
import HandS.Lambda
import HandS.EndTab
import HandS.ExcIs
import KE.DataFind
import HandS.AnyAll
import HandS.RaiseMore
import KE.KNestM
import HandS.EndBits
import PySem.Challenge.RW_primepapers_k03_primes_and_parts
set_option Elab.async false
set_option linter.all false
section
set_option maxRecDepth 100000
namespace My
open PySem L2
/-! ### the error classes of the text -/
structure EC (K : PySem.W.Frag) (mg : Str → Option Value) (x : Str) (C : Addr) : Prop where
  g : mg x = some (.ref C)
  k : PySem.W.keepIn K (.ref C) = true
  q : PySem.W.excIn K C [.type "ValueError", .type "Exception", .type "BaseException", .type "object"] "ValueError.__new__" = true
  b : PySem.W.subIn K (.ref C) (.type "BaseException") = some true
  t : PySem.W.typeIn K (.ref C) = some (.type "type")
/-! ### kinds of values -/
inductive Ty (K : PySem.W.Frag) (H : Hp) : V → String → Prop where
  | non : Ty K H .non "NoneType"
  | bl (b : Bool) : Ty K H (.bl b) "bool"
  | int (i : Int) : Ty K H (.int i) "int"
  | str (x : Str) : Ty K H (.str x) "str"
  | lst {a : Addr} {xs : List V} (h : H a = some (.lst xs)) : Ty K H (.ref a) "list"
  | tup {a : Addr} {xs : List V} (h : H a = some (.tup xs)) : Ty K H (.ref a) "tuple"
  | dK {a : Addr} {kvs : List (Key × V)} (h : H a = some (.dK kvs)) : Ty K H (.ref a) "dict"
theorem Ty.x {K : PySem.W.Frag} {H : Hp} {v : V} {t : String} (h : Ty K H v t) : TyX K H v (.type t) := by
  cases h with
  | non => exact .base .non
  | bl b => exact .base (.bl b)
  | int i => exact .base (.int i)
  | str x => exact .base (.str x)
  | lst h => exact .base (.lst h)
  | tup h => exact .base (.tup h)
  | dK h => exact .base (.dK h)
theorem Ty.ext {K : PySem.W.Frag} {H H' : Hp} {v : V} {t : String} (h : Ty K H v t) (s : Same H H') : Ty K H' v t := by
  cases h with
  | non => exact .non
  | bl b => exact .bl b
  | int i => exact .int i
  | str x => exact .str x
  | lst h => exact .lst (s _ _ h)
  | tup h => exact .tup (s _ _ h)
  | dK h => exact .dK (s _ _ h)
def isB : V → Bool
  | .bl _ => true
  | _ => false
def isS : V → Bool
  | .str _ => true
  | _ => false
def isI : V → Bool
  | .int _ => true
  | _ => false
def inR (v : V) (lo hi : Int) : Bool := match v with
  | .int i => decide (lo ≤ i) && decide (i ≤ hi)
  | _ => false
theorem Ty.kInt {K : PySem.W.Frag} {H : Hp} {v : V} {t : String} (h : Ty K H v t) : PySem.W.kitOne K (.type t) (.type "int") = some (isI v || isB v) := by
  cases h <;> first | exact kit_ty (r := true) (by decide +kernel) | exact kit_ty (r := false) (by decide +kernel)
theorem Ty.kBool {K : PySem.W.Frag} {H : Hp} {v : V} {t : String} (h : Ty K H v t) : PySem.W.kitOne K (.type t) (.type "bool") = some (isB v) := by
  cases h <;> first | exact kit_ty (r := true) (by decide +kernel) | exact kit_ty (r := false) (by decide +kernel)
theorem Ty.kStr {K : PySem.W.Frag} {H : Hp} {v : V} {t : String} (h : Ty K H v t) : PySem.W.kitOne K (.type t) (.type "str") = some (isS v) := by
  cases h <;> first | exact kit_ty (r := true) (by decide +kernel) | exact kit_ty (r := false) (by decide +kernel)
theorem Ty.kTup {K : PySem.W.Frag} {H : Hp} {v : V} {t : String} (h : Ty K H v t) : PySem.W.kitOne K (.type t) (.type "tuple") = some (t == "tuple") := by
  cases h <;> first | exact kit_ty (r := true) (by decide +kernel) | exact kit_ty (r := false) (by decide +kernel)
theorem Ty.kLst {K : PySem.W.Frag} {H : Hp} {v : V} {t : String} (h : Ty K H v t) : PySem.W.kitOne K (.type t) (.type "list") = some (t == "list") := by
  cases h <;> first | exact kit_ty (r := true) (by decide +kernel) | exact kit_ty (r := false) (by decide +kernel)
/-- isinstance(v, int) and its like -/
theorem isi {K : PySem.W.Frag} {H : Hp} {v : V} {t c : String} {b : Bool} {Q : VK} (h : Ty K H v t) (k : PySem.W.kitOne K (.type t) (.type c) = some b) (q : Q (.bl b) H) : rIsi K [v, .ty c] H Q :=
  ⟨v, .ty c, .type t, .type c, b, rfl, .ty c, h.x, k, q⟩
/-! ### heaps -/
theorem same_new {H : Hp} {p : Addr} (h : H p = none) (o : HO) : Same H (upd H p o) := fun b u q => by rw [upd_ne (ne_of_none q h)]; exact q
theorem inR_int {v : V} {lo hi : Int} (h : inR v lo hi = true) : ∃ i, v = .int i ∧ lo ≤ i ∧ i ≤ hi := by
  cases v with
  | int i =>
    have h' : (decide (lo ≤ i) && decide (i ≤ hi)) = true := h
    rw [Bool.and_eq_true] at h'
    exact ⟨i, rfl, of_decide_eq_true h'.1, of_decide_eq_true h'.2⟩
  | _ => cases h
theorem inR_ok {i lo hi : Int} (h1 : lo ≤ i) (h2 : i ≤ hi) : inR (.int i) lo hi = true := by
  show (decide (lo ≤ i) && decide (i ≤ hi)) = true
  rw [decide_eq_true h1, decide_eq_true h2]; rfl
/-- all but lists stay -/
def NL (H H' : Hp) : Prop := ∀ b o, H b = some o → (∀ ys, o ≠ .lst ys) → H' b = some o
theorem NL.refl (H : Hp) : NL H H := fun _ _ e _ => e
theorem NL.trans {H H1 H2 : Hp} (h : NL H H1) (h' : NL H1 H2) : NL H H2 := fun b o e n => h' b o (h b o e n) n
theorem NL.of {H H' : Hp} (s : Same H H') : NL H H' := fun b o e _ => s b o e
theorem NL.lst {H : Hp} {p : Addr} {xs : List V} (h : H p = some (.lst xs)) (o : HO) : NL H (upd H p o) := fun b u e n => by
  rw [upd_ne (fun z => n xs (by rw [z] at e; exact Option.some.inj (e.symm.trans h)))]; exact e
/-! ### tests -/
theorem decB {c : Prop} [Decidable c] {A B : Prop} (h1 : c → A) (h2 : ¬ c → B) : if decide c = true then A else B := by
  by_cases h : c
  · rw [decide_eq_true h, if_pos rfl]; exact h1 h
  · rw [decide_eq_false h, if_neg Bool.false_ne_true]; exact h2 h
theorem iteB {b : Bool} {A B : Prop} (h1 : b = true → A) (h2 : b = false → B) : if b = true then A else B := by
  cases b with
  | true => exact iteT (h1 rfl)
  | false => exact iteF (h2 rfl)
theorem sz {n : Nat} (h : n ≤ 1000000) : n ≤ sizeLine := Nat.le_trans h (by decide)
theorem szl {n : Nat} (h : n < 1000000) : n < sizeLine := Nat.lt_of_lt_of_le h (by decide)
theorem pow_lt {x : Int} {m : Nat} (k : Nat) (h0 : -(2 ^ k : Int) < x) (h1 : x < (2 ^ k : Int)) : x.natAbs < 2 ^ k := by
  have e : ((2 ^ k : Nat) : Int) = (2 ^ k : Int) := by simp
  omega
theorem mulOk {i j : Int} (hi : -(2 ^ 250 : Int) < i ∧ i < 2 ^ 250) (hj : -(2 ^ 250 : Int) < j ∧ j < 2 ^ 250) : CMulW i j :=
  wide_mul (a := 250) (b := 250) (pow_lt (m := 0) 250 hi.1 hi.2) (pow_lt (m := 0) 250 hj.1 hj.2) (by decide) (by decide) (by decide)
theorem divOk {i j : Int} (h : 0 < j) (hj : j < 2 ^ 250) : CDivW i j := wide_div (b := 250) h (pow_lt (m := 0) 250 (by omega) hj) (by decide) (by decide)
/-! ### what a draw leaves: the state of two ints at a, all else as it was -/
def StAt (H : Hp) (a : Addr) : Prop := ∃ x y : Int, H a = some (.lst [.int x, .int y]) ∧ 0 ≤ x ∧ 0 ≤ y ∧ y < 2 ^ 40
def Draw (a : Addr) (H H' : Hp) : Prop := StAt H' a ∧ ∀ b o, H b = some o → b ≠ a → H' b = some o
theorem Draw.trans {a : Addr} {H H1 H2 : Hp} (h : Draw a H H1) (h' : Draw a H1 H2) : Draw a H H2 := ⟨h'.1, fun b o e n => h'.2 b o (h.2 b o e n) n⟩
theorem Draw.same {a : Addr} {H H1 H2 : Hp} (h : Draw a H H1) (s : Same H1 H2) : Draw a H H2 := by
  obtain ⟨⟨x, y, e, z⟩, k⟩ := h
  exact ⟨⟨x, y, s _ _ e, z⟩, fun b o e n => s _ _ (k b o e n)⟩
theorem StAt.draw {a : Addr} {H H1 : Hp} (h : StAt H a) (s : Same H H1) : Draw a H H1 := by
  obtain ⟨x, y, e, z⟩ := h
  exact ⟨⟨x, y, s _ _ e, z⟩, fun b o e n => s _ _ e⟩
theorem Draw.refl {a : Addr} {H : Hp} (h : StAt H a) : Draw a H H := h.draw (Same.refl H)
theorem StAt.ext {a : Addr} {H H1 : Hp} (h : StAt H a) (s : Same H H1) : StAt H1 a := (h.draw s).1
/-- an object new since H is not the state's -/
theorem Draw.keep {a b : Addr} {H H' : Hp} {o : HO} (h : Draw a H H') (e : H b = some o) (n : b ≠ a) : H' b = some o := h.2 b o e n
theorem NL.draw {a : Addr} {H H' : Hp} (h : Draw a H H') (s : StAt H a) : NL H H' := fun b o e n => h.2 b o e fun z => by
  obtain ⟨x, y, q, _⟩ := s
  exact n _ (by rw [z] at e; exact Option.some.inj (e.symm.trans q))
theorem cxK {CX : CXT} {P : Program} {w : World} {K : PySem.W.Frag} {mg : Str → Option Value} {base : Heap} {N : List Str} {qual : Str} {scope : Scope} {f : Addr} {cd : Value} {A : Around} {outer : List Env} {s : Shared} {H : Hp} {E : XK} : (cxOf CX P w K mg base N qual scope f cd A outer s H E).K = K := rfl
theorem tyL {K : PySem.W.Frag} {H : Hp} {p : Addr} {xs : List V} (h : H p = some (.lst xs)) : tyV K "list" (.ref p) H := Or.inl ⟨rfl, _, Or.inl (Or.inl h)⟩
theorem pe_gi {X : Cx} {x : Str} {pos : Pos} {i : Int} {t : Tok} (hg : Gl X x) (hm : X.mg x = some (.int i t)) (hdb : (x == ("__debug__" : Str)) = false := by decide) : PE X (.Name x pos) (tC (.int i)) :=
  pe_glob hg hm (show RelV (V.int i) (Value.int i t) from ⟨t, rfl⟩) hdb
theorem ixL {K : PySem.W.Frag} {H : Hp} {a : Addr} {xs : List V} {i : Int} {v : V} {Q : VK} (h : SqL K H a xs) (e : atI xs i = some v) (q : Q v H) : rIxL K (.ref a) (.int i) H Q := ⟨a, xs, i, v, rfl, rfl, h, e, q⟩
theorem ixT {K : PySem.W.Frag} {H : Hp} {a : Addr} {xs : List V} {i : Int} {v : V} {Q : VK} (h : SqT K H a xs) (e : atI xs i = some v) (q : Q v H) : rIxT K (.ref a) (.int i) H Q := ⟨a, xs, i, v, rfl, rfl, h, e, q⟩
theorem ix0 {K : PySem.W.Frag} {H : Hp} {a : Addr} {v : V} {r : List V} {Q : VK} (h : H a = some (.lst (v :: r))) (q : Q v H) : rIxL K (.ref a) (.int 0) H Q := ixL (SqL.of h) (atI_nat (j := 0) rfl) q
theorem ix1 {K : PySem.W.Frag} {H : Hp} {a : Addr} {u v : V} {r : List V} {Q : VK} (h : H a = some (.lst (u :: v :: r))) (q : Q v H) : rIxL K (.ref a) (.int 1) H Q := ixL (SqL.of h) (atI_nat (j := 1) rfl) q
theorem st0 {H : Hp} {a : Addr} {u v x : V} {Q : Hp → Prop} (h : H a = some (.lst [u, v])) (q : Q (upd H a (.lst [x, v]))) : rSetL (.ref a) (.int 0) x H Q := ⟨a, [u, v], 0, 0, rfl, rfl, h, rfl, q⟩
theorem st1 {H : Hp} {a : Addr} {u v x : V} {Q : Hp → Prop} (h : H a = some (.lst [u, v])) (q : Q (upd H a (.lst [u, x]))) : rSetL (.ref a) (.int 1) x H Q := ⟨a, [u, v], 1, 1, rfl, rfl, h, rfl, q⟩
theorem cp10 {j : Int} : CPow 10 j = (0 ≤ j ∧ j ≤ 1000000) := by
  unfold CPow
  exact propext ⟨fun h => ⟨h.1, h.2.1⟩, fun h => ⟨h.1, h.2, by decide⟩⟩
/-- an item of a written list, at a drawn place -/
theorem ixD {K : PySem.W.Frag} {H : Hp} {a : Addr} {xs : List V} {i : Int} {Q : VK} (h : SqL K H a xs) (h0 : 0 ≤ i) (h1 : i < xs.length) (q : ∀ (j : Nat) (v : V), i = j → xs[j]? = some v → Q v H) : rIxL K (.ref a) (.int i) H Q := by
  obtain ⟨j, rfl⟩ := Int.eq_ofNat_of_zero_le h0
  have hj : j < xs.length := by omega
  exact ixL h (atI_nat (List.getElem?_eq_getElem hj)) (q j _ rfl (List.getElem?_eq_getElem hj))
theorem memD {K : PySem.W.Frag} {H : Hp} {a : Addr} {xs : List V} {i : Int} {Q : VK} (h : SqL K H a xs) (h0 : 0 ≤ i) (h1 : i < xs.length) (q : ∀ v ∈ xs, Q v H) : rIxL K (.ref a) (.int i) H Q :=
  ixD h h0 h1 fun j v _ e => q v (List.mem_of_getElem? e)
/-- a new object is not the state's -/
theorem Draw.ne {a p : Addr} {H H' : Hp} (h : Draw a H H') (e : H' p = none) : p ≠ a := fun z => by
  obtain ⟨⟨x, y, q, _⟩, _⟩ := h
  rw [z, q] at e
  cases e
theorem StAt.ne {a p : Addr} {H : Hp} (h : StAt H a) (e : H p = none) : p ≠ a := fun z => by
  obtain ⟨x, y, q, _⟩ := h
  rw [z, q] at e
  cases e
theorem sc_ii {i j : Int} : scal (.int i) (.int j) = true := rfl
theorem sc_ss {i j : Str} : scal (.str i) (.str j) = true := rfl
theorem sc_bb {i j : Bool} : scal (.bl i) (.bl j) = true := rfl
theorem sc_nn : scal .non .non = true := rfl
theorem sc_ni {i : Int} : scal .non (.int i) = true := rfl
theorem sc_in {i : Int} : scal (.int i) .non = true := rfl
theorem sc_nb {i : Bool} : scal .non (.bl i) = true := rfl
theorem sc_bn {i : Bool} : scal (.bl i) .non = true := rfl
theorem sc_ns {i : Str} : scal .non (.str i) = true := rfl
theorem sc_sn {i : Str} : scal (.str i) .non = true := rfl
end My

end
section
set_option maxRecDepth 100000
open PySem PySem.Spec PyProof.Rows L2
namespace My
/-! ### promises that hold where nothing is being shown (repr asks that) -/
structure FnG (P : Program) (w : World) (K : PySem.W.Frag) (mg : Str → Option Value) (base : Heap) (CX : CXT) (k : Nat) (f : Addr) (fd : FuncData) (ps : List Str) (sp : Sp) : Prop where
  len : ∀ as h q e, sp as h q e → as.length = ps.length
  run : ∀ (A : Around) (out : List Env) (s : Shared) (h : Hp) (args : Args) (us : List Value) (as : List V) (q : VK) (e : XK),
    Room k A → A.guards = some [] → Env0 P w K mg base A out s h → BindsTo s fd args (ps.zip us) → Vals as us → sp as h q e →
      codeAny (model P w) A (.call (.ref f) args) (CR CX out P w h s q e) s
section
variable {P : Program} {w : World} {K : PySem.W.Frag} {mg : Str → Option Value} {base : Heap} {CX : CXT}
theorem FnG.of {k : Nat} {f : Addr} {fd : FuncData} {ps : List Str} {sp : Sp} (F : FnOk P w K mg base CX k f fd ps sp) : FnG P w K mg base CX k f fd ps sp :=
  ⟨F.len, fun A out s h args us as q e r _ => F.run A out s h args us as q e r⟩
theorem FnG.mono {j k : Nat} {f : Addr} {fd : FuncData} {ps : List Str} {sp : Sp} (F : FnG P w K mg base CX j f fd ps sp) (h : j ≤ k) : FnG P w K mg base CX k f fd ps sp :=
  ⟨F.len, fun A out s h' args us as q e r => F.run A out s h' args us as q e (r.mono h)⟩
theorem FnG.imp {k : Nat} {f : Addr} {fd : FuncData} {ps : List Str} {sp sp' : Sp} (F : FnG P w K mg base CX k f fd ps sp) (h : ∀ as H q e, sp' as H q e → sp as H q e) : FnG P w K mg base CX k f fd ps sp' :=
  ⟨fun as H q e z => F.len as H q e (h _ _ _ _ z), fun A out s H args us as q e r g a b c d => F.run A out s H args us as q e r g a b c (h _ _ _ _ d)⟩
/-- a def's body gives its promise -/
theorem fnGc {x qual : Str} {st : Stmt} {f : Addr} {fd : FuncData} {N ps : List Str} {k : Nat} {sp : Sp} (F : Fun K x qual st f fd) (S : FnScope N ps (defScope st)) (len : ∀ as h q e, sp as h q e → as.length = ps.length)
    (hb : ∀ (cdv : Value) (A : Around) (out : List Env) (s : Shared) (h : Hp) (as : List V) (q : VK) (e : XK), fd.code = cdv → Room k (A.deeper (envOfC qual (defScope st) s.heap.objs.size f cdv)) → A.guards = some [] → sp as h q e →
      ∃ t, PSs (cxOf CX P w K mg base N qual (defScope st) f cdv A out s h e) (defBody st) t ∧ t { nx := fun _ h' => q .non h', rt := q } (L2.start N as) h) : FnG P w K mg base CX (k + 1) f fd ps sp := by
  obtain ⟨oc, od, kV, doc, pm, an, cdv, ct, osl, rfl, lk, hcd⟩ := F.ex
  refine ⟨len, fun A out s h args us as q e hr hg e0 bd rv hsp => ?_⟩
  have ln := len as h q e hsp
  have kin : K.In s.heap := e0.mod.kin.keeps (fun b o z => (e0.bs b o z).1)
  have nolim : s.heap.NoLimit := e0.mod.nolimit.keeps (fun b o z => (e0.bs b o z).1)
  have pk : ∀ y ∈ ps.zip us, (defScope st).names.lookup y.1 = some .local ∨ ((defScope st).names.lookup y.1 = some .cell ∧ ((cellsFrom (s.heap.objs.size + 1) (defScope st).names []).lookup y.1).isSome = true) := by
    rintro ⟨nm, vl⟩ hy
    exact (S.par nm (List.of_mem_zip hy).1).elim Or.inl fun z => Or.inr ⟨z, PySem.W.cellsFrom_some _ _ _ (Or.inl z)⟩
  refine codeAny_call_function hr.depth (kin _ _ lk) rfl S.co S.gen rfl (PySem.W.codeRec_of kin hcd) (bd _ _ _ _ (wpAny_newFunctionEnv_cells S.kind pk ?_))
  intro env he s1 x
  subst he
  refine ⟨nolim.keeps x.toInCall.keep, codeAny_func ?_⟩
  obtain ⟨t, ht, hq⟩ := hb cdv A out s h as q e rfl (hr.deeper _) hg hsp
  have I0 : Inv (cxOf CX P w K mg base N qual (defScope st) f cdv A out s h e) [] (L2.start N as) h s1 := inv_start S hr.hd e0 ln rv x
  refine wpAny_mono (ht.run [] s1 (L2.start N as) h _ I0 hq) (fun fl s' hs => ?_) (fun _ _ z => z)
  have goes : ∀ {σ' : L2.St} {h' : Hp} {v : V} {u : Value}, Inv (cxOf CX P w K mg base N qual (defScope st) f cdv A out s h e) [] σ' h' s' → RelV v u → q v h' → CE out P w h s q u s' := by
    intro σ' h' v u J r z
    exact ⟨v, h', J.os, J.bare, J.base, J.hok, r, z⟩
  match fl, hs with
  | .ret u, ⟨v, σ', h', J, r, z⟩ => exact goes J r z
  | .next, ⟨σ', h', J, z⟩ => exact goes (v := V.non) (u := Value.none) J rfl z
  | .brk, ⟨_, _, _, z⟩ => exact z.elim
  | .cont, ⟨_, _, _, z⟩ => exact z.elim
theorem fnG {x qual : Str} {st : Stmt} {f : Addr} {fd : FuncData} {N ps : List Str} {k : Nat} {sp : Sp} (F : Fun K x qual st f fd) (S : FnScope N ps (defScope st)) (len : ∀ as h q e, sp as h q e → as.length = ps.length)
    (hb : ∀ (cdv : Value) (A : Around) (out : List Env) (s : Shared) (h : Hp) (as : List V) (q : VK) (e : XK), Room k (A.deeper (envOfC qual (defScope st) s.heap.objs.size f cdv)) → A.guards = some [] → sp as h q e →
      ∃ t, PSs (cxOf CX P w K mg base N qual (defScope st) f cdv A out s h e) (defBody st) t ∧ t { nx := fun _ h' => q .non h', rt := q } (L2.start N as) h) : FnG P w K mg base CX (k + 1) f fd ps sp := fnGc F S len fun cdv A out s h as q e _ => hb cdv A out s h as q e
/-- .. where no exception leaves it -/
theorem fnG0 {x qual : Str} {st : Stmt} {f : Addr} {fd : FuncData} {N ps : List Str} {k : Nat} {sp : Sp} (F : Fun K x qual st f fd) (S : FnScope N ps (defScope st)) (len : ∀ as h q e, sp as h q e → as.length = ps.length)
    (hb : ∀ (cdv : Value) (A : Around) (out : List Env) (s : Shared) (h : Hp) (as : List V) (q : VK) (e : XK), Room k (A.deeper (envOfC qual (defScope st) s.heap.objs.size f cdv)) → A.guards = some [] → sp as h q e →
      ∃ t, PSs (cxOf CX0 P w K mg base N qual (defScope st) f cdv A out s h e).nox (defBody st) t ∧ t { nx := fun _ h' => q .non h', rt := q } (L2.start N as) h) : FnG P w K mg base CX0 (k + 1) f fd ps sp :=
  fnG F S len fun cdv A out s h as q e hr hg z => by
    obtain ⟨t, a, b⟩ := hb cdv A out s h as q e hr hg z
    exact ⟨t, a.nox, b⟩
/-- .. its code object told -/
theorem fnG0c {x qual : Str} {st : Stmt} {f : Addr} {fd : FuncData} {N ps : List Str} {k : Nat} {sp : Sp} (F : Fun K x qual st f fd) (S : FnScope N ps (defScope st)) (len : ∀ as h q e, sp as h q e → as.length = ps.length)
    (hb : ∀ (cdv : Value) (A : Around) (out : List Env) (s : Shared) (h : Hp) (as : List V) (q : VK) (e : XK), fd.code = cdv → Room k (A.deeper (envOfC qual (defScope st) s.heap.objs.size f cdv)) → A.guards = some [] → sp as h q e →
      ∃ t, PSs (cxOf CX0 P w K mg base N qual (defScope st) f cdv A out s h e).nox (defBody st) t ∧ t { nx := fun _ h' => q .non h', rt := q } (L2.start N as) h) : FnG P w K mg base CX0 (k + 1) f fd ps sp :=
  fnGc F S len fun cdv A out s h as q e hc hr hg z => by
    obtain ⟨t, a, b⟩ := hb cdv A out s h as q e hc hr hg z
    exact ⟨t, a.nox, b⟩
end
/-! ### calls -/
structure Cl (P : Program) (w : World) (K : PySem.W.Frag) (mg : Str → Option Value) (base : Heap) (CX : CXT) (k : Nat) (x : Str) (sp : Sp) : Prop where
  ex : ∃ (f : Addr) (fd : FuncData) (ps : List Str), FnG P w K mg base CX k f fd ps sp ∧ mg x = some (.ref f) ∧ PySem.W.keepIn K (.ref f) = true ∧ Binds K fd ps []
def tCl (sp : Sp) (E : XK) (t : TA) : TE := fun σ H Q => t σ H fun vs H1 => sp vs H1 Q E
section
variable {X : Cx} {CX : CXT} {k j : Nat} {x : Str} {sp : Sp} {p pos : Pos} {e : Expr} {es : List Expr} {t : TA} {E : XK} {f : Addr} {fd : FuncData} {ps : List Str}
theorem run_fnG {pins : List (Addr × Obj)} {σ : L2.St} {h : Hp} {s : Shared} {q : VK} {us : List Value} {as : List V} (F : FnG X.prog X.w X.K X.mg X.base CX k f fd ps sp) (hr : Room k X.A) (hgd : X.A.guards = some []) (hb : Binds X.K fd ps []) (hx : Passes CX X E)
    (I : Inv X pins σ h s) (r : Vals as us) (z : sp as h q E) : wpAny (model X.prog X.w) X.A (PySem.call (.ref f) us) (EP X pins σ q) X.xe s := by
  have ln : us.length = ps.length := by rw [← r.length]; exact F.len _ _ _ _ z
  have bd := hb s us I.kIn (by rw [List.append_nil]; exact ln)
  rw [List.append_nil] at bd
  refine wpAny_call (codeAny_mono (F.run X.A X.stack s h ⟨us, []⟩ us as q E hr hgd I.env0 bd r z) fun res s' hq => ?_)
  match res, hq with
  | .error er, hq => exact hx pins σ h s er s' I hq
  | .ok (.ret u), hq => exact I.after hq
  | .ok .next, hq => exact False.elim hq
  | .ok .brk, hq => exact False.elim hq
  | .ok .cont, hq => exact False.elim hq
theorem pe_clg (c : Cl X.prog X.w X.K X.mg X.base CX k x sp) (hr : Room j X.A) (hgd : X.A.guards = some []) (hk : k ≤ j) (hg : Gl X x) (hx : Passes CX X E) (ha : PA X (e :: es) t)
    (hdb : (x == ("__debug__" : Str)) = false := by decide) (he : starEach (e :: es) X.env = (false, eval e X.env) :: starEach es X.env := by rfl) (hpl : (backTo pos (starEach es X.env)).any (·.1) = false := by rfl) :
    PE X (.Call (.Name x p) (e :: es) [] pos) (tCl sp E t) := by
  obtain ⟨f, fd, ps, F, hm, kp, b⟩ := c.ex
  refine ⟨fun pins s σ h q I z => wpAny_Call_Name_kw (ld_glob I hg hm ?_ hdb)⟩
  refine PySem.W.callWith_K (h₀ := X.base) I.ok.mod.kin kp (thn (ha.run pos pins s σ h _ I z) ?_) he hpl
  rintro us s1 ⟨as, h1, I1, r, y⟩
  exact ⟨I1.kIn, run_fnG F (hr.mono hk) hgd b hx I1 r y⟩
end
section
variable {X : Cx} {CX : CXT} {k j : Nat} {x : Str} {sp : Sp} {p pos : Pos} {e : Expr} {es : List Expr} {t : TA} {E : XK}
/-- a def that raises nothing is called -/
theorem pe_cl (c : Cl X.prog X.w X.K X.mg X.base CX0 k x sp) (hr : Room j X.A) (hgd : X.A.guards = some []) (hk : k ≤ j) (hg : Gl X x) (ha : PA X (e :: es) t)
    (hdb : (x == ("__debug__" : Str)) = false := by decide) (he : starEach (e :: es) X.env = (false, eval e X.env) :: starEach es X.env := by rfl) (hpl : (backTo pos (starEach es X.env)).any (·.1) = false := by rfl) :
    PE X (.Call (.Name x p) (e :: es) [] pos) (tCl sp E0 t) := pe_clg c hr hgd hk hg pass0 ha hdb he hpl
/-- a def that may raise is called where nothing is let out -/
theorem pe_cln (c : Cl X.prog X.w X.K X.mg X.base (L2.CX X.prog X.w) k x sp) (hr : Room j X.A) (hgd : X.A.guards = some []) (hk : k ≤ j) (hg : Gl X x) (ha : PA X (e :: es) t)
    (hdb : (x == ("__debug__" : Str)) = false := by decide) (he : starEach (e :: es) X.env = (false, eval e X.env) :: starEach es X.env := by rfl) (hpl : (backTo pos (starEach es X.env)).any (·.1) = false := by rfl) :
    PE X (.Call (.Name x p) (e :: es) [] pos) (tCl sp E0 t) := pe_clg c hr hgd hk hg passL ha hdb he hpl
/-- .. in a def that lets the same out -/
theorem pe_clx {W : WX} (tk : Takes X W) (hW : ∀ cls d σ H, E cls d H → W cls d σ H) (c : Cl X.prog X.w X.K X.mg X.base (L2.CX X.prog X.w) k x sp) (hr : Room j X.A) (hgd : X.A.guards = some []) (hk : k ≤ j) (hg : Gl X x) (ha : PA X (e :: es) t)
    (hdb : (x == ("__debug__" : Str)) = false := by decide) (he : starEach (e :: es) X.env = (false, eval e X.env) :: starEach es X.env := by rfl) (hpl : (backTo pos (starEach es X.env)).any (·.1) = false := by rfl) :
    PE X (.Call (.Name x p) (e :: es) [] pos) (tCl sp E t) := pe_clg c hr hgd hk hg (passes_call tk hW) ha hdb he hpl
end
section
variable {P : Program} {w : World} {K : PySem.W.Frag} {mg : Str → Option Value} {base : Heap}
theorem Cl.mk' {CX : CXT} {k : Nat} {x : Str} {st : Stmt} {f : Addr} {fd : FuncData} {ps : List Str} {sp : Sp} (F : Fun K x x st f fd) (hm : mg x = some (.ref f)) (b : Binds K fd ps []) (G : FnG P w K mg base CX k f fd ps sp) : Cl P w K mg base CX k x sp :=
  ⟨f, fd, ps, G, hm, F.kp, b⟩
theorem Cl.mono {CX : CXT} {j k : Nat} {x : Str} {sp : Sp} (c : Cl P w K mg base CX j x sp) (h : j ≤ k) : Cl P w K mg base CX k x sp := by
  obtain ⟨f, fd, ps, F, a, b, d⟩ := c.ex
  exact ⟨f, fd, ps, F.mono h, a, b, d⟩
theorem Cl.imp {CX : CXT} {k : Nat} {x : Str} {sp sp' : Sp} (c : Cl P w K mg base CX k x sp) (h : ∀ as H q e, sp' as H q e → sp as H q e) : Cl P w K mg base CX k x sp' := by
  obtain ⟨f, fd, ps, F, a, b, d⟩ := c.ex
  exact ⟨f, fd, ps, F.imp h, a, b, d⟩
end
/-! ### the end -/
theorem law_callG {P : Program} {w : World} {K : PySem.W.Frag} {mg mb : Str → Option Value} {CX : CXT} {k : Nat} {fa a : Addr} {fd : FuncData} {x : Str} {sp : Sp} {s₁ : Shared} {vs : List Value} {ns : List Int}
    (kin : K.In s₁.heap) (hns : s₁.heap.Ns mainGlobals mg) (hb : s₁.heap.Ns builtinsNs mb) (hbb : ∀ x : Str, x ≠ "__name__" → mb x = bootBuiltins x) (hlim : s₁.heap.NoLimit) (hg : s₁.gens = #[])
    (ha : s₁.heap.get? a = some { cls := .type "list", data := .seq vs.toArray }) (hi : IntsAre vs ns) (hl : ns.length ≤ sizeLine) (hr : Room k callerA)
    (F : ∀ base : Heap, K.In base → base.Ns mainGlobals mg → FnG P w K mg base CX k fa fd [x] sp) (bd : ∀ (s : Shared) (u : Value), BindsTo s fd ⟨[u], []⟩ [(x, u)])
    (hsp : ∀ H : Hp, Only H → SqL K H a (ns.map V.int) → sp [.ref a] H (fun v _ => v = .bl true) fun _ _ _ => False)
    (hCX : ∀ H e s', CX [] H s₁ (fun _ _ _ => False) e s' → False) :
    codeAny (model P w) callerA (.call (.ref fa) ⟨[.ref a], []⟩) (fun r s' => r = .ok (.ret (.bool true)) ∧ OldK s₁.heap s'.heap ∧ s'.os = s₁.os ∧ AllBare s'.gens) s₁ := by
  have len := hi.length
  -- an abstract heap that tracks the script at most
  have main : ∀ H : Hp, Only H → SqL K H a (ns.map V.int) → HOk P w H s₁.heap → (∀ b, H b ≠ none → b = a) → (H a ≠ none → K.lookup a = none) →
      codeAny (model P w) callerA (.call (.ref fa) ⟨[.ref a], []⟩) (fun r s' => r = .ok (.ret (.bool true)) ∧ OldK s₁.heap s'.heap ∧ s'.os = s₁.os ∧ AllBare s'.gens) s₁ := by
    intro H only sq hok just hK
    have out : ∀ {b : Addr} {o : Obj} {es : Array DictEntry} {ep : Nat}, s₁.heap.get? b = some o → o.data = .dict es ep → H b = none := by
      intro b o es ep z1 z2
      refine Classical.byContradiction fun z => ?_
      obtain rfl := just b z
      rw [ha] at z1
      cases z1
      exact Data.noConfusion (show Data.seq vs.toArray _ = Data.dict es ep from z2)
    have ns2 : ∀ {b : Addr} {m : Str → Option Value}, s₁.heap.Ns b m → (hidT s₁.heap H).Ns b m := by
      rintro b m ⟨o, es, ep, z1, z2, z3⟩
      exact ⟨o, es, ep, hidT_get z1 (out z1 z2), z2, z3⟩
    have kb : K.In (hidT s₁.heap H) := by
      intro b o z
      refine hidT_get (kin b o z) (Classical.byContradiction fun y => ?_)
      have eb := just b y
      subst eb
      rw [hK y] at z
      cases z
    obtain ⟨mc, lm1, lm2⟩ := hlim
    have md : Mod K mg (hidT s₁.heap H) := ⟨kb, ns2 hns, ⟨mb, ns2 hb, hbb⟩, mc, ns2 lm1, lm2⟩
    have e0 : Env0 P w K mg (hidT s₁.heap H) callerA [] s₁ H := ⟨rfl, md, fun b o z => of_hidT z, Nat.le_of_eq (hidT_size _ _), trivial, (fun b z => nomatch (show b ∈ ([] : List Addr) from z)), hok, .of_eq hg⟩
    have go := (F _ kb (ns2 hns)).run callerA [] s₁ H ⟨[.ref a], []⟩ [.ref a] [.ref a] _ _ hr rfl e0 (bd s₁ (.ref a)) (.cons rfl .nil) (hsp H only sq)
    refine codeAny_mono go fun res s' z => ?_
    match res, z with
    | .error e, z => exact (hCX H e s' z).elim
    | .ok .next, z => exact False.elim z
    | .ok .brk, z => exact False.elim z
    | .ok .cont, z => exact False.elim z
    | .ok (.ret u), ⟨v, H', os, bare, un, hok', rv, z⟩ =>
      have ev : v = .bl true := z
      subst ev
      obtain rfl : u = Value.bool true := rv
      refine ⟨rfl, OldK.of_keep fun b o y => ?_, os, bare⟩
      rcases only b with n | ⟨ob, xs, n⟩
      · exact un.keep b o y n (fun z => nomatch (show b ∈ ([] : List Addr) from z)) (by simp)
      · obtain ⟨y1, _⟩ := hok b _ n
        obtain ⟨y2, _⟩ := hok' b _ (un.frzs b ob _ n)
        rw [y] at y1
        cases y1
        exact y2
  have rv := vals_ints hi
  cases hk : K.lookup a with
  | some o =>
    have z := kin a o hk
    rw [ha] at z
    cases z
    exact main (fun _ => none) (fun _ => Or.inl rfl) (Or.inr ⟨_, vs.toArray, _, hk, rfl, rfl, rfl, by rw [List.size_toArray, len]; exact hl, by simpa using rv⟩) (fun b u y => nomatch (show (none : Option HO) = some u from y)) (fun b y => (y rfl).elim) (fun y => (y rfl).elim)
  | none =>
    have at_ : ∀ b, b ≠ a → (if b = a then some (HO.frz { cls := .type "list", data := .seq vs.toArray } (.lst (ns.map V.int))) else none) = none := fun b n => if_neg n
    refine main (fun b => if b = a then some (.frz { cls := .type "list", data := .seq vs.toArray } (.lst (ns.map V.int))) else none) (fun b => ?_) (Or.inl (Or.inr ⟨_, if_pos rfl⟩)) (fun b u z => ?_) (fun b z => Classical.byContradiction fun n => z (at_ b n)) (fun _ => hk)
    · by_cases n : b = a
      · exact Or.inr ⟨_, _, if_pos n⟩
      · exact Or.inl (at_ b n)
    · by_cases n : b = a
      · subst n
        have z' := (if_pos rfl).symm.trans z
        cases z'
        exact ⟨ha, by rw [List.length_map]; exact hl, vs, _, rv, ha⟩
      · exact nomatch (at_ b n).symm.trans z
theorem walk_ofG {l : PySem.W.OpenLaw} {n k : Nat} {q : Program} {loose : List Str} {XP : (Str → Option Value) → Heap → Prop} {YP : World → Heap → Prop} {d : DefRec} {K : Params → PySem.W.Frag} {x : Str}
    (hn : l.most = some n) (hn2 : n ≤ sizeLine) (hdf : d.params.defaults = []) (hr : Room k callerA) {sp : PySem.W.Frag → Sp}
    (hY : ∀ (w : World) (h : Heap), YP w h → (K w.params).In h)
    (F : ∀ (w : World) (mg : Str → Option Value) (fa : Addr) (h : Heap), (K w.params).In h → h.Ns mainGlobals mg → mg d.name = some (.ref fa) →
      ∃ fd : FuncData, (∀ (s : Shared) (u : Value), BindsTo s fd ⟨[u], []⟩ [(x, u)]) ∧ ∀ base : Heap, (K w.params).In base → base.Ns mainGlobals mg → FnG l.prog w (K w.params) mg base CX0 k fa fd [x] (sp (K w.params)))
    (hsp : ∀ (K : PySem.W.Frag) (H : Hp) (a : Addr) (ns : List Int), ns.length ≤ n → Only H → SqL K H a (ns.map V.int) → sp K [.ref a] H (fun v _ => v = .bl true) fun _ _ _ => False) :
    PySem.W.WalkO q loose XP YP l.row.toRowW d [] (fun f vs => PySem.call f vs) := by
  refine Att.attach_call hn hdf ?_
  intro w s₀ s₁ mg mb fa o pm cd doc a vs ns G Y ho hd hcd hmg hobj hints hlen hg
  have kin := hY w _ Y
  obtain ⟨fd, bd, hF⟩ := F w mg fa _ kin G.T.g hmg
  exact law_callG kin G.T.g G.T.b G.T.builtins G.T.nolimit hg hobj hints (Nat.le_trans hlen hn2) hr hF bd (fun H o s => hsp (K w.params) H a ns hlen o s) (fun _ _ _ z => z)
end My

end
section
namespace NT
/-! ### primes -/
def Pr (p : Nat) : Prop := 2 ≤ p ∧ ∀ d, d ∣ p → d = 1 ∨ d = p
theorem Pr.two {p : Nat} (h : Pr p) : 2 ≤ p := h.1
theorem Pr.pos {p : Nat} (h : Pr p) : 0 < p := Nat.lt_of_lt_of_le (by decide) h.1
theorem Pr.cop {p a : Nat} (h : Pr p) (ha : ¬ p ∣ a) : Nat.gcd p a = 1 := by
  rcases h.2 _ (Nat.gcd_dvd_left p a) with e | e
  · exact e
  · exact absurd (e ▸ Nat.gcd_dvd_right p a) ha
theorem Pr.dvd_mul {p a b : Nat} (h : Pr p) (hd : p ∣ a * b) : p ∣ a ∨ p ∣ b := by
  by_cases ha : p ∣ a
  · exact .inl ha
  · exact .inr (Nat.Coprime.dvd_of_dvd_mul_left (show Nat.Coprime p a from h.cop ha) hd)
theorem Pr.dvd_pow {p a : Nat} (h : Pr p) : ∀ {k : Nat}, p ∣ a ^ k → p ∣ a
  | 0, hd => by
    have := Nat.le_of_dvd (by decide) (by simpa using hd : p ∣ 1)
    have := h.1
    omega
  | k + 1, hd => by
    rw [Nat.pow_succ] at hd
    rcases h.dvd_mul hd with e | e
    · exact h.dvd_pow e
    · exact e
theorem Pr.eq_of_dvd {p q : Nat} (hp : Pr p) (hq : Pr q) (h : p ∣ q) : p = q := by
  rcases hq.2 _ h with e | e
  · have := hp.1
    omega
  · exact e
/-- no divisor from 2 to below p, and p divides: p is a prime -/
theorem pr_of_least {p L : Nat} (h2 : 2 ≤ p) (hd : p ∣ L) (hn : ∀ q, 2 ≤ q → q < p → ¬ q ∣ L) : Pr p := by
  refine ⟨h2, fun d hdp => ?_⟩
  have hdpos : 0 < d := by
    rcases Nat.eq_zero_or_pos d with e | e
    · subst e
      have := Nat.eq_zero_of_zero_dvd hdp
      omega
    · exact e
  have hle : d ≤ p := Nat.le_of_dvd (by omega) hdp
  by_cases h1 : d = 1
  · exact .inl h1
  · by_cases h3 : d = p
    · exact .inr h3
    · exact absurd (Nat.dvd_trans hdp hd) (hn d (by omega) (by omega))
/-- beyond the root nothing is left but a prime -/
theorem pr_of_root {p L : Nat} (hL : 1 < L) (hpp : L < p * p) (hn : ∀ q, 2 ≤ q → q < p → ¬ q ∣ L) : Pr L := by
  refine ⟨hL, fun d hd => ?_⟩
  obtain ⟨c, hc⟩ := hd
  have hd0 : 0 < d := by
    rcases Nat.eq_zero_or_pos d with e | e
    · rw [e, Nat.zero_mul] at hc; omega
    · exact e
  have hc0 : 0 < c := by
    rcases Nat.eq_zero_or_pos c with e | e
    · rw [e, Nat.mul_zero] at hc; omega
    · exact e
  by_cases h1 : d = 1
  · exact .inl h1
  by_cases h2 : c = 1
  · right; rw [h2, Nat.mul_one] at hc; exact hc.symm
  exfalso
  by_cases h3 : d < p
  · exact hn d (by omega) h3 ⟨c, hc⟩
  by_cases h4 : c < p
  · exact hn c (by omega) h4 ⟨d, by rw [Nat.mul_comm]; exact hc⟩
  have : p * p ≤ d * c := Nat.mul_le_mul (by omega) (by omega)
  omega
/-! ### the parts of a number -/
def pprod : List (Nat × Nat) → Nat
  | [] => 1
  | q :: r => q.1 ^ q.2 * pprod r
theorem pprod_app : ∀ l r : List (Nat × Nat), pprod (l ++ r) = pprod l * pprod r
  | [], r => by simp [pprod]
  | q :: l, r => by simp [pprod, pprod_app l r, Nat.mul_assoc]
structure Parts (n : Nat) (l : List (Nat × Nat)) : Prop where
  pr : ∀ q ∈ l, Pr q.1 ∧ 1 ≤ q.2
  up : l.Pairwise fun a b => a.1 < b.1
  prod : pprod l = n
theorem dvd_pprod {p : Nat} (hp : Pr p) : ∀ {l : List (Nat × Nat)}, (∀ q ∈ l, Pr q.1) → p ∣ pprod l → ∃ q ∈ l, q.1 = p
  | [], _, h => by
    have h2 : p ≤ 1 := Nat.le_of_dvd (by decide) (h : p ∣ 1)
    have := hp.1
    omega
  | q :: l, hl, h => by
    rcases hp.dvd_mul (h : p ∣ q.1 ^ q.2 * pprod l) with e | e
    · exact ⟨q, List.mem_cons_self, (hp.eq_of_dvd (hl q List.mem_cons_self) (hp.dvd_pow e)).symm⟩
    · obtain ⟨r, h1, h2⟩ := dvd_pprod hp (fun q h => hl q (List.mem_cons_of_mem _ h)) e
      exact ⟨r, List.mem_cons_of_mem _ h1, h2⟩
theorem mem_dvd : ∀ {l : List (Nat × Nat)} {q : Nat × Nat}, q ∈ l → q.1 ^ q.2 ∣ pprod l
  | a :: l, q, h => by
    rcases List.mem_cons.mp h with e | e
    · subst e
      exact Nat.dvd_mul_right _ _
    · exact Nat.dvd_trans (mem_dvd e) (Nat.dvd_mul_left _ _)
theorem pow_cancel {p a b x y : Nat} (hp : Pr p) (hx : ¬ p ∣ x) (hy : ¬ p ∣ y) (h : p ^ a * x = p ^ b * y) : a = b ∧ x = y := by
  have pos : ∀ k, 0 < p ^ k := fun k => Nat.pow_pos hp.pos
  have key : ∀ {a b x y : Nat}, ¬ p ∣ y → a ≤ b → p ^ b * x = p ^ a * y → a = b := by
    intro a b x y hy hab h
    by_cases e : a = b
    · exact e
    exfalso
    obtain ⟨c, hc⟩ : ∃ c, b = a + (c + 1) := ⟨b - a - 1, by omega⟩
    rw [hc, Nat.pow_add, Nat.mul_assoc] at h
    have h2 := Nat.eq_of_mul_eq_mul_left (pos a) h
    apply hy
    rw [← h2, Nat.pow_succ, Nat.mul_comm (p ^ c) p, Nat.mul_assoc]
    exact Nat.dvd_mul_right _ _
  have e : a = b := by
    rcases Nat.le_total a b with hab | hab
    · exact key hx hab h.symm
    · exact (key hy hab h).symm
  subst e
  exact ⟨rfl, Nat.eq_of_mul_eq_mul_left (pos a) h⟩
theorem Parts.nil_uniq {q : Nat × Nat} {r : List (Nat × Nat)} {n : Nat} (h1 : Parts n []) (h2 : Parts n (q :: r)) : False := by
  have e : q.1 ^ q.2 * pprod r = 1 := h2.prod.trans h1.prod.symm
  have hq := h2.pr q List.mem_cons_self
  have e1 := Nat.eq_one_of_mul_eq_one_right e
  have := hq.1.1
  have h3 : q.1 ∣ q.1 ^ q.2 := by
    obtain ⟨k, hk⟩ : ∃ k, q.2 = k + 1 := ⟨q.2 - 1, by omega⟩
    rw [hk, Nat.pow_succ]; exact Nat.dvd_mul_left _ _
  rw [e1] at h3
  have := Nat.le_of_dvd (by decide) h3
  omega
theorem Parts.uniq : ∀ {l r : List (Nat × Nat)} {n : Nat}, Parts n l → Parts n r → l = r
  | [], [], _, _, _ => rfl
  | [], q :: r, n, h1, h2 => (h1.nil_uniq h2).elim
  | q :: l, [], n, h1, h2 => (h2.nil_uniq h1).elim
  | q :: l, s :: r, n, h1, h2 => by
    have hq := h1.pr q List.mem_cons_self
    have hs := h2.pr s List.mem_cons_self
    have ul := List.pairwise_cons.mp h1.up
    have ur := List.pairwise_cons.mp h2.up
    have self_dvd : ∀ {q : Nat × Nat}, 1 ≤ q.2 → q.1 ∣ q.1 ^ q.2 := fun {q} h => by
      obtain ⟨k, hk⟩ : ∃ k, q.2 = k + 1 := ⟨q.2 - 1, by omega⟩
      rw [hk, Nat.pow_succ]; exact Nat.dvd_mul_left _ _
    have least : ∀ {q s : Nat × Nat} {r : List (Nat × Nat)}, Pr q.1 → (∀ t ∈ s :: r, Pr t.1) → (∀ t ∈ r, s.1 < t.1) → q.1 ∣ pprod (s :: r) → s.1 ≤ q.1 := fun {q s r} hq hr hu hd => by
      obtain ⟨t, ht, e⟩ := dvd_pprod hq hr hd
      rcases List.mem_cons.mp ht with z | z
      · rw [← e, z]; exact Nat.le_refl _
      · rw [← e]; exact Nat.le_of_lt (hu t z)
    have d1 : q.1 ∣ pprod (s :: r) := by rw [h2.prod, ← h1.prod]; exact Nat.dvd_trans (self_dvd hq.2) (Nat.dvd_mul_right _ _)
    have d2 : s.1 ∣ pprod (q :: l) := by rw [h1.prod, ← h2.prod]; exact Nat.dvd_trans (self_dvd hs.2) (Nat.dvd_mul_right _ _)
    have e1 : q.1 = s.1 := Nat.le_antisymm (least hs.1 (fun t h => (h1.pr t h).1) ul.1 d2) (least hq.1 (fun t h => (h2.pr t h).1) ur.1 d1)
    have no : ∀ {q : Nat × Nat} {l : List (Nat × Nat)}, Pr q.1 → (∀ t ∈ l, Pr t.1) → (∀ t ∈ l, q.1 < t.1) → ¬ q.1 ∣ pprod l := fun {q l} hq hl hu hd => by
      obtain ⟨t, ht, e⟩ := dvd_pprod hq hl hd
      have := hu t ht
      omega
    have n1 := no hq.1 (fun t h => (h1.pr t (List.mem_cons_of_mem _ h)).1) ul.1
    have n2 := no hs.1 (fun t h => (h2.pr t (List.mem_cons_of_mem _ h)).1) ur.1
    have e : q.1 ^ q.2 * pprod l = q.1 ^ s.2 * pprod r := by
      have z : q.1 ^ q.2 * pprod l = s.1 ^ s.2 * pprod r := h1.prod.trans h2.prod.symm
      rw [z, e1]
    rw [← e1] at n2
    obtain ⟨e2, e3⟩ := pow_cancel hq.1 n1 n2 e
    have ih := Parts.uniq (l := l) (r := r) (n := pprod l) ⟨fun t h => h1.pr t (List.mem_cons_of_mem _ h), ul.2, rfl⟩ ⟨fun t h => h2.pr t (List.mem_cons_of_mem _ h), ur.2, e3.symm⟩
    rw [ih]
    congr 1
    exact Prod.ext e1 e2
theorem Parts.one : Parts 1 [] := ⟨fun _ h => absurd h List.not_mem_nil, List.Pairwise.nil, rfl⟩
theorem Parts.prime {p : Nat} (h : Pr p) : Parts p [(p, 1)] := ⟨fun q hq => by
  rw [List.mem_singleton] at hq; subst hq; exact ⟨h, Nat.le_refl _⟩, List.pairwise_singleton _ _, by simp [pprod]⟩
theorem Parts.is_prime {p : Nat} {l : List (Nat × Nat)} (h : Parts p l) : Pr p ↔ l = [(p, 1)] :=
  ⟨fun hp => h.uniq (Parts.prime hp), fun e => by subst e; exact (h.pr (p, 1) List.mem_cons_self).1⟩
/-! ### the loop of trial: what holds between two turns -/
structure Tried (n : Nat) (acc : List (Nat × Nat)) (L p : Nat) : Prop where
  pr : ∀ q ∈ acc, Pr q.1 ∧ 1 ≤ q.2
  up : acc.Pairwise fun a b => a.1 < b.1
  lt : ∀ q ∈ acc, q.1 < p
  prod : pprod acc * L = n
  no : ∀ q, 2 ≤ q → q < p → ¬ q ∣ L
  two : 2 ≤ p
  pos : 1 ≤ L
theorem Tried.start {n : Nat} (h : 1 ≤ n) : Tried n [] n 2 := ⟨fun _ h => absurd h List.not_mem_nil, .nil, fun _ h => absurd h List.not_mem_nil, by simp [pprod], fun q h1 h2 => by omega, Nat.le_refl _, h⟩
theorem snoc_up {acc : List (Nat × Nat)} {p e : Nat} (up : acc.Pairwise fun a b => a.1 < b.1) (lt : ∀ q ∈ acc, q.1 < p) : (acc ++ [(p, e)]).Pairwise fun a b => a.1 < b.1 :=
  List.pairwise_append.mpr ⟨up, List.pairwise_singleton _ _, fun a ha b hb => by rw [List.mem_singleton] at hb; subst hb; exact lt a ha⟩
/-- one p tried: it goes e times, L is left -/
theorem Tried.next {n : Nat} {acc : List (Nat × Nat)} {L0 L p e : Nat} (h : Tried n acc L0 p) (hL : L0 = p ^ e * L) (hn : ¬ p ∣ L) : Tried n (if 0 < e then acc ++ [(p, e)] else acc) L (p + 1) := by
  have hL1 : 1 ≤ L := by
    rcases Nat.eq_zero_or_pos L with z | z
    · exact absurd (z ▸ Nat.dvd_zero p) hn
    · exact z
  have no' : ∀ q, 2 ≤ q → q < p + 1 → ¬ q ∣ L := fun q h1 h2 hd => by
    by_cases z : q = p
    · exact hn (z ▸ hd)
    · exact h.no q h1 (by omega) (hL ▸ Nat.dvd_trans hd (Nat.dvd_mul_left _ _))
  split
  · rename_i he
    have hp : Pr p := pr_of_least h.two (by
      obtain ⟨k, hk⟩ : ∃ k, e = k + 1 := ⟨e - 1, by omega⟩
      rw [hL, hk, Nat.pow_succ, Nat.mul_comm (p ^ k) p, Nat.mul_assoc]; exact Nat.dvd_mul_right _ _) h.no
    refine ⟨fun q hq => ?_, snoc_up h.up h.lt, fun q hq => ?_, ?_, no', by have := h.two; omega, hL1⟩
    · rcases List.mem_append.mp hq with z | z
      · exact h.pr q z
      · rw [List.mem_singleton] at z; subst z; exact ⟨hp, he⟩
    · rcases List.mem_append.mp hq with z | z
      · exact Nat.lt_succ_of_lt (h.lt q z)
      · rw [List.mem_singleton] at z; subst z; exact Nat.lt_succ_self _
    · rw [pprod_app, ← h.prod, hL]; simp [pprod, Nat.mul_assoc]
  · rename_i he
    have e0 : e = 0 := by omega
    subst e0
    rw [Nat.pow_zero, Nat.one_mul] at hL
    exact ⟨h.pr, h.up, fun q hq => Nat.lt_succ_of_lt (h.lt q hq), hL ▸ h.prod, no', by have := h.two; omega, hL1⟩
theorem pow_len : ∀ {l : List (Nat × Nat)}, (∀ q ∈ l, Pr q.1 ∧ 1 ≤ q.2) → 2 ^ l.length ≤ pprod l
  | [], _ => Nat.le_refl _
  | q :: l, h => by
    have h1 := pow_len fun r hr => h r (List.mem_cons_of_mem _ hr)
    have h2 := h q List.mem_cons_self
    have h3 : 2 ≤ q.1 ^ q.2 := Nat.le_trans h2.1.1 (Nat.le_self_pow (by omega) _)
    rw [List.length_cons, Nat.pow_succ, Nat.mul_comm]
    exact Nat.mul_le_mul h3 h1
theorem Tried.le {n : Nat} {acc : List (Nat × Nat)} {L p : Nat} (h : Tried n acc L p) (hn : 1 ≤ n) : L ≤ n := by
  have : L ∣ n := ⟨pprod acc, by rw [Nat.mul_comm]; exact h.prod.symm⟩
  exact Nat.le_of_dvd hn this
/-- beyond the root: the end -/
theorem Tried.last {n : Nat} {acc : List (Nat × Nat)} {L p : Nat} (h : Tried n acc L p) (hp : L < p * p) : Parts n (if 1 < L then acc ++ [(L, 1)] else acc) := by
  split
  · rename_i hL
    have pL : Pr L := pr_of_root hL hp h.no
    have lt : ∀ q ∈ acc, q.1 < L := fun q hq => by
      have h1 := h.lt q hq
      by_cases z : L < p
      · exact absurd (Nat.dvd_refl L) (h.no L hL z)
      · omega
    refine ⟨fun q hq => ?_, snoc_up h.up lt, ?_⟩
    · rcases List.mem_append.mp hq with z | z
      · exact h.pr q z
      · rw [List.mem_singleton] at z; subst z; exact ⟨pL, Nat.le_refl _⟩
    · rw [pprod_app, ← h.prod]; simp [pprod]
  · rename_i hL
    have : L = 1 := by have := h.pos; omega
    subst this
    exact ⟨h.pr, h.up, by have := h.prod; simpa using this⟩
/-- p raised to the rest itself, where it is beyond the root -/
theorem Tried.jump {n : Nat} {acc : List (Nat × Nat)} {L p : Nat} (h : Tried n acc L p) (hL : 1 < L) (hp : L < p * p) : Tried n acc L L := by
  have pL : Pr L := pr_of_root hL hp h.no
  refine ⟨h.pr, h.up, fun q hq => ?_, h.prod, fun q h1 h2 hd => ?_, hL, h.pos⟩
  · have h1 := h.lt q hq
    by_cases z : L < p
    · exact absurd (Nat.dvd_refl L) (h.no L hL z)
    · omega
  · rcases pL.2 q hd with e | e <;> omega
theorem Tried.done {n : Nat} {acc : List (Nat × Nat)} {p : Nat} (h : Tried n acc 1 p) : Parts n acc := ⟨h.pr, h.up, by have := h.prod; simpa using this⟩
end NT
namespace NT
theorem len_of {l : List (Nat × Nat)} {n k : Nat} (h : ∀ q ∈ l, Pr q.1 ∧ 1 ≤ q.2) (hn : pprod l ≤ n) (hk : n < 2 ^ k) : l.length < k := by
  have h1 := pow_len h
  have h2 : 2 ^ l.length < 2 ^ k := Nat.lt_of_le_of_lt h1 (Nat.lt_of_le_of_lt hn hk)
  exact (Nat.pow_lt_pow_iff_right (by decide)).mp h2
theorem Tried.len {n : Nat} {acc : List (Nat × Nat)} {L p k : Nat} (h : Tried n acc L p) (hk : n < 2 ^ k) : acc.length < k := by
  refine len_of h.pr ?_ hk
  rw [← h.prod]
  exact Nat.le_mul_of_pos_right _ h.pos
theorem Parts.len {n : Nat} {l : List (Nat × Nat)} {k : Nat} (h : Parts n l) (hk : n < 2 ^ k) : l.length < k := len_of h.pr (Nat.le_of_eq h.prod) hk
end NT

end
section
namespace PowN
theorem sq (s : Int) : ∀ k : Nat, (s * s) ^ k = s ^ (2 * k) := fun k => by rw [Int.pow_mul, Int.pow_succ, Int.pow_succ, Int.pow_zero, Int.one_mul]
theorem mod_pow (s n : Int) : ∀ k : Nat, (s % n) ^ k % n = s ^ k % n
  | 0 => by rw [Int.pow_zero, Int.pow_zero]
  | k + 1 => by
    rw [Int.pow_succ, Int.pow_succ, Int.mul_emod, mod_pow s n k, Int.emod_emod_of_dvd _ (Int.dvd_refl n), ← Int.mul_emod]
theorem start (b o n : Int) : (1 % n) * (b % n) ^ o.toNat % n = b ^ o.toNat % n := by
  rw [Int.mul_emod, Int.emod_emod_of_dvd _ (Int.dvd_refl n), mod_pow, ← Int.mul_emod, Int.one_mul]
theorem odd {f s l n : Int} (hl : 0 ≤ l) (h1 : l % 2 = 1) : (f * s % n) * (s * s % n) ^ (l / 2).toNat % n = f * s ^ l.toNat % n := by
  have e : l.toNat = 2 * (l / 2).toNat + 1 := by omega
  rw [Int.mul_emod, Int.emod_emod_of_dvd _ (Int.dvd_refl n), mod_pow, ← Int.mul_emod, sq, e, Int.pow_succ, Int.mul_assoc, Int.mul_comm s]
theorem even {f s l n : Int} (hl : 0 ≤ l) (h1 : l % 2 = 0) : f * (s * s % n) ^ (l / 2).toNat % n = f * s ^ l.toNat % n := by
  have e : l.toNat = 2 * (l / 2).toNat := by omega
  rw [Int.mul_emod, mod_pow, ← Int.mul_emod, sq, e]
end PowN
namespace GcdN
theorem step {x y : Int} (hx : 0 ≤ x) (hy : 0 ≤ y) : Int.gcd y (x % y) = Int.gcd x y := by
  obtain ⟨a, rfl⟩ := Int.eq_ofNat_of_zero_le hx
  obtain ⟨b, rfl⟩ := Int.eq_ofNat_of_zero_le hy
  show Int.gcd (b : Int) ((a % b : Nat) : Int) = Int.gcd (a : Int) (b : Int)
  rw [Int.gcd_natCast_natCast, Int.gcd_natCast_natCast, Nat.gcd_comm a b]
  rw [Nat.gcd_comm b (a % b), ← Nat.gcd_rec]
end GcdN
namespace EgcN
theorem gcd_mod (a n : Int) : Int.gcd (a % n) n = Int.gcd a n := by
  rw [Int.emod_def, Int.gcd_sub_mul_left_left]
/-- the loop of divisions, with what undoes a by n -/
structure Inv (a n x y f s : Int) : Prop where
  x0 : 1 ≤ x
  y0 : 0 ≤ y
  xn : x ≤ n
  yn : y ≤ n
  e1 : f * a % n = x % n
  e2 : s * a % n = y % n
  bd : s.natAbs * x.natAbs + f.natAbs * y.natAbs ≤ n.natAbs
  g : Int.gcd x y = Int.gcd a n
theorem start {a n : Int} (h : 0 < n) : Inv a n n (a % n) 0 1 := by
  have h1 := Int.emod_lt_of_pos a h
  have h2 := Int.emod_nonneg a (show n ≠ 0 by omega)
  refine ⟨by omega, h2, by omega, by omega, by simp, by rw [Int.one_mul, Int.emod_emod_of_dvd _ (Int.dvd_refl n)], by simp, ?_⟩
  rw [Int.gcd_comm, gcd_mod]
theorem Inv.bounds {a n x y f s : Int} (I : Inv a n x y f s) (hy : 0 < y) : -n ≤ s ∧ s ≤ n ∧ -n ≤ f ∧ f ≤ n := by
  have h := I.bd
  have x0 := I.x0
  have xn := I.xn
  have h1 : f.natAbs ≤ f.natAbs * y.natAbs := Nat.le_mul_of_pos_right _ (by omega)
  have h2 : s.natAbs ≤ s.natAbs * x.natAbs := Nat.le_mul_of_pos_right _ (by omega)
  omega
theorem Inv.fin {a n x f s : Int} (I : Inv a n x 0 f s) : x = (Int.gcd a n : Nat) := by
  have h := I.g
  rw [Int.gcd_zero_right] at h
  have := I.x0
  omega
theorem natAbs_sub_mul (f q s : Int) (hq : 0 ≤ q) : (f - q * s).natAbs ≤ f.natAbs + q.natAbs * s.natAbs := by
  have h := Int.natAbs_sub_le f (q * s)
  rw [Int.natAbs_mul] at h
  exact h
theorem Inv.step {a n x y f s : Int} (I : Inv a n x y f s) (hy : 0 < y) : Inv a n y (x - x / y * y) s (f - x / y * s) := by
  have e : x - x / y * y = x % y := by rw [Int.emod_def, Int.mul_comm]
  have m0 := Int.emod_nonneg x (show y ≠ 0 by omega)
  have m1 := Int.emod_lt_of_pos x hy
  have x0 := I.x0
  have hq0 : 0 ≤ x / y := Int.ediv_nonneg (by omega) (by omega)
  have yn := I.yn
  refine ⟨by omega, by omega, yn, by omega, I.e2, ?_, ?_, ?_⟩
  · have h : (f - x / y * s) * a % n = (x - x / y * y) % n := by
      rw [Int.sub_mul, Int.sub_emod, I.e1, Int.mul_assoc, Int.mul_emod (x / y) (s * a), I.e2, ← Int.mul_emod, ← Int.sub_emod]
    exact h
  · have h1 := natAbs_sub_mul f (x / y) s hq0
    have h2 : (x.natAbs : Int) = (x / y).natAbs * y.natAbs + (x - x / y * y).natAbs := by
      have e1 : ((x.natAbs : Nat) : Int) = x := by omega
      have e2 : (((x / y).natAbs : Nat) : Int) = x / y := by omega
      have e3 : ((y.natAbs : Nat) : Int) = y := by omega
      have e4 : (((x - x / y * y).natAbs : Nat) : Int) = x - x / y * y := by omega
      rw [e1, e2, e3, e4]; omega
    have h3 : x.natAbs = (x / y).natAbs * y.natAbs + (x - x / y * y).natAbs := by exact_mod_cast h2
    have h := I.bd
    have h4 : (f - x / y * s).natAbs * y.natAbs ≤ (f.natAbs + (x / y).natAbs * s.natAbs) * y.natAbs := Nat.mul_le_mul_right _ h1
    rw [Nat.add_mul] at h4
    have key : ∀ S X C Y D : Nat, X = C * Y + D → S * X = C * S * Y + S * D := fun S X C Y D e => by
      rw [e, Nat.mul_add, ← Nat.mul_assoc, Nat.mul_comm S C]
    have h5 := key s.natAbs _ _ _ _ h3
    omega
  · rw [← I.g, e, Int.gcd_comm, gcd_mod]
end EgcN

end
section
namespace NT
/-! ### lists without twice: arrangements -/
theorem perm_of_sub {α : Type} [DecidableEq α] : ∀ {l r : List α}, l.Nodup → (∀ x ∈ l, x ∈ r) → r.length ≤ l.length → l.Perm r
  | [], r, _, _, h => by
    have : r = [] := List.eq_nil_of_length_eq_zero (by simpa using h)
    rw [this]
  | a :: l, r, hn, hs, h => by
    have ha : a ∈ r := hs a List.mem_cons_self
    have hn' := List.nodup_cons.mp hn
    have p := List.perm_cons_erase ha
    refine List.Perm.trans (List.Perm.cons a ?_) p.symm
    refine perm_of_sub hn'.2 (fun x hx => ?_) ?_
    · refine (List.mem_erase_of_ne (fun (z : x = a) => hn'.1 (z ▸ hx))).mpr (hs x (List.mem_cons_of_mem _ hx))
    · rw [List.length_erase_of_mem ha]
      rw [List.length_cons] at h
      omega
theorem nodup_map {α β : Type} {f : α → β} : ∀ {l : List α}, l.Nodup → (∀ x ∈ l, ∀ y ∈ l, f x = f y → x = y) → (l.map f).Nodup
  | [], _, _ => List.nodup_nil
  | a :: l, hn, hi => by
    have hn' := List.nodup_cons.mp hn
    rw [List.map_cons, List.nodup_cons]
    refine ⟨fun h => ?_, nodup_map hn'.2 fun x hx y hy => hi x (List.mem_cons_of_mem _ hx) y (List.mem_cons_of_mem _ hy)⟩
    obtain ⟨x, hx, e⟩ := List.mem_map.mp h
    have := hi x (List.mem_cons_of_mem _ hx) a List.mem_cons_self e
    exact hn'.1 (this ▸ hx)
theorem perm_map {α : Type} [DecidableEq α] {f : α → α} {l : List α} (hn : l.Nodup) (hc : ∀ x ∈ l, f x ∈ l) (hi : ∀ x ∈ l, ∀ y ∈ l, f x = f y → x = y) : (l.map f).Perm l :=
  perm_of_sub (nodup_map hn hi) (fun y hy => by obtain ⟨x, hx, e⟩ := List.mem_map.mp hy; exact e ▸ hc x hx) (by rw [List.length_map]; exact Nat.le_refl _)
def lprod : List Nat → Nat
  | [] => 1
  | x :: l => x * lprod l
theorem lprod_perm {l r : List Nat} (h : l.Perm r) : lprod l = lprod r := by
  induction h with
  | nil => rfl
  | cons x _ ih => simp only [lprod, ih]
  | swap x y l => simp only [lprod]; rw [← Nat.mul_assoc, ← Nat.mul_assoc, Nat.mul_comm y x]
  | trans _ _ h1 h2 => exact h1.trans h2
theorem cop_mul {a b n : Nat} (ha : Nat.gcd a n = 1) (hb : Nat.gcd b n = 1) : Nat.gcd (a * b) n = 1 := Nat.Coprime.mul_left (m := a) (n := b) (k := n) ha hb
theorem cop_lprod {n : Nat} : ∀ {l : List Nat}, (∀ x ∈ l, Nat.gcd x n = 1) → Nat.gcd (lprod l) n = 1
  | [], _ => Nat.gcd_one_left n
  | x :: l, h => cop_mul (h x List.mem_cons_self) (cop_lprod fun y hy => h y (List.mem_cons_of_mem _ hy))
theorem dvd_of_cop {n c : Nat} {z : Int} (hc : Nat.gcd c n = 1) (h : (n : Int) ∣ c * z) : (n : Int) ∣ z := by
  have h1 : n ∣ c * z.natAbs := by
    have := Int.natAbs_dvd_natAbs.mpr h
    rw [Int.natAbs_mul] at this
    exact this
  have h2 : n ∣ z.natAbs := Nat.Coprime.dvd_of_dvd_mul_left (show Nat.Coprime n c by rw [Nat.coprime_iff_gcd_eq_one, Nat.gcd_comm]; exact hc) h1
  exact Int.dvd_natAbs.mp (by exact_mod_cast h2)
theorem mod_iff {a b n : Int} : a % n = b % n ↔ n ∣ a - b := by
  constructor
  · intro h
    exact Int.dvd_of_emod_eq_zero (by rw [Int.sub_emod, h, Int.sub_self, Int.zero_emod])
  · intro h
    exact Int.emod_eq_emod_iff_emod_sub_eq_zero.mpr (Int.emod_eq_zero_of_dvd h)
theorem cancel {c n x y : Nat} (hc : Nat.gcd c n = 1) (h : c * x % n = c * y % n) : x % n = y % n := by
  have h' : ((c * x : Nat) : Int) % n = ((c * y : Nat) : Int) % n := by exact_mod_cast h
  have h1 := mod_iff.mp h'
  have h2 : (n : Int) ∣ (c : Int) * ((x : Int) - y) := by
    rw [Int.mul_sub]; simpa using h1
  have h3 := mod_iff.mpr (dvd_of_cop hc h2)
  exact_mod_cast h3
theorem lprod_map (a n : Nat) : ∀ l : List Nat, lprod (l.map fun x => a * x % n) % n = a ^ l.length * lprod l % n
  | [] => by simp [lprod]
  | x :: l => by
    simp only [List.map_cons, lprod, List.length_cons]
    rw [Nat.mul_mod, lprod_map a n l, Nat.mod_mod, ← Nat.mul_mod, Nat.pow_succ]
    congr 1
    rw [Nat.mul_assoc (a ^ l.length), Nat.mul_comm a x, Nat.mul_assoc x a, ← Nat.mul_assoc a, Nat.mul_comm a (a ^ l.length), ← Nat.mul_assoc x, Nat.mul_comm x (a ^ l.length * a)]
    rw [Nat.mul_assoc, Nat.mul_assoc]
/-- Euler: over a list of numbers that share just 1 with n, closed under times a -/
theorem euler {n a : Nat} {U : List Nat} (hn : U.Nodup) (hl : ∀ x ∈ U, x < n) (hx : ∀ x ∈ U, Nat.gcd x n = 1) (ha : Nat.gcd a n = 1) (hc : ∀ x ∈ U, a * x % n ∈ U) : a ^ U.length % n = 1 % n := by
  have p : (U.map fun x => a * x % n).Perm U := perm_map hn hc fun x h1 y h2 e => by
    have := cancel ha e
    rwa [Nat.mod_eq_of_lt (hl x h1), Nat.mod_eq_of_lt (hl y h2)] at this
  have e := lprod_map a n U
  rw [lprod_perm p] at e
  have e2 : lprod U * a ^ U.length % n = lprod U * 1 % n := by rw [Nat.mul_comm, ← e, Nat.mul_one]
  exact cancel (cop_lprod hx) e2
/-- Fermat -/
theorem fermat {p a : Nat} (hp : Pr p) (ha : ¬ p ∣ a) : a ^ (p - 1) % p = 1 := by
  have hp2 := hp.two
  have ga : Nat.gcd a p = 1 := by rw [Nat.gcd_comm]; exact hp.cop ha
  have h := euler (n := p) (a := a) (U := (List.range (p - 1)).map (· + 1)) (nodup_map List.nodup_range fun x _ y _ e => by omega)
    (fun x hx => by obtain ⟨y, hy, rfl⟩ := List.mem_map.mp hx; have := List.mem_range.mp hy; omega)
    (fun x hx => by
      obtain ⟨y, hy, rfl⟩ := List.mem_map.mp hx
      have := List.mem_range.mp hy
      rw [Nat.gcd_comm]
      exact hp.cop fun z => by have := Nat.le_of_dvd (by omega) z; omega) ga (fun x hx => by
      obtain ⟨y, hy, rfl⟩ := List.mem_map.mp hx
      have := List.mem_range.mp hy
      have hlt := Nat.mod_lt (a * (y + 1)) hp.pos
      have h0 : a * (y + 1) % p ≠ 0 := fun z => by
        rcases hp.dvd_mul (Nat.dvd_of_mod_eq_zero z) with e | e
        · exact ha e
        · have := Nat.le_of_dvd (by omega) e; omega
      exact List.mem_map.mpr ⟨a * (y + 1) % p - 1, List.mem_range.mpr (by omega), by omega⟩)
  rw [List.length_map, List.length_range, Nat.mod_eq_of_lt (show 1 < p by omega)] at h
  exact h
theorem fermat_int {p : Nat} (hp : Pr p) (a : Int) : a ^ p % (p : Int) = a % p := by
  have hpos : (0 : Int) < p := by have := hp.pos; omega
  rw [← PowN.mod_pow]
  obtain ⟨r, hr⟩ := Int.eq_ofNat_of_zero_le (Int.emod_nonneg a (show (p : Int) ≠ 0 by omega))
  rw [hr]
  have hlt : r < p := by have := Int.emod_lt_of_pos a hpos; omega
  have key : r ^ p % p = r := by
    by_cases h0 : r = 0
    · subst h0
      rw [Nat.zero_pow hp.pos, Nat.zero_mod]
    · have hnd : ¬ p ∣ r := fun z => by have := Nat.le_of_dvd (by omega) z; omega
      have e : p = (p - 1) + 1 := by have := hp.pos; omega
      have e2 : r ^ p = r ^ (p - 1) * r := by
        have := Nat.pow_succ (n := r) (m := p - 1)
        rwa [show (p - 1).succ = p by omega] at this
      rw [e2, Nat.mul_mod, fermat hp hnd, Nat.one_mul, Nat.mod_mod, Nat.mod_eq_of_lt hlt]
  have := congrArg (fun x : Nat => (x : Int)) key
  simpa using this
/-! ### powers, what undoes -/
theorem pow_mod_add (b : Int) (i j : Nat) (n : Int) : (b ^ i % n) * (b ^ j % n) % n = b ^ (i + j) % n := by rw [← Int.mul_emod, Int.pow_add]
theorem pow_mod_mul (a c : Int) (i : Nat) (n : Int) : (a ^ i % n) * (c ^ i % n) % n = (a * c) ^ i % n := by rw [← Int.mul_emod, Int.mul_pow]
theorem pow_mod_pow (a : Int) (i j : Nat) (n : Int) : (a ^ i % n) ^ j % n = (a ^ j % n) ^ i % n := by rw [PowN.mod_pow, PowN.mod_pow, ← Int.pow_mul, ← Int.pow_mul, Nat.mul_comm]
theorem und_uniq {a x y n : Int} (hn : 0 < n) (hx0 : 0 ≤ x) (hx : x < n) (hy0 : 0 ≤ y) (hy : y < n) (ex : x * a % n = 1 % n) (ey : y * a % n = 1 % n) : x = y := by
  have h : x % n = y % n := by
    have e1 : x * (y * a) % n = x % n := by rw [Int.mul_emod, ey, ← Int.mul_emod, Int.mul_one]
    have e2 : x * (y * a) % n = y % n := by
      rw [show x * (y * a) = y * (x * a) by rw [← Int.mul_assoc, Int.mul_comm x y, Int.mul_assoc], Int.mul_emod, ex, ← Int.mul_emod, Int.mul_one]
    rw [← e1, e2]
  rwa [Int.emod_eq_of_lt hx0 hx, Int.emod_eq_of_lt hy0 hy] at h
theorem und_pow {a x n : Int} (j : Nat) (ex : x * a % n = 1 % n) : (x ^ j % n) * (a ^ j % n) % n = 1 % n := by
  rw [← Int.mul_emod, ← Int.mul_pow, ← PowN.mod_pow, ex, PowN.mod_pow, Int.one_pow]
theorem und_gcd {a x n : Int} (ex : x * a % n = 1 % n) : Int.gcd a n = 1 := by
  have h := mod_iff.mp ex
  have h1 : ((Int.gcd a n : Nat) : Int) ∣ 1 := by
    have d1 : ((Int.gcd a n : Nat) : Int) ∣ x * a - 1 := Int.dvd_trans (Int.gcd_dvd_right a n) h
    have d2 : ((Int.gcd a n : Nat) : Int) ∣ x * a := Int.dvd_mul_of_dvd_right (Int.gcd_dvd_left a n)
    have := Int.dvd_sub d2 d1
    rwa [show x * a - (x * a - 1) = 1 by omega] at this
  have h2 : (Int.gcd a n) ∣ 1 := by exact_mod_cast h1
  exact Nat.dvd_one.mp h2
theorem take_snoc {α : Type} : ∀ {l : List α} {i : Nat} {x : α}, l[i]? = some x → l.take (i + 1) = l.take i ++ [x]
  | [], i, x, h => by simp at h
  | a :: l, 0, x, h => by
    simp only [List.getElem?_cons_zero, Option.some.injEq] at h
    subst h; rfl
  | a :: l, i + 1, x, h => by
    simp only [List.getElem?_cons_succ] at h
    rw [List.take_succ_cons, List.take_succ_cons, take_snoc h]; rfl
theorem pprod_take {l : List (Nat × Nat)} {i : Nat} {q : Nat × Nat} (h : l[i]? = some q) : pprod (l.take (i + 1)) = pprod (l.take i) * q.1 ^ q.2 := by
  rw [take_snoc h, pprod_app]; simp [pprod]
theorem pprod_take_le {l : List (Nat × Nat)} {n : Nat} (hn : 1 ≤ n) (h : Parts n l) (i : Nat) : pprod (l.take i) ≤ n := by
  have e : pprod (l.take i) * pprod (l.drop i) = n := by rw [← pprod_app, List.take_append_drop]; exact h.prod
  exact Nat.le_of_dvd hn ⟨_, e.symm⟩
/-- trial: is a number a prime -/
def pdiv (n d : Nat) : Nat → Bool
  | 0 => true
  | k + 1 => if n < d * d then true else if n % d = 0 then false else pdiv n (d + 1) k
theorem pdiv_ok {n : Nat} : ∀ (k d : Nat), pdiv n d k = true → n < (d + k) * (d + k) → (∀ q, 2 ≤ q → q < d → ¬ q ∣ n) → ∃ e, n < e * e ∧ ∀ q, 2 ≤ q → q < e → ¬ q ∣ n
  | 0, d, _, h2, h3 => ⟨d, h2, h3⟩
  | k + 1, d, h1, h2, h3 => by
    unfold pdiv at h1
    split at h1
    · exact ⟨d, by assumption, h3⟩
    · split at h1
      · cases h1
      · rename_i hnd
        refine pdiv_ok k (d + 1) h1 (by rwa [Nat.add_right_comm]) fun q h4 h5 hd => ?_
        by_cases e : q = d
        · subst e
          exact hnd (Nat.mod_eq_zero_of_dvd hd)
        · exact h3 q h4 (by omega) hd
theorem pr_by {n k : Nat} (h1 : 1 < n) (h : pdiv n 2 k = true) (h2 : n < (2 + k) * (2 + k)) : Pr n := by
  obtain ⟨e, h3, h4⟩ := pdiv_ok k 2 h h2 fun q a b => by omega
  exact pr_of_root h1 h3 h4
set_option maxRecDepth 100000 in
theorem pr_1000003 : Pr 1000003 := pr_by (k := 1000) (by decide) (by decide +kernel) (by decide)
end NT

end
section
set_option maxRecDepth 100000
namespace NT
/-! ### prime factors -/
theorem least_div (n : Nat) (h : 2 ≤ n) : ∃ p, Pr p ∧ p ∣ n := by
  have key : ∀ k d, 2 ≤ d → d + k = n → (∀ q, 2 ≤ q → q < d → ¬ q ∣ n) → ∃ p, Pr p ∧ p ∣ n := by
    intro k
    induction k with
    | zero =>
      intro d h1 h2 h3
      have e : d = n := by omega
      rw [e] at h3
      exact ⟨n, pr_of_least h (Nat.dvd_refl n) h3, Nat.dvd_refl n⟩
    | succ k ih =>
      intro d h1 h2 h3
      by_cases hd : d ∣ n
      · exact ⟨d, pr_of_least h1 hd h3, hd⟩
      · refine ih (d + 1) (by omega) (by omega) fun q a b => ?_
        by_cases e : q = d
        · rw [e]; exact hd
        · exact h3 q a (by omega)
  exact key (n - 2) 2 (Nat.le_refl 2) (by omega) fun q a b => by omega
/-! ### the count of rests, by its prime parts -/
def phi : List (Nat × Nat) → Nat
  | [] => 1
  | q :: r => q.1 ^ (q.2 - 1) * (q.1 - 1) * phi r
theorem phi_app : ∀ l r : List (Nat × Nat), phi (l ++ r) = phi l * phi r
  | [], r => by simp [phi]
  | q :: l, r => by simp only [List.cons_append, phi, phi_app l r, Nat.mul_assoc]
theorem phi_take {l : List (Nat × Nat)} {i : Nat} {q : Nat × Nat} (h : l[i]? = some q) : phi (l.take (i + 1)) = phi (l.take i) * (q.1 ^ (q.2 - 1) * (q.1 - 1)) := by
  rw [take_snoc h, phi_app]; simp [phi]
theorem phi_pos : ∀ {l : List (Nat × Nat)}, (∀ q ∈ l, Pr q.1 ∧ 1 ≤ q.2) → 1 ≤ phi l
  | [], _ => Nat.le_refl _
  | q :: l, h => by
    have h1 := phi_pos fun r hr => h r (List.mem_cons_of_mem _ hr)
    have h2 := (h q List.mem_cons_self).1.two
    exact Nat.mul_pos (Nat.mul_pos (Nat.pow_pos (by omega)) (by omega)) h1
theorem pow_pred {p e : Nat} (h : 1 ≤ e) : p ^ e = p ^ (e - 1) * p := by
  rw [← Nat.pow_succ]; congr 1; omega
theorem phi_le : ∀ {l : List (Nat × Nat)}, (∀ q ∈ l, Pr q.1 ∧ 1 ≤ q.2) → phi l ≤ pprod l
  | [], _ => Nat.le_refl _
  | q :: l, h => by
    have h1 := phi_le fun r hr => h r (List.mem_cons_of_mem _ hr)
    have h2 := h q List.mem_cons_self
    simp only [phi, pprod]
    rw [pow_pred h2.2]
    exact Nat.mul_le_mul (Nat.mul_le_mul_left _ (Nat.sub_le _ _)) h1
theorem drop_get {α : Type} : ∀ {l : List α} {i : Nat} {x : α}, l[i]? = some x → l.drop i = x :: l.drop (i + 1)
  | [], i, x, h => by simp at h
  | a :: l, 0, x, h => by
    simp only [List.getElem?_cons_zero, Option.some.injEq] at h
    subst h; rfl
  | a :: l, i + 1, x, h => by
    simp only [List.getElem?_cons_succ] at h
    simp only [List.drop_succ_cons]
    exact drop_get h
/-- what the loop over the parts holds -/
def phiAt (l : List (Nat × Nat)) (i : Nat) : Nat := phi (l.take i) * pprod (l.drop i)
theorem phiAt_zero (l : List (Nat × Nat)) : phiAt l 0 = pprod l := by simp [phiAt, phi]
theorem phiAt_end (l : List (Nat × Nat)) : phiAt l l.length = phi l := by simp [phiAt, pprod]
theorem phiAt_step {l : List (Nat × Nat)} {i : Nat} {q : Nat × Nat} (h : l[i]? = some q) (h2 : Pr q.1 ∧ 1 ≤ q.2) : phiAt l i / q.1 * (q.1 - 1) = phiAt l (i + 1) := by
  unfold phiAt
  rw [phi_take h, drop_get h]
  simp only [pprod]
  rw [pow_pred h2.2, show phi (l.take i) * (q.1 ^ (q.2 - 1) * q.1 * pprod (l.drop (i + 1))) = (phi (l.take i) * q.1 ^ (q.2 - 1) * pprod (l.drop (i + 1))) * q.1 by
    simp only [Nat.mul_assoc, Nat.mul_comm, Nat.mul_left_comm]]
  rw [Nat.mul_div_cancel _ h2.1.pos]
  simp only [Nat.mul_assoc, Nat.mul_comm, Nat.mul_left_comm]
theorem phiAt_le {l : List (Nat × Nat)} (h : ∀ q ∈ l, Pr q.1 ∧ 1 ≤ q.2) (i : Nat) : phiAt l i ≤ pprod l := by
  have h1 := phi_le (l := l.take i) fun q hq => h q (List.mem_of_mem_take hq)
  calc phiAt l i ≤ pprod (l.take i) * pprod (l.drop i) := Nat.mul_le_mul_right _ h1
    _ = pprod l := by rw [← pprod_app, List.take_append_drop]
theorem phiAt_pos {l : List (Nat × Nat)} (h : ∀ q ∈ l, Pr q.1 ∧ 1 ≤ q.2) (i : Nat) : 1 ≤ phiAt l i := by
  refine Nat.mul_pos (phi_pos fun q hq => h q (List.mem_of_mem_take hq)) (Nat.pos_of_ne_zero fun z => ?_)
  have e : pprod l = 0 := by rw [← List.take_append_drop i l, pprod_app, z, Nat.mul_zero]
  have := phi_le h
  have := phi_pos h
  omega
/-! ### Euler, by prime powers -/
theorem nat_dvd {n : Nat} {z : Int} : (n : Int) ∣ z ↔ n ∣ z.natAbs := by
  rw [← Int.natAbs_dvd_natAbs, Int.natAbs_natCast]
/-- 1 + y + .. -/
def geo (y : Int) : Nat → Int
  | 0 => 0
  | k + 1 => geo y k + y ^ k
theorem geo_mul (y : Int) : ∀ k, (y - 1) * geo y k = y ^ k - 1
  | 0 => by simp [geo]
  | k + 1 => by
    rw [geo, Int.mul_add, geo_mul y k, Int.pow_succ, Int.sub_mul, Int.one_mul, Int.mul_comm y]
    omega
theorem geo_mod {y m : Int} (h : m ∣ y - 1) : ∀ k : Nat, m ∣ geo y k - k
  | 0 => by simp [geo]
  | k + 1 => by
    have h1 := geo_mod h k
    have h2 : m ∣ y ^ k - 1 := by rw [← geo_mul]; exact Int.dvd_trans h (Int.dvd_mul_right _ _)
    have e : geo y (k + 1) - ((k + 1 : Nat) : Int) = (geo y k - k) + (y ^ k - 1) := by rw [geo]; omega
    rw [e]
    exact Int.dvd_add h1 h2
theorem lift {p : Nat} {y : Int} {m : Int} (hm : (p : Int) ∣ m) (h : m ∣ y - 1) : m * p ∣ y ^ p - 1 := by
  rw [← geo_mul]
  refine Int.mul_dvd_mul h ?_
  have h1 := geo_mod (Int.dvd_trans hm h) p
  have h2 := Int.dvd_add h1 (Int.dvd_refl (p : Int))
  have e : geo y p - (p : Int) + p = geo y p := by omega
  rwa [e] at h2
theorem fermat_dvd {p : Nat} (hp : Pr p) {x : Int} (hx : ¬ (p : Int) ∣ x) : (p : Int) ∣ x ^ (p - 1) - 1 := by
  have hpos : (0 : Int) < p := by have := hp.pos; omega
  obtain ⟨r, hr⟩ := Int.eq_ofNat_of_zero_le (Int.emod_nonneg x (show (p : Int) ≠ 0 by omega))
  have nd : ¬ p ∣ r := fun z => hx (by
    have : (p : Int) ∣ x % p := by rw [hr]; exact Int.natCast_dvd_natCast.mpr z
    have e := Int.emod_add_mul_ediv x p
    rw [← e]
    exact Int.dvd_add this (Int.dvd_mul_right _ _))
  have h := fermat hp nd
  refine mod_iff.mp ?_
  rw [← PowN.mod_pow, hr]
  have h1 : ((r ^ (p - 1) % p : Nat) : Int) = 1 := by rw [h]; rfl
  have h2 : (1 : Int) % p = 1 := Int.emod_eq_of_lt (by decide) (by have := hp.two; omega)
  rw [h2, ← h1]
  simp
theorem euler_pow {p : Nat} (hp : Pr p) {x : Int} (hx : ¬ (p : Int) ∣ x) : ∀ e : Nat, ((p ^ (e + 1) : Nat) : Int) ∣ x ^ (p ^ e * (p - 1)) - 1
  | 0 => by
    rw [Nat.pow_zero, Nat.one_mul, Nat.pow_one]
    exact fermat_dvd hp hx
  | e + 1 => by
    have h := euler_pow hp hx e
    have h1 := lift (p := p) (m := ((p ^ (e + 1) : Nat) : Int)) (by rw [Nat.pow_succ]; exact Int.natCast_dvd_natCast.mpr (Nat.dvd_mul_left _ _)) h
    rw [← Int.pow_mul] at h1
    have e1 : p ^ e * (p - 1) * p = p ^ (e + 1) * (p - 1) := by rw [Nat.pow_succ, Nat.mul_assoc, Nat.mul_assoc, Nat.mul_comm p]
    rw [e1] at h1
    have e2 : ((p ^ (e + 1 + 1) : Nat) : Int) = ((p ^ (e + 1) : Nat) : Int) * p := by rw [Nat.pow_succ (n := p) (m := e + 1)]; exact Int.natCast_mul _ _
    rw [e2]
    exact h1
theorem cop_pows {p q a b : Nat} (hp : Pr p) (hq : Pr q) (h : p ≠ q) : Nat.gcd (p ^ a) (q ^ b) = 1 :=
  Nat.Coprime.pow a b (show Nat.Coprime p q from hp.cop fun z => h (hp.eq_of_dvd hq z))
theorem cop_pprod {p a : Nat} (hp : Pr p) : ∀ {l : List (Nat × Nat)}, (∀ q ∈ l, Pr q.1 ∧ p ≠ q.1) → Nat.gcd (p ^ a) (pprod l) = 1
  | [], _ => Nat.gcd_one_right _
  | q :: l, h => Nat.Coprime.mul_right (show Nat.Coprime (p ^ a) (q.1 ^ q.2) from cop_pows hp (h q List.mem_cons_self).1 (h q List.mem_cons_self).2) (cop_pprod hp fun r hr => h r (List.mem_cons_of_mem _ hr))
/-- each prime power goes, so the product goes -/
theorem pprod_dvd {z : Int} : ∀ {l : List (Nat × Nat)}, (∀ q ∈ l, Pr q.1) → (l.Pairwise fun a b => a.1 < b.1) → (∀ q ∈ l, ((q.1 ^ q.2 : Nat) : Int) ∣ z) → ((pprod l : Nat) : Int) ∣ z
  | [], _, _, _ => Int.one_dvd _
  | q :: l, h1, h2, h3 => by
    have h4 := List.pairwise_cons.mp h2
    have ih := pprod_dvd (fun r hr => h1 r (List.mem_cons_of_mem _ hr)) h4.2 fun r hr => h3 r (List.mem_cons_of_mem _ hr)
    have c : Nat.gcd (q.1 ^ q.2) (pprod l) = 1 := cop_pprod (h1 q List.mem_cons_self) fun r hr => ⟨h1 r (List.mem_cons_of_mem _ hr), Nat.ne_of_lt (h4.1 r hr)⟩
    have d1 := nat_dvd.mp (h3 q List.mem_cons_self)
    have d2 := nat_dvd.mp ih
    exact nat_dvd.mpr (Nat.Coprime.mul_dvd_of_dvd_of_dvd c d1 d2)
theorem phi_dvd : ∀ {l : List (Nat × Nat)} {q : Nat × Nat}, q ∈ l → q.1 ^ (q.2 - 1) * (q.1 - 1) ∣ phi l
  | a :: l, q, h => by
    rcases List.mem_cons.mp h with e | e
    · subst e; exact Nat.dvd_mul_right _ _
    · exact Nat.dvd_trans (phi_dvd e) (Nat.dvd_mul_left _ _)
theorem pow_dvd_one {x m : Int} {a b : Nat} (h : m ∣ x ^ a - 1) (hab : a ∣ b) : m ∣ x ^ b - 1 := by
  obtain ⟨c, rfl⟩ := hab
  rw [Int.pow_mul, ← geo_mul]
  exact Int.dvd_trans h (Int.dvd_mul_right _ _)
theorem euler_parts {n : Nat} {l : List (Nat × Nat)} (h : Parts n l) {x : Int} (hx : Int.gcd x n = 1) : x ^ phi l % (n : Int) = 1 % n := by
  refine mod_iff.mpr ?_
  rw [← h.prod]
  refine pprod_dvd (fun q hq => (h.pr q hq).1) h.up fun q hq => ?_
  obtain ⟨hp, he⟩ := h.pr q hq
  have nd : ¬ (q.1 : Int) ∣ x := fun z => by
    have d1 : q.1 ∣ n := by
      rw [← h.prod]
      refine Nat.dvd_trans ?_ (mem_dvd hq)
      exact Nat.dvd_trans (by rw [Nat.pow_one]; exact Nat.dvd_refl _) (Nat.pow_dvd_pow q.1 he)
    have d2 : q.1 ∣ Int.gcd x n := Nat.dvd_gcd (nat_dvd.mp z) (by simpa using d1)
    rw [hx] at d2
    have := Nat.le_of_dvd (by decide) d2
    have := hp.two
    omega
  have h1 := euler_pow hp nd (q.2 - 1)
  rw [show q.2 - 1 + 1 = q.2 by omega] at h1
  exact pow_dvd_one h1 (phi_dvd hq)
theorem part_le {n : Nat} {l : List (Nat × Nat)} (hn : 1 ≤ n) (h : Parts n l) {q : Nat × Nat} (hq : q ∈ l) : q.1 ≤ n ∧ q.1 ^ q.2 ≤ n := by
  have hqp := h.pr q hq
  have h1 := mem_dvd hq
  rw [h.prod] at h1
  have h2 : q.1 ∣ q.1 ^ q.2 := by
    have := Nat.pow_dvd_pow q.1 hqp.2
    rwa [Nat.pow_one] at this
  exact ⟨Nat.le_of_dvd hn (Nat.dvd_trans h2 h1), Nat.le_of_dvd hn h1⟩
/-! ### orders -/
structure Ord (x n : Int) (m : Nat) : Prop where
  pos : 0 < m
  one : x ^ m % n = 1 % n
  least : ∀ j, 0 < j → j < m → x ^ j % n ≠ 1 % n
theorem pow_mul_one {x n : Int} {a : Nat} (h : x ^ a % n = 1 % n) (c : Nat) : x ^ (a * c) % n = 1 % n := mod_iff.mpr (pow_dvd_one (mod_iff.mp h) (Nat.dvd_mul_right _ _))
theorem pow_add_one {x n : Int} {a : Nat} (h : x ^ a % n = 1 % n) (c : Nat) : x ^ (a + c) % n = x ^ c % n := by
  rw [Int.pow_add, Int.mul_emod, h, ← Int.mul_emod, Int.one_mul]
theorem Ord.ex {x n : Int} {m : Nat} (hp : 0 < m) (h : x ^ m % n = 1 % n) : ∃ d, Ord x n d ∧ d ≤ m := by
  have key : ∀ k d, 0 < d → d + k = m → (∀ j, 0 < j → j < d → x ^ j % n ≠ 1 % n) → ∃ d, Ord x n d ∧ d ≤ m := by
    intro k
    induction k with
    | zero =>
      intro d h1 h2 h3
      have : d = m := by omega
      subst this
      exact ⟨d, ⟨h1, h, h3⟩, Nat.le_refl _⟩
    | succ k ih =>
      intro d h1 h2 h3
      by_cases hd : x ^ d % n = 1 % n
      · exact ⟨d, ⟨h1, hd, h3⟩, by omega⟩
      · refine ih (d + 1) (by omega) (by omega) fun j a b => ?_
        by_cases e : j = d
        · rw [e]; exact hd
        · exact h3 j a (by omega)
  exact key (m - 1) 1 (by decide) (by omega) fun j a b => by omega
theorem Ord.dvd {x n : Int} {d m : Nat} (o : Ord x n d) (h : x ^ m % n = 1 % n) : d ∣ m := by
  have e := Nat.div_add_mod m d
  have h1 : x ^ (m % d) % n = 1 % n := by
    rw [← pow_add_one (pow_mul_one o.one (m / d)) (m % d), e]
    exact h
  have h2 := Nat.mod_lt m o.pos
  rcases Nat.eq_zero_or_pos (m % d) with z | z
  · exact Nat.dvd_of_mod_eq_zero z
  · exact absurd h1 (o.least _ z h2)
theorem Ord.of_primes {x n : Int} {f : Nat} (hf : 0 < f) (h : x ^ f % n = 1 % n) (hp : ∀ p, Pr p → p ∣ f → x ^ (f / p) % n ≠ 1 % n) : Ord x n f := by
  obtain ⟨d, o, hd⟩ := Ord.ex hf h
  obtain ⟨k, hk⟩ := o.dvd h
  have dpos := o.pos
  by_cases h1 : k = 1
  · rw [h1, Nat.mul_one] at hk
    rw [hk]; exact o
  · have k2 : 2 ≤ k := by
      rcases Nat.eq_zero_or_pos k with z | z
      · rw [z, Nat.mul_zero] at hk; omega
      · omega
    obtain ⟨p, pp, c, hc⟩ := least_div k k2
    refine absurd ?_ (hp p pp ⟨d * c, by rw [hk, hc, Nat.mul_left_comm]⟩)
    have e : f / p = d * c := by
      rw [hk, hc, Nat.mul_left_comm]
      exact Nat.mul_div_cancel_left _ pp.pos
    rw [e]
    exact pow_mul_one o.one c
theorem Ord.uniq {x n : Int} {a b : Nat} (h : Ord x n a) (h' : Ord x n b) : a = b := Nat.dvd_antisymm (h.dvd h'.one) (h'.dvd h.one)
theorem Ord.gcd {x n : Int} {m : Nat} (o : Ord x n m) : Int.gcd x n = 1 := by
  refine und_gcd (x := x ^ (m - 1)) ?_
  rw [← Int.pow_succ, show (m - 1).succ = m by have := o.pos; omega]
  exact o.one
/-! ### small numbers in parts, by trial -/
def mult (p : Nat) : Nat → Nat → Nat × Nat
  | 0, L => (0, L)
  | k + 1, L => if L % p = 0 then ((mult p k (L / p)).1 + 1, (mult p k (L / p)).2) else (0, L)
def facL : Nat → Nat → Nat → List (Nat × Nat)
  | 0, _, _ => []
  | k + 1, d, L => if L ≤ 1 then [] else if L < d * d then [(L, 1)] else if L % d = 0 then (d, (mult d 40 L).1) :: facL k (d + 1) (mult d 40 L).2 else facL k (d + 1) L
def upB : List (Nat × Nat) → Bool
  | [] => true
  | q :: l => l.all (fun r => decide (q.1 < r.1)) && upB l
theorem upB_ok : ∀ {l : List (Nat × Nat)}, upB l = true → l.Pairwise fun a b => a.1 < b.1
  | [], _ => .nil
  | q :: l, h => by
    simp only [upB, Bool.and_eq_true, List.all_eq_true, decide_eq_true_eq] at h
    exact .cons h.1 (upB_ok h.2)
def partsB (f n : Nat) (l : List (Nat × Nat)) : Bool := l.all (fun q => decide (1 < q.1) && decide (1 ≤ q.2) && pdiv q.1 2 f && decide (q.1 < (2 + f) * (2 + f))) && upB l && decide (pprod l = n)
theorem parts_of {f n : Nat} {l : List (Nat × Nat)} (h : partsB f n l = true) : Parts n l := by
  simp only [partsB, Bool.and_eq_true, List.all_eq_true, decide_eq_true_eq] at h
  exact ⟨fun q hq => ⟨pr_by (h.1.1 q hq).1.1.1 (h.1.1 q hq).1.2 (h.1.1 q hq).2, (h.1.1 q hq).1.1.2⟩, upB_ok h.1.2, h.2⟩
/-- how many of 1 .. i have no part with n -/
def cop (n : Nat) : Nat → Nat
  | 0 => 0
  | i + 1 => cop n i + if Nat.gcd (i + 1) n = 1 then 1 else 0
theorem cop_le (n : Nat) : ∀ i, cop n i ≤ i
  | 0 => Nat.le_refl _
  | i + 1 => by
    have := cop_le n i
    simp only [cop]
    split <;> omega
def smallB (n : Nat) : Bool := partsB 30 n (facL 40 2 n) && decide (phi (facL 40 2 n) = cop n n)
theorem small_all : (List.range 400).all (fun i => smallB (i + 1)) = true := by decide +kernel
theorem small_of {n : Nat} (h1 : 1 ≤ n) (h2 : n ≤ 400) : Parts n (facL 40 2 n) ∧ phi (facL 40 2 n) = cop n n := by
  have h := List.all_eq_true.mp small_all (n - 1) (List.mem_range.mpr (by omega))
  rw [show n - 1 + 1 = n by omega] at h
  simp only [smallB, Bool.and_eq_true, decide_eq_true_eq] at h
  exact ⟨parts_of h.1, h.2⟩
theorem small_phi {n : Nat} (h1 : 1 ≤ n) (h2 : n ≤ 400) {l : List (Nat × Nat)} (h : Parts n l) : phi l = cop n n := by
  rw [h.uniq (small_of h1 h2).1]
  exact (small_of h1 h2).2
theorem small_ord {n : Nat} (h1 : 1 ≤ n) (h2 : n ≤ 400) {x : Int} (g : Int.gcd x n = 1) : ∃ m, Ord x n m ∧ m ≤ n := by
  have p := (small_of h1 h2).1
  have h3 := phi_le p.pr
  rw [p.prod] at h3
  obtain ⟨d, hd, h4⟩ := Ord.ex (phi_pos p.pr) (euler_parts p g)
  exact ⟨d, hd, Nat.le_trans h4 h3⟩
end NT

end
section
set_option maxRecDepth 100000
open PySem L2 NT
namespace My
end My
namespace L2
/-! ### data -/
theorem Dp.int_inv {K : PySem.W.Frag} {H : Hp} {v : V} {i : Int} (h : Dp K H v (.int i)) : v = .int i := by cases h; rfl
theorem seqT_same {K : PySem.W.Frag} {H H' : Hp} {a : Addr} {xs : List V} (e : Same H H') (h : SqT K H a xs) : SqT K H' a xs := by
  rcases h with (h | ⟨o, h⟩) | h
  · exact .inl (.inl (e _ _ h))
  · exact .inl (.inr ⟨o, e _ _ h⟩)
  · exact .inr h
mutual
theorem Dp.ext {K : PySem.W.Frag} {H H' : Hp} (e : Same H H') : ∀ {d : PyData} {v : V}, Dp K H v d → Dp K H' v d
  | _, _, .non => .non
  | _, _, .bl b => .bl b
  | _, _, .int i => .int i
  | _, _, .str x => .str x
  | _, _, .lst h k => .lst (e.seq h) (DpAll.ext e k)
  | _, _, .tup h k => .tup (seqT_same e h) (DpAll.ext e k)
theorem DpAll.ext {K : PySem.W.Frag} {H H' : Hp} (e : Same H H') : ∀ {ds : List PyData} {vs : List V}, DpAll K H vs ds → DpAll K H' vs ds
  | _, _, .nil => .nil
  | _, _, .cons h k => .cons (Dp.ext e h) (DpAll.ext e k)
end
theorem DpAll.len {K : PySem.W.Frag} {H : Hp} : ∀ {vs : List V} {ds : List PyData}, DpAll K H vs ds → vs.length = ds.length
  | _, _, .nil => rfl
  | _, _, .cons _ k => by rw [List.length_cons, List.length_cons, DpAll.len k]
theorem DpAll.get {K : PySem.W.Frag} {H : Hp} : ∀ {vs : List V} {ds : List PyData}, DpAll K H vs ds → ∀ {i : Nat} {v : V}, vs[i]? = some v → ∃ d, ds[i]? = some d ∧ Dp K H v d
  | _, _, .nil, i, v, h => by simp at h
  | _, _, .cons h k, 0, v, e => by
    simp only [List.getElem?_cons_zero, Option.some.injEq] at e
    subst e
    exact ⟨_, rfl, h⟩
  | _, _, .cons h k, i + 1, v, e => by
    simp only [List.getElem?_cons_succ] at e ⊢
    exact DpAll.get k e
theorem DpAll.snoc {K : PySem.W.Frag} {H : Hp} {v : V} {d : PyData} (hd : Dp K H v d) : ∀ {vs : List V} {ds : List PyData}, DpAll K H vs ds → DpAll K H (vs ++ [v]) (ds ++ [d])
  | _, _, .nil => .cons hd .nil
  | _, _, .cons h k => .cons h (DpAll.snoc hd k)
end L2
namespace My
/-! ### data without lists -/
mutual
def noL : PyData → Bool
  | .list _ | .dict _ => false
  | .tuple ds => noLs ds
  | .none | .bool _ | .int _ | .str _ => true
def noLs : List PyData → Bool
  | [] => true
  | d :: ds => noL d && noLs ds
end
end My
namespace L2
open My
theorem seqT_nl {K : PySem.W.Frag} {H H' : Hp} {a : Addr} {xs : List V} (e : NL H H') (h : SqT K H a xs) : SqT K H' a xs := by
  rcases h with (h | ⟨o, h⟩) | h
  · exact .inl (.inl (e _ _ h fun _ z => by cases z))
  · exact .inl (.inr ⟨o, e _ _ h fun _ z => by cases z⟩)
  · exact .inr h
mutual
theorem Dp.nl {K : PySem.W.Frag} {H H' : Hp} (e : NL H H') : ∀ {d : PyData} {v : V}, noL d = true → Dp K H v d → Dp K H' v d
  | _, _, _, .non => .non
  | _, _, _, .bl b => .bl b
  | _, _, _, .int i => .int i
  | _, _, _, .str x => .str x
  | _, _, n, .lst h k => by cases n
  | _, _, n, .tup h k => .tup (seqT_nl e h) (DpAll.nl e n k)
theorem DpAll.nl {K : PySem.W.Frag} {H H' : Hp} (e : NL H H') : ∀ {ds : List PyData} {vs : List V}, noLs ds = true → DpAll K H vs ds → DpAll K H' vs ds
  | _, _, _, .nil => .nil
  | _, _, n, .cons h k => .cons (Dp.nl e (Bool.and_eq_true_iff.mp n).1 h) (DpAll.nl e (Bool.and_eq_true_iff.mp n).2 k)
end
end L2
namespace My
def pairD (q : Nat × Nat) : PyData := .tuple [.int q.1, .int q.2]
def partsT (l : List (Nat × Nat)) : PyData := .tuple (l.map pairD)
def partsL (l : List (Nat × Nat)) : PyData := .list (l.map pairD)
theorem pair_inv {K : PySem.W.Frag} {H : Hp} {v : V} {q : Nat × Nat} (h : Dp K H v (pairD q)) : ∃ a, v = .ref a ∧ SqT K H a [.int q.1, .int q.2] := by
  cases h with
  | tup h k =>
    cases k with
    | cons h1 k1 =>
      cases k1 with
      | cons h2 k2 =>
        cases k2
        cases h1; cases h2
        exact ⟨_, rfl, h⟩
theorem pair_dp {K : PySem.W.Frag} {H : Hp} {a : Addr} {p e : Int} {q : Nat × Nat} (h : SqT K H a [.int p, .int e]) (e1 : p = q.1) (e2 : e = q.2) : Dp K H (.ref a) (pairD q) := by
  subst e1 e2
  exact .tup h (.cons (.int _) (.cons (.int _) .nil))
theorem partsT_inv {K : PySem.W.Frag} {H : Hp} {v : V} {l : List (Nat × Nat)} (h : Dp K H v (partsT l)) : ∃ a xs, v = .ref a ∧ SqT K H a xs ∧ DpAll K H xs (l.map pairD) := by
  cases h with
  | tup h k => exact ⟨_, _, rfl, h, k⟩
theorem partsL_inv {K : PySem.W.Frag} {H : Hp} {v : V} {l : List (Nat × Nat)} (h : Dp K H v (partsL l)) : ∃ a xs, v = .ref a ∧ SqL K H a xs ∧ DpAll K H xs (l.map pairD) := by
  cases h with
  | lst h k => exact ⟨_, _, rfl, h, k⟩
theorem eqv_pair (q r : Nat × Nat) : PyData.eqv (pairD q) (pairD r) = decide (q = r) := by
  have e1 : ((q.1 : Int) == (r.1 : Int)) = decide (q.1 = r.1) := by
    by_cases h : q.1 = r.1
    · simp [h]
    · have : ¬ (q.1 : Int) = r.1 := by omega
      simp [h, this]
  have e2 : ((q.2 : Int) == (r.2 : Int)) = decide (q.2 = r.2) := by
    by_cases h : q.2 = r.2
    · simp [h]
    · have : ¬ (q.2 : Int) = r.2 := by omega
      simp [h, this]
  simp only [pairD, PyData.eqv, PyData.eqvAll, Bool.and_true, e1, e2]
  rw [← Bool.decide_and]
  congr 1
  exact propext ⟨fun h => Prod.ext h.1 h.2, fun h => by subst h; exact ⟨rfl, rfl⟩⟩
theorem eqvAll_pairs : ∀ l r : List (Nat × Nat), PyData.eqvAll (l.map pairD) (r.map pairD) = decide (l = r)
  | [], [] => rfl
  | [], _ :: _ => rfl
  | _ :: _, [] => rfl
  | q :: l, s :: r => by
    simp only [List.map_cons, PyData.eqvAll, eqv_pair, eqvAll_pairs l r]
    rw [← Bool.decide_and]
    congr 1
    exact propext ⟨fun h => by rw [h.1, h.2], fun h => by injection h with a b; exact ⟨a, b⟩⟩
theorem eqv_partsT (l r : List (Nat × Nat)) : PyData.eqv (partsT l) (partsT r) = decide (l = r) := by simp only [partsT, PyData.eqv, eqvAll_pairs]
theorem eqv_partsL (l r : List (Nat × Nat)) : PyData.eqv (partsL l) (partsL r) = decide (l = r) := by simp only [partsL, PyData.eqv, eqvAll_pairs]
theorem noL_pairs : ∀ l : List (Nat × Nat), noLs (l.map pairD) = true
  | [] => rfl
  | q :: l => by simp only [List.map_cons, noLs, noL_pairs l, Bool.and_true]; rfl
theorem noL_partsT (l : List (Nat × Nat)) : noL (partsT l) = true := noL_pairs l
theorem lay_pairs : ∀ l : List (Nat × Nat), PyData.canLayAll0 (l.map pairD) = true
  | [] => rfl
  | q :: l => by
    simp only [List.map_cons, PyData.canLayAll0, lay_pairs l, pairD, PyData.canLay0, Bool.and_true]
theorem depth_pairs : ∀ l : List (Nat × Nat), PyData.depthAll (l.map pairD) ≤ 1
  | [] => by simp only [List.map_nil, PyData.depthAll]; omega
  | q :: l => by
    have := depth_pairs l
    simp only [List.map_cons, PyData.depthAll, pairD, PyData.depth]
    omega
theorem shaped_partsT (l : List (Nat × Nat)) : SeqAt.shaped (partsT l) = true := by
  have := depth_pairs l
  simp only [SeqAt.shaped, partsT, PyData.canLay0, lay_pairs, PyData.depth, Bool.true_and]
  exact decide_eq_true (by omega)
theorem shaped_partsL (l : List (Nat × Nat)) : SeqAt.shaped (partsL l) = true := by
  have := depth_pairs l
  simp only [SeqAt.shaped, partsL, PyData.canLay0, lay_pairs, PyData.depth, Bool.true_and]
  exact decide_eq_true (by omega)
/-! ### the promises: rests, parts -/
abbrev BIG : Int := 1000000000000000000000000000000
def Kd (K : PySem.W.Frag) (H : Hp) (v : V) : Prop := ∃ t, Ty K H v t
def spIsWhole (K : PySem.W.Frag) : Sp := fun vs H Q _ => ∃ v, vs = [v] ∧ Kd K H v ∧ Q (.bl (isI v)) H
def spIsBetween (K : PySem.W.Frag) : Sp := fun vs H Q _ => ∃ v lo hi, vs = [v, .int lo, .int hi] ∧ Kd K H v ∧ Q (.bl (inR v lo hi)) H
def spNeed (K : PySem.W.Frag) (er : String → Addr) : Sp := fun vs H Q E => ∃ v lo hi, vs = [v, .int lo, .int hi] ∧ Kd K H v ∧ (inR v lo hi = true → Q .non H) ∧ (inR v lo hi = false → E (.ref (er "NoNumber")) none H)
def spNeed1 (K : PySem.W.Frag) (er : String → Addr) (lo hi : Int) : Sp := fun vs H Q E => ∃ v, vs = [v] ∧ Kd K H v ∧ (inR v lo hi = true → Q .non H) ∧ (inR v lo hi = false → E (.ref (er "NoNumber")) none H)
def spPow : Sp := fun vs H Q _ => ∃ b o n : Int, vs = [.int b, .int o, .int n] ∧ 0 ≤ o ∧ 0 < n ∧ n < 2 ^ 200 ∧ Q (.int (b ^ o.toNat % n)) H
def spRaised (K : PySem.W.Frag) (er : String → Addr) : Sp := fun vs H Q E => ∃ vb vo vn, vs = [vb, vo, vn] ∧ Kd K H vb ∧ Kd K H vo ∧ Kd K H vn ∧
  (∀ b o n : Int, vb = .int b → vo = .int o → vn = .int n → -BIG ≤ b → b ≤ BIG → 0 ≤ o → o ≤ BIG → 1 ≤ n → n ≤ BIG → Q (.int (b ^ o.toNat % n)) H) ∧
  ((inR vb (-BIG) BIG && inR vo 0 BIG && inR vn 1 BIG) = false → E (.ref (er "NoNumber")) none H)
def spCommon : Sp := fun vs H Q _ => ∃ a b : Int, vs = [.int a, .int b] ∧ Q (.int (Int.gcd a b : Nat)) H
def spShared (K : PySem.W.Frag) (er : String → Addr) : Sp := fun vs H Q E => ∃ va vb, vs = [va, vb] ∧ Kd K H va ∧ Kd K H vb ∧
  (∀ a b : Int, va = .int a → vb = .int b → -BIG ≤ a → a ≤ BIG → -BIG ≤ b → b ≤ BIG → Q (.int (Int.gcd a b : Nat)) H) ∧
  ((inR va (-BIG) BIG && inR vb (-BIG) BIG) = false → E (.ref (er "NoNumber")) none H)
/-- what undoes a by n, or None -/
def Und (a n : Int) (Q : V → Prop) : Prop := (Int.gcd a n ≠ 1 → Q .non) ∧ (Int.gcd a n = 1 → ∀ x : Int, 0 ≤ x → x < n → (x * a) % n = 1 % n → Q (.int x))
def spUndoneBy : Sp := fun vs H Q _ => ∃ a n : Int, vs = [.int a, .int n] ∧ 1 ≤ n ∧ n < 2 ^ 200 ∧ Und a n fun v => ∀ H', Same H H' → Q v H'
def spUndone (K : PySem.W.Frag) (er : String → Addr) : Sp := fun vs H Q E => ∃ va vn, vs = [va, vn] ∧ Kd K H va ∧ Kd K H vn ∧
  (∀ a n : Int, va = .int a → vn = .int n → -BIG ≤ a → a ≤ BIG → 1 ≤ n → n ≤ BIG → Und a n fun v => ∀ H', Same H H' → Q v H') ∧
  ((inR va (-BIG) BIG && inR vn 1 BIG) = false → E (.ref (er "NoNumber")) none H)
def spParts (K : PySem.W.Frag) : Sp := fun vs H Q _ => ∃ n : Nat, vs = [.int n] ∧ 1 ≤ n ∧ n ≤ 10 ^ 31 ∧ ∀ l v H', Parts n l → Same H H' → Dp K H' v (partsT l) → Q v H'
def spToldPrime : Sp := fun vs H Q _ => ∃ n : Nat, vs = [.int n] ∧ n ≤ 10 ^ 31 ∧ ∀ b H', (b = true ↔ Pr n) → Same H H' → Q (.bl b) H'
def spIsPrime (K : PySem.W.Frag) (er : String → Addr) : Sp := fun vs H Q E => ∃ v, vs = [v] ∧ Kd K H v ∧ (∀ n : Nat, v = .int n → n ≤ 10 ^ 9 → ∀ b H', (b = true ↔ Pr n) → Same H H' → Q (.bl b) H') ∧ (inR v 0 (10 ^ 9) = false → E (.ref (er "NoNumber")) none H)
def spPartsOf (K : PySem.W.Frag) (er : String → Addr) : Sp := fun vs H Q E => ∃ v, vs = [v] ∧ Kd K H v ∧ (∀ n : Nat, v = .int n → 1 ≤ n → n ≤ 10 ^ 9 → ∀ l v H', Parts n l → Same H H' → Dp K H' v (partsT l) → Q v H') ∧ (inR v 1 (10 ^ 9) = false → E (.ref (er "NoNumber")) none H)
/-! ### the promises: the laws' own -/
def spCellAt (K : PySem.W.Frag) : Sp := fun vs H Q _ => ∃ (a : Addr) (ns : List Int) (k : Nat), vs = [.ref a, .int k] ∧ SqL K H a (ns.map V.int) ∧ ∀ z : Int, Q (.int z) H
def spState (K : PySem.W.Frag) : Sp := fun vs H Q _ => ∃ (a : Addr) (ns : List Int) (k : Nat), vs = [.ref a, .int k] ∧ SqL K H a (ns.map V.int) ∧ ∀ p H', H p = none → Same H H' → StAt H' p → Q (.ref p) H'
def spTake : Sp := fun vs H Q _ => ∃ (a : Addr) (m : Int), vs = [.ref a, .int m] ∧ StAt H a ∧ 0 < m ∧ m < 2 ^ 200 ∧ ∀ r H', 0 ≤ r → r < m → Draw a H H' → Q (.int r) H'
def spDraw1 (lo hi : Int) : Sp := fun vs H Q _ => ∃ (a : Addr), vs = [.ref a] ∧ StAt H a ∧ ∀ r H', lo ≤ r → r ≤ hi → Draw a H H' → Q (.int r) H'
def spPartsLaw (K : PySem.W.Frag) : Sp := fun vs H Q _ => ∃ n : Nat, vs = [.int n] ∧ 1 ≤ n ∧ n ≤ 10 ^ 31 ∧ ∀ l v H', Parts n l → Same H H' → Dp K H' v (partsL l) → Q v H'
def spPrimeLaw : Sp := fun vs H Q _ => ∃ (a : Addr) (m : Int) (top : Nat), vs = [.ref a, .int m] ∧ StAt H a ∧ 0 < m ∧ Pr top ∧ m + 1 ≤ top ∧ top ≤ 10 ^ 10 ∧ ∀ (p : Nat) H', Pr p → p ≤ top → Draw a H H' → Q (.int p) H'
def spLaw (K : PySem.W.Frag) : Sp := fun vs H Q _ => ∃ (a : Addr) (ns : List Int), vs = [.ref a] ∧ SqL K H a (ns.map V.int) ∧ ns.length ≤ 63 ∧ ∀ H', Q (.bl true) H'
end My

end
section
set_option maxRecDepth 100000
open PySem L2 NT
namespace My
/-! ### calls that are known to be answered -/
section
variable {K : PySem.W.Frag} {er : String → Addr} {H : Hp} {Q : VK} {E : XK}
theorem kI (i : Int) : Kd K H (.int i) := ⟨_, .int i⟩
theorem nR {i lo hi : Int} {p : Prop} (h1 : lo ≤ i) (h2 : i ≤ hi) : inR (.int i) lo hi = false → p := fun z => by
  rw [inR_ok h1 h2] at z; cases z
theorem okRaised {b o n : Int} (b1 : -BIG ≤ b) (b2 : b ≤ BIG) (o1 : 0 ≤ o) (o2 : o ≤ BIG) (n1 : 1 ≤ n) (n2 : n ≤ BIG) (q : Q (.int (b ^ o.toNat % n)) H) : spRaised K er [.int b, .int o, .int n] H Q E :=
  ⟨_, _, _, rfl, kI _, kI _, kI _, fun b' o' n' e1 e2 e3 _ _ _ _ _ _ => by cases e1; cases e2; cases e3; exact q, fun z => by
    rw [inR_ok b1 b2, inR_ok o1 o2, inR_ok n1 n2] at z; cases z⟩
theorem okShared {a b : Int} (a1 : -BIG ≤ a) (a2 : a ≤ BIG) (b1 : -BIG ≤ b) (b2 : b ≤ BIG) (q : Q (.int (Int.gcd a b : Nat)) H) : spShared K er [.int a, .int b] H Q E :=
  ⟨_, _, rfl, kI _, kI _, fun a' b' e1 e2 _ _ _ _ => by cases e1; cases e2; exact q, fun z => by
    rw [inR_ok a1 a2, inR_ok b1 b2] at z; cases z⟩
theorem okUndone {a n : Int} (a1 : -BIG ≤ a) (a2 : a ≤ BIG) (n1 : 1 ≤ n) (n2 : n ≤ BIG) (q : Und a n fun v => ∀ H', Same H H' → Q v H') : spUndone K er [.int a, .int n] H Q E :=
  ⟨_, _, rfl, kI _, kI _, fun a' b' e1 e2 _ _ _ _ => by cases e1; cases e2; exact q, fun z => by
    rw [inR_ok a1 a2, inR_ok n1 n2] at z; cases z⟩
theorem okIsPrime {n : Nat} (h : n ≤ 10 ^ 9) (q : ∀ b H', (b = true ↔ Pr n) → Same H H' → Q (.bl b) H') : spIsPrime K er [.int n] H Q E :=
  ⟨_, rfl, kI _, fun m e _ => by
    have : n = m := by have := V.int.inj e; omega
    subst this; exact q, nR (by omega) (by omega)⟩
theorem okPartsOf {n : Nat} (h1 : 1 ≤ n) (h : n ≤ 10 ^ 9) (q : ∀ l v H', Parts n l → Same H H' → Dp K H' v (partsT l) → Q v H') : spPartsOf K er [.int n] H Q E :=
  ⟨_, rfl, kI _, fun m e _ _ => by
    have : n = m := by have := V.int.inj e; omega
    subst this; exact q, nR (by omega) (by omega)⟩
end
end My
namespace L2
open My
theorem Same.draw {a : Addr} {H H1 H2 : Hp} (s : Same H H1) (h : H a = none) (D : Draw a H1 H2) : Same H H2 := fun b o e => D.2 b o (s b o e) (ne_of_none e h)
end L2
namespace My
/-! ### the laws' outermost loop -/
def rMax2 : List V → Hp → VK → Prop := fun xs H Q => ∃ i j, xs = [.int i, .int j] ∧ Q (.int (if j > i then j else i)) H
def rMin2 : List V → Hp → VK → Prop := fun xs H Q => ∃ i j, xs = [.int i, .int j] ∧ Q (.int (if j < i then j else i)) H
def rLenQ (K : PySem.W.Frag) : List V → Hp → VK → Prop := fun xs H Q => ∃ p ys, xs = [.ref p] ∧ (SqL K H p ys ∨ SqT K H p ys) ∧ Q (.int ys.length) H
theorem lawFor {K : PySem.W.Frag} {c : Int} {g : TG} {tb : TS} {D : Ends} {σ : L2.St} {H : Hp} {a : Addr} {xs : List V} (Pv : Nat → L2.St → Hp → Prop) (hS : SqL K H a xs) (hσ : σ[0]? = some (some (.ref a))) (hx : xs.length ≤ 1000) (hc : 0 ≤ c) (hc2 : c ≤ 1000) (h0 : Pv 0 σ H)
    (hs : ∀ (i : Nat) σ H, Pv i σ H → g (.int i) σ H fun σ2 H2 => tb { D with nx := Pv (i + 1), ct := Pv (i + 1), bk := D.nx } σ2 H2) (hd : ∀ i σ H, Pv i σ H → D.nx σ H) :
    tFor (iRng1 (tCons (tCB rMax2 (tCons (tC (V.int 1)) (tCons (tCB rMin2 (tCons (tCB (rLenQ K) (tCons (tVar 0) tNil)) (tCons (tC (V.int c)) tNil))) tNil))) tNil)) g tb D σ H := by
  refine ⟨_, hσ, _, _, rfl, .inl hS, _, _, rfl, _, _, rfl, _, rfl, ?_, ?_, for_range Pv h0 (fun i σ H hi h => ?_) fun σ H h => hd _ σ H h⟩
  · split <;> split <;> omega
  · split <;> split <;> omega
  · rw [Int.zero_add]
    exact hs i σ H h
/-- for prime, often in parts (a tuple of pairs) -/
theorem forParts {K : PySem.W.Frag} {l : List (Nat × Nat)} {v : V} {g : TG} {tb : TS} {D : Ends} {σ : L2.St} {H : Hp} (dp : Dp K H v (partsT l)) (Pv : Nat → L2.St → Hp → Prop) (h0 : Pv 0 σ H) (hsm : ∀ i σ H', Pv i σ H' → NL H H')
    (hs : ∀ (i : Nat) (q : Nat × Nat) (b : Addr) σ H', l[i]? = some q → Pv i σ H' → SqT K H' b [.int q.1, .int q.2] → g (.ref b) σ H' fun σ2 H2 => tb { D with nx := Pv (i + 1), ct := Pv (i + 1), bk := D.nx } σ2 H2) (hd : ∀ σ H, Pv l.length σ H → D.nx σ H) :
    ∃ a, v = .ref a ∧ (∃ xs, SqT K H a xs) ∧ ∃ W : Nat → Nat → L2.St → Hp → Prop, (∃ m, W 0 m σ H) ∧ ∀ i m σ H, W i m σ H → ((Itt K a).stop i H ∧ D.nx σ H) ∨ ((Itt K a).go i H ∧ ∃ N : L2.St → Hp → Prop, (∀ σ' H', N σ' H' → ∃ m', m' < m ∧ W (i + 1) m' σ' H') ∧ ∀ x H', (Itt K a).yld i H x H' → g x σ H' fun σ2 H2 => tb { D with nx := N, ct := N, bk := D.nx } σ2 H2) := by
  obtain ⟨a, xs, rfl, hs1, dx⟩ := partsT_inv dp
  have hlen : xs.length = l.length := by rw [dx.len, List.length_map]
  refine ⟨a, rfl, ⟨xs, hs1⟩, for_tup (xs := xs) Pv h0 (fun i σ H' _ h => seqT_nl (hsm i σ H' h) hs1) (fun i x σ H' hx h => ?_) (fun σ H' h => hd σ H' (hlen ▸ h))⟩
  obtain ⟨d, hd1, hd2⟩ := dx.get hx
  rw [List.getElem?_map] at hd1
  cases hq : l[i]? with
  | none => rw [hq] at hd1; cases hd1
  | some q =>
    rw [hq] at hd1
    have e : pairD q = d := Option.some.inj hd1
    subst e
    obtain ⟨b, rfl, hb⟩ := pair_inv hd2
    exact hs i q b σ H' hq h (seqT_nl (hsm i σ H' h) hb)
theorem iteF2 {c A B : Prop} [Decidable c] (hc : c) (h : B) : if (!decide c) = true then A else B := iteNS hc h
end My

end
section
set_option maxRecDepth 100000
open PySem PySem.Spec PyProof.Rows L2 NT
namespace My
/-! ### repr of data -/
mutual
def wt : PyData → Nat
  | .none => 4
  | .bool _ => 5
  | .int i => i.natAbs.log2 + 2
  | .str x => (reprText x).length
  | .list ds => wts ds + 2
  | .tuple ds => wts ds + 4
  | .dict _ => 0
def wts : List PyData → Nat
  | [] => 0
  | d :: ds => wt d + 2 + wts ds
end
theorem list_len (ts : List Str) : (listText ts).length ≤ piled ts + 2 := by
  unfold listText
  rw [strLen_append]
  have e1 : ((("]" : String) : Str)).length = 1 := rfl
  have e2 : ((("[" : String) : Str)).length = 1 := rfl
  rw [e1]
  cases ts with
  | nil => show (("[" : String) : Str).length + 1 ≤ _; rw [e2]; omega
  | cons t r =>
    show (textFrom 1 _ r).length + 1 ≤ _
    rw [textFrom_length_pos r 1 _ (by decide), strLen_append, strLen_append, piled_cons, e2]
    have e3 : ((((if 0 > 0 then ", " else "") : String) : Str)).length = 0 := rfl
    rw [e3]
    omega
theorem tuple_len (ts : List Str) : (tupleText ts).length ≤ piled ts + 4 := by
  unfold tupleText
  rw [strLen_append, strLen_append]
  have e1 : ((("(" : String) : Str)).length = 1 := rfl
  have e3 : (((if ts.length == 1 then ",)" else ")" : String) : Str)).length ≤ 2 := by split <;> decide
  rw [e1]
  by_cases h : ts = []
  · subst h
    have : (Str.join ", " []).length = 0 := rfl
    rw [this]
    omega
  · have := join_length_add ts h
    omega
mutual
theorem shown_len : ∀ d : PyData, d.showable = true → d.hasDict = false → d.shown.length ≤ wt d
  | .none, _, _ => Nat.le_refl _
  | .bool b, _, _ => by cases b <;> decide
  | .int i, _, _ => by
    have := int_text_length_le (a := i) (k := i.natAbs.log2 + 1) (by omega) (by omega)
    show (Str.ofString (toString i)).length ≤ i.natAbs.log2 + 2
    rw [PySem.ofString_length]
    exact this
  | .str x, _, _ => Nat.le_refl _
  | .list ds, h, n => by
    have := shown_lens ds h n
    have h2 := list_len (PyData.shownAll ds)
    simp only [PyData.shown, wt]
    omega
  | .tuple ds, h, n => by
    have := shown_lens ds h n
    have h2 := tuple_len (PyData.shownAll ds)
    simp only [PyData.shown, wt]
    omega
  | .dict _, _, n => by cases n
theorem shown_lens : ∀ ds : List PyData, PyData.showableAll ds = true → PyData.hasDictAll ds = false → piled (PyData.shownAll ds) ≤ wts ds
  | [], _, _ => Nat.le_refl _
  | d :: ds, h, n => by
    simp only [PyData.showableAll, Bool.and_eq_true] at h
    simp only [PyData.hasDictAll, Bool.or_eq_false_iff] at n
    have h1 := shown_len d h.1 n.1
    have h2 := shown_lens ds h.2 n.2
    simp only [PyData.shownAll, piled_cons, wts]
    omega
end
/-- data that repr serves -/
structure RD (x : PyData) : Prop where
  s : x.showable = true
  n : x.hasDict = false
  d : x.depth ≤ 60
  w : wt x ≤ 16000000
theorem RD.int {i : Int} (h : i.natAbs.log2 < 1920) : RD (.int i) := ⟨decide_eq_true h, rfl, by simp only [PyData.depth]; omega, by simp only [wt]; omega⟩
theorem log_lt {i : Int} {k : Nat} (h : i.natAbs < 2 ^ k) (hk : k < 1920) : i.natAbs.log2 < 1920 := by
  by_cases z : i.natAbs = 0
  · rw [z]; decide
  · have := (Nat.log2_lt z).mpr h
    omega
theorem RD.intB {i : Int} (h : -(2 ^ 250 : Int) < i ∧ i < 2 ^ 250) : RD (.int i) := RD.int (log_lt (k := 250) (pow_lt (m := 0) 250 h.1 h.2) (by decide))
theorem RD.bool (b : Bool) : RD (.bool b) := ⟨rfl, rfl, by simp only [PyData.depth]; omega, by simp only [wt]; omega⟩
theorem RD.none : RD .none := ⟨rfl, rfl, by simp only [PyData.depth]; omega, by simp only [wt]; omega⟩
/-- many short ones -/
structure RDs (ds : List PyData) (k m : Nat) : Prop where
  s : PyData.showableAll ds = true
  n : PyData.hasDictAll ds = false
  d : PyData.depthAll ds ≤ k
  w : wts ds ≤ m
theorem RDs.nil {k m : Nat} : RDs [] k m := ⟨rfl, rfl, by simp only [PyData.depthAll]; omega, by simp only [wts]; omega⟩
theorem RDs.cons {d : PyData} {ds : List PyData} {k m c : Nat} (hs : d.showable = true) (hn : d.hasDict = false) (hd : d.depth ≤ k) (hw : wt d + 2 ≤ c) (h : RDs ds k m) : RDs (d :: ds) k (c + m) := by
  refine ⟨?_, ?_, ?_, ?_⟩
  · simp only [PyData.showableAll, hs, h.s, Bool.and_self]
  · simp only [PyData.hasDictAll, hn, h.n, Bool.or_self]
  · have := h.d
    simp only [PyData.depthAll]
    omega
  · have := h.w
    simp only [wts]
    omega
theorem RDs.all {ds : List PyData} {k c : Nat} (h : ∀ d ∈ ds, d.showable = true ∧ d.hasDict = false ∧ d.depth ≤ k ∧ wt d + 2 ≤ c) : RDs ds k (c * ds.length) := by
  induction ds with
  | nil => exact RDs.nil
  | cons d ds ih =>
    obtain ⟨a, b, e, f⟩ := h d List.mem_cons_self
    have := RDs.cons a b e f (ih fun x hx => h x (List.mem_cons_of_mem _ hx))
    rw [List.length_cons, Nat.mul_succ, Nat.add_comm]
    exact this
theorem RDs.list {ds : List PyData} {k m : Nat} (h : RDs ds k m) (hk : k < 60) (hm : m ≤ 15000000) : RD (.list ds) :=
  ⟨h.s, h.n, by have := h.d; simp only [PyData.depth]; omega, by have := h.w; simp only [wt]; omega⟩
theorem RDs.tuple {ds : List PyData} {k m : Nat} (h : RDs ds k m) (hk : k < 60) (hm : m ≤ 15000000) : RD (.tuple ds) :=
  ⟨h.s, h.n, by have := h.d; simp only [PyData.depth]; omega, by have := h.w; simp only [wt]; omega⟩
def rReprD (K : PySem.W.Frag) : List V → Hp → VK → Prop := fun xs H Q => ∃ v d, xs = [v] ∧ Dp K H v d ∧ RD d ∧ Q (.str d.shown) H
theorem call_reprD {X : Cx} (hg : X.A.guards = some []) (hu : X.A.units + 64 < cLine) : CallR X (.builtin "repr") (rReprD X.K) := by
  intro pins s σ H xs us Q I r h
  obtain ⟨v, d, rfl, hd, hr, q⟩ := h
  obtain ⟨u, rfl, ru⟩ := vals1 r
  have hw : d.shown.length ≤ sizeLine := by
    have h1 := shown_len d hr.s hr.n
    have h2 := hr.w
    rw [sizeLine_eq]
    omega
  have hdp := hr.d
  obtain ⟨as, rd⟩ := Dp.reads I d v u hd ru
  have fin : ∀ (h' : Heap) (u : Tok) (tk : Nat), (∀ b o, s.heap.get? b = some o → h'.get? b = some o) → EP X pins σ Q (.str d.shown u) { s with heap := h', toks := tk } :=
    fun h' u tk hk => ⟨.str d.shown, H, I.kept hk, ⟨_, rfl⟩, q⟩
  cases hd with
  | non => cases ru; exact PySem.P.repr_of_none (fin s.heap _ _ fun _ _ e => e)
  | bl b => cases ru; exact PySem.P.repr_of_bool (fin s.heap _ _ fun _ _ e => e)
  | int i => obtain ⟨t, rfl⟩ := ru; exact PySem.P.repr_of_int (of_decide_eq_true hr.s) (fin s.heap _ _ fun _ _ e => e)
  | str x => obtain ⟨t, rfl⟩ := ru; exact PySem.P.repr_of_str (fin s.heap _ _ fun _ _ e => e) hw
  | lst hs ha => cases ru; exact repr_of_reads' rd hr.s (PyData.noDict_hsm hr.n) hg (by omega) (fun _ _ e => e) (fun h' u tk hk => fin h' u tk hk) hw
  | tup hs ha => cases ru; exact repr_of_reads' rd hr.s (PyData.noDict_hsm hr.n) hg (by omega) (fun _ _ e => e) (fun h' u tk hk => fin h' u tk hk) hw
/-- _law_same by repr: what is told, of the same data -/
def spSame (K : PySem.W.Frag) : Sp := fun vs H Q _ => ∃ v u d, vs = [v, u] ∧ Dp K H v d ∧ Dp K H u d ∧ RD d ∧ Q (.bl true) H
theorem okSameI {K : PySem.W.Frag} {H : Hp} {Q : VK} {E : XK} {i j : Int} (h : -(2 ^ 250 : Int) < i ∧ i < 2 ^ 250) (e : i = j) (q : Q (.bl true) H) : spSame K [.int i, .int j] H Q E := by
  subst e
  exact ⟨_, _, _, rfl, .int _, .int _, RD.intB h, q⟩
theorem okSameN {K : PySem.W.Frag} {H : Hp} {Q : VK} {E : XK} (q : Q (.bl true) H) : spSame K [.non, .non] H Q E := ⟨_, _, _, rfl, .non, .non, RD.none, q⟩
theorem okSameB {K : PySem.W.Frag} {H : Hp} {Q : VK} {E : XK} {b c : Bool} (e : b = c) (q : Q (.bl true) H) : spSame K [.bl b, .bl c] H Q E := by
  subst e
  exact ⟨_, _, _, rfl, .bl _, .bl _, RD.bool _, q⟩
end My

end
section
set_option maxRecDepth 100000
open PySem L2 NT
namespace My
theorem iteT' {b : Bool} {A B : Prop} (e : b = true) (h : A) : if b = true then A else B := by rw [if_pos e]; exact h
theorem decN {c : Prop} [Decidable c] {A B : Prop} (h1 : ¬ c → A) (h2 : c → B) : if (!decide c) = true then A else B := by
  by_cases h : c
  · rw [decide_eq_true h]; exact h2 h
  · rw [decide_eq_false h]; exact h1 h
/-! ### the promises: orders -/
def spRestsOf : Sp := fun vs H Q _ => ∃ n : Nat, vs = [.int n] ∧ 1 ≤ n ∧ n ≤ 10 ^ 31 ∧ ∀ l H', Parts n l → Same H H' → Q (.int (phi l : Nat)) H'
def spManyRests (K : PySem.W.Frag) (er : String → Addr) : Sp := fun vs H Q E => ∃ v, vs = [v] ∧ Kd K H v ∧ (∀ n : Nat, v = .int n → 1 ≤ n → n ≤ 10 ^ 9 → ∀ l H', Parts n l → Same H H' → Q (.int (phi l : Nat)) H') ∧ (inR v 1 (10 ^ 9) = false → E (.ref (er "NoNumber")) none H)
def spOrderIn : Sp := fun vs H Q _ => ∃ (x n : Int) (w : Nat), vs = [.int x, .int n, .int w] ∧ 1 ≤ n ∧ n < 2 ^ 200 ∧ 1 ≤ w ∧ w ≤ 10 ^ 31 ∧ x ^ w % n = 1 % n ∧ ∀ (m : Nat) H', Ord x n m → m ≤ w → Same H H' → Q (.int m) H'
def spOrderOf (K : PySem.W.Frag) (er : String → Addr) : Sp := fun vs H Q E => ∃ va vn, vs = [va, vn] ∧ Kd K H va ∧ Kd K H vn ∧
  (∀ (x : Int) (n : Nat), va = .int x → vn = .int n → -BIG ≤ x → x ≤ BIG → 1 ≤ n → n ≤ 10 ^ 9 → (Int.gcd x n ≠ 1 → Q .non H) ∧ (Int.gcd x n = 1 → ∀ (m : Nat) H', Ord x n m → m ≤ n → Same H H' → Q (.int m) H')) ∧
  ((inR va (-BIG) BIG && inR vn 1 (10 ^ 9)) = false → E (.ref (er "NoNumber")) none H)
section
variable {K : PySem.W.Frag} {er : String → Addr} {H : Hp} {Q : VK} {E : XK}
theorem okManyRests {n : Nat} (h1 : 1 ≤ n) (h : n ≤ 10 ^ 9) (q : ∀ l H', Parts n l → Same H H' → Q (.int (phi l : Nat)) H') : spManyRests K er [.int n] H Q E :=
  ⟨_, rfl, kI _, fun m e _ _ => by
    have : n = m := by have := V.int.inj e; omega
    subst this; exact q, nR (by omega) (by omega)⟩
theorem okOrderOf {x : Int} {n : Nat} (x1 : -BIG ≤ x) (x2 : x ≤ BIG) (h1 : 1 ≤ n) (h : n ≤ 10 ^ 9) (q : (Int.gcd x n ≠ 1 → Q .non H) ∧ (Int.gcd x n = 1 → ∀ (m : Nat) H', Ord x n m → m ≤ n → Same H H' → Q (.int m) H')) : spOrderOf K er [.int x, .int n] H Q E :=
  ⟨_, _, rfl, kI _, kI _, fun x' m e1 e2 _ _ _ _ => by
    cases e1
    have : n = m := by have := V.int.inj e2; omega
    subst this; exact q, fun z => by rw [inR_ok x1 x2, inR_ok (by omega) (by omega)] at z; cases z⟩
end
end My
namespace My
/-- a part of a law that tells True, whatever is drawn -/
def spRight : Sp := fun vs H Q _ => ∃ (a : Addr), vs = [.ref a] ∧ StAt H a ∧ ∀ H', Draw a H H' → Q (.bl true) H'
end My
namespace My
/-- for prime, often in a list of pairs -/
theorem forPartsL {K : PySem.W.Frag} {l : List (Nat × Nat)} {v : V} {g : TG} {tb : TS} {D : Ends} {σ : L2.St} {H : Hp} (dp : Dp K H v (partsL l)) (Pv : Nat → L2.St → Hp → Prop) (h0 : Pv 0 σ H) (hsm : ∀ i σ H', Pv i σ H' → Same H H')
    (hs : ∀ (i : Nat) (q : Nat × Nat) (b : Addr) σ H', l[i]? = some q → Pv i σ H' → SqT K H' b [.int q.1, .int q.2] → g (.ref b) σ H' fun σ2 H2 => tb { D with nx := Pv (i + 1), ct := Pv (i + 1), bk := D.nx } σ2 H2) (hd : ∀ σ H, Pv l.length σ H → D.nx σ H) :
    ∃ a, v = .ref a ∧ (∃ xs, SqL K H a xs) ∧ ∃ W : Nat → Nat → L2.St → Hp → Prop, (∃ m, W 0 m σ H) ∧ ∀ i m σ H, W i m σ H → ((Itl K a).stop i H ∧ D.nx σ H) ∨ ((Itl K a).go i H ∧ ∃ N : L2.St → Hp → Prop, (∀ σ' H', N σ' H' → ∃ m', m' < m ∧ W (i + 1) m' σ' H') ∧ ∀ x H', (Itl K a).yld i H x H' → g x σ H' fun σ2 H2 => tb { D with nx := N, ct := N, bk := D.nx } σ2 H2) := by
  obtain ⟨a, xs, rfl, hs1, dx⟩ := partsL_inv dp
  have hlen : xs.length = l.length := by rw [dx.len, List.length_map]
  refine ⟨a, rfl, ⟨xs, hs1⟩, for_list (xs := xs) Pv h0 (fun i σ H' _ h => (hsm i σ H' h).seq hs1) (fun i x σ H' hx h => ?_) (fun σ H' h => hd σ H' (hlen ▸ h))⟩
  obtain ⟨d, hd1, hd2⟩ := dx.get hx
  rw [List.getElem?_map] at hd1
  cases hq : l[i]? with
  | none => rw [hq] at hd1; cases hd1
  | some q =>
    rw [hq] at hd1
    have e : pairD q = d := Option.some.inj hd1
    subst e
    obtain ⟨b, rfl, hb⟩ := pair_inv hd2
    exact hs i q b σ H' hq h (seqT_same (hsm i σ H' h) hb)
/-- [.. for prime, often in a list of pairs ..] -/
theorem lcPartsL {K : PySem.W.Frag} {l : List (Nat × Nat)} {v : V} {g : TG} {tt : TT} {te : TE} {vs : List Nat} {σ : L2.St} {H1 : Hp} {Qd : Addr → Hp → Prop} (dp : Dp K H1 v (partsL l)) (Pv : Addr → Nat → Hp → Prop) (h0 : ∀ D, H1 D = none → Pv D 0 (upd H1 D (.lst []))) (hsm : ∀ D, H1 D = none → ∀ i H', Pv D i H' → Same H1 H')
    (hs : ∀ D, H1 D = none → ∀ (i : Nat) (q : Nat × Nat) (b : Addr) H, l[i]? = some q → Pv D i H → SqT K H b [.int q.1, .int q.2] → g (.ref b) (wipe σ vs) H fun σ2 H2 => wipe σ2 vs = wipe σ vs ∧ tt σ2 H2 fun b H3 =>
      if b = true then te σ2 H3 fun y H4 => ∃ acc, H4 D = some (.lst acc) ∧ acc.length < sizeLine ∧ Pv D (i + 1) (upd H4 D (.lst (acc ++ [y]))) else Pv D (i + 1) H3) (hd : ∀ D, H1 D = none → ∀ H, Pv D l.length H → Qd D H) :
    ∃ a, v = .ref a ∧ (∃ xs, SqL K H1 a xs) ∧ ∀ D, H1 D = none → ∃ W : Nat → Nat → Hp → Prop, (∃ m, W 0 m (upd H1 D (.lst []))) ∧ ∀ i m H, W i m H →
      ((Itl K a).stop i H ∧ Qd D H) ∨ ((Itl K a).go i H ∧ ∃ Nx : Hp → Prop, (∀ H', Nx H' → ∃ m', m' < m ∧ W (i + 1) m' H') ∧ ∀ x H', (Itl K a).yld i H x H' → g x (wipe σ vs) H' fun σ2 H2 => wipe σ2 vs = wipe σ vs ∧ tt σ2 H2 fun b H3 =>
        if b = true then te σ2 H3 fun y H4 => ∃ acc, H4 D = some (.lst acc) ∧ acc.length < sizeLine ∧ Nx (upd H4 D (.lst (acc ++ [y]))) else Nx H3) := by
  obtain ⟨a, xs, rfl, hs1, dx⟩ := partsL_inv dp
  have hlen : xs.length = l.length := by rw [dx.len, List.length_map]
  refine ⟨a, rfl, ⟨xs, hs1⟩, fun D hD => lc_list (xs := xs) (Qd := fun H => Qd D H) (Pv D) (h0 D hD) (fun i H _ h => (hsm D hD i H h).seq hs1) (fun i x H hx h => ?_) (fun H h => hd D hD H (hlen ▸ h))⟩
  obtain ⟨d, hd1, hd2⟩ := dx.get hx
  rw [List.getElem?_map] at hd1
  cases hq : l[i]? with
  | none => rw [hq] at hd1; cases hd1
  | some q =>
    rw [hq] at hd1
    have e : pairD q = d := Option.some.inj hd1
    subst e
    obtain ⟨b, rfl, hb⟩ := pair_inv hd2
    exact hs D hD i q b H hq h (seqT_same (hsm D hD i H h) hb)
end My

end
section
set_option maxRecDepth 100000
set_option maxHeartbeats 2000000
open PySem PySem.Spec PyProof.Rows L2 LamX
namespace My
/-! ### lambdas as values -/
/-- the object at f is o, for good -/
def LamO (f : Addr) (o : Obj) : HO := .ext fun h => h.get? f = some o
theorem lamO_ok {P : Program} {w : World} {H : Hp} {h : Heap} {f : Addr} {o : Obj} (e : h.get? f = some o) : ObjOk P w H h f (LamO f o) := ⟨e, ⟨o, e⟩, fun _ _ a k => k _ a⟩
theorem lamO_ne {f : Addr} {o : Obj} (ps : Array Value) : LamO f o ≠ .tbl ps := fun z => by
  unfold LamO at z
  cases z
/-- a lambda without parameters: its text, its names, what its body does (the wish of an exception ahead) -/
structure LamD where
  params : Arguments
  body : Expr
  scope : Scope
  t : XK → TE
structure LamOk (X : Cx) (k : Nat) (d : LamD) : Prop where
  L : LamS X.env.scope d.scope
  bind : ∀ (q : Str) (cl : List (Str × Addr)) (pm cv ctv : Value), bindArgs (PySem.W.kla_fn "<lambda>" q d.params d.body d.scope cl pm cv ctv) ⟨[], []⟩ = pure []
  body : ∀ (A : Around) (outer : List Env) (s : Shared) (H : Hp) (E : XK) (f c' : Addr), Room k (A.deeper (lamEnv X d.scope s.heap.objs.size f c')) → A.guards = some [] → PE (lamCx X A outer s H E d.scope f c') d.body (d.t E)
def lamObj (X : Cx) (d : LamD) (pm : Value) (c' : Addr) (ctv : Value) : Obj := PySem.W.kla_obj "<lambda>" (X.env.qual ++ "<lambda>") d.params d.body d.scope (cloFrom X.env.cells d.scope.names []) pm c' ctv
/-- f is the lambda d of X -/
def IsLam (X : Cx) (d : LamD) (f : Addr) (H : Hp) : Prop := ∃ (pm ctv : Value) (c' : Addr), H f = some (LamO f (lamObj X d pm c' ctv)) ∧ H c' = some (CodeO c' (X.env.qual ++ "<lambda>"))
theorem IsLam.ext {X : Cx} {d : LamD} {f : Addr} {H H' : Hp} (h : IsLam X d f H) (e : ExtN H H') : IsLam X d f H' := by
  obtain ⟨pm, ctv, c', a, b⟩ := h
  exact ⟨pm, ctv, c', e _ _ a lamO_ne, e _ _ b codeO_ne⟩
theorem IsLam.same {X : Cx} {d : LamD} {f : Addr} {H H' : Hp} (h : IsLam X d f H) (e : Same H H') : IsLam X d f H' := h.ext (.of fun _ _ q => e _ _ q)
section
variable {X : Cx} {pins : List (Addr × Obj)} {σ : L2.St} {H : Hp} {s : Shared}
/-- a new lambda is tracked -/
theorem lam_new {T : List (Addr × Str)} {c P : Addr} {d : LamD} {pos : Pos} {E : Value → Shared → Prop} {Q : Value → Shared → Prop} (I : Inv X pins σ H s) (TB : TabB X.base X.mg c P) (hcode : X.env.code = .ref c)
    (hm : (P, X.env.qual ++ "<lambda>") ∈ T) (hu : ∀ p ∈ T, p.1 = P → p.2 = X.env.qual ++ "<lambda>") (hT : Tabs T H) (hdef : defaultsOf d.params X.env = ([], [])) (L : LamS X.env.scope d.scope)
    (h : ∀ (f : Addr) (H1 : Hp) (s' : Shared), Inv X pins σ H1 s' → ExtN H H1 → Tabs T H1 → IsLam X d f H1 → Q (.ref f) s') :
    wpAny (model X.prog X.w) X.A (eval (.Lambda d.params d.body d.scope pos) X.env) Q E s := by
  obtain ⟨ps, hP, ht, ha⟩ := hT _ hm
  have bP : s.heap.BuiltinsAt X.mg P := TB.bm.keeps I.bk
  have hP' : s.heap.get? P = some { cls := .none, data := .fields ps } := I.hok P _ hP
  have lay : ∀ {H1 : Hp} {h' : Heap} {tk : Nat} (c' : Addr) (ctv : Value), Inv X pins σ H1 { s with heap := h', toks := tk } → ExtN H H1 → Tabs T H1 → H1 c' = some (CodeO c' (X.env.qual ++ "<lambda>")) →
      Q (.ref h'.objs.size) { s with heap := h'.push (lamObj X d ((X.mg "__name__").getD .none) c' ctv), toks := tk } := by
    intro H1 h' tk c' ctv I1 eN T1 hc
    have nF : H1 h'.objs.size = none := I1.hok.fresh (Nat.le_refl _)
    have I2 := I1.laid (h' := h'.push (lamObj X d ((X.mg "__name__").getD .none) c' ctv)) (t' := tk) (o := LamO h'.objs.size (lamObj X d ((X.mg "__name__").getD .none) c' ctv)) (a := h'.objs.size) (fun b u e => Heap.get?_push_of_some _ e) (Nat.le_refl _) (lamO_ok (Heap.get?_push_size _ rfl))
    have sm : Same H1 (upd H1 h'.objs.size (LamO h'.objs.size (lamObj X d ((X.mg "__name__").getD .none) c' ctv))) := same_new nF _
    exact h _ _ _ I2 (eN.trans (.of fun _ _ q => sm _ _ q)) (T1.ext fun _ _ q => sm _ _ q) ⟨_, ctv, c', upd_same, sm _ _ hc⟩
  refine PySem.W.kla_eval hdef ?_
  cases hc : codeAmong pos ps.toList with
  | some cv =>
    obtain ⟨c', e, hco⟩ := ha pos cv hc
    subst e
    refine PySem.W.kla_makeFunctionHit (mg := X.mg) (c := c) (P := P) (ps := ps) (closure_ok (L.has I.ok)) I.ok.glob (I.mod.glob.keeps I.bk) hcode (TB.code.keeps I.bk) hP' ht hc bP fun ctv h' tk hx hsz => ?_
    exact lay c' ctv (I.kept (h' := h') (t' := tk) hx) (ExtN.refl H) hT hco
  | none =>
    refine PySem.W.kla_makeFunction (mg := X.mg) (c := c) (P := P) (ps := ps) (closure_ok (L.has I.ok)) I.ok.glob (I.mod.glob.keeps I.bk) hcode (TB.code.keeps I.bk) hP' ht hc TB.gP bP fun c' ctv h' tk hx hge hlt hrec htb => ?_
    obtain ⟨c2, oc, vs, t, e2, hoc, hd, hv⟩ := hrec
    cases e2
    have nC : H c' = none := I.hok.fresh hge
    have I1 := inv_table (t' := tk) (more := #[rawInt pos.line, rawInt pos.col, .ref c']) (h' := h') I hP hx htb hge ⟨oc, vs, t, hoc, hd, hv⟩
    generalize hH1 : upd (upd H P (.tbl (ps ++ #[rawInt pos.line, rawInt pos.col, .ref c']))) c' (CodeO c' (X.env.qual ++ "<lambda>")) = H1 at I1
    have new : H1 c' = some (CodeO c' (X.env.qual ++ "<lambda>")) := by rw [← hH1]; exact upd_same
    have eN : ExtN H H1 := fun b o e n => by
      have n1 : b ≠ c' := ne_of_none e nC
      have n2 : b ≠ P := fun z => n ps (Option.some.inj (e.symm.trans (z ▸ hP)))
      rw [← hH1, upd_ne n1, upd_ne n2]
      exact e
    have atP : H1 P = some (.tbl (ps ++ #[rawInt pos.line, rawInt pos.col, .ref c'])) := by rw [← hH1, upd_ne (ne_of_none hP nC), upd_same]
    refine lay c' ctv I1 eN (fun p hp => ?_) new
    obtain ⟨ps', a1, a2, a3⟩ := hT p hp
    by_cases hb : p.1 = P
    · rw [hb] at a1 ⊢
      rw [hP] at a1
      cases a1
      have eL : (ps ++ #[rawInt pos.line, rawInt pos.col, .ref c']).toList = ps.toList ++ [rawInt pos.line, rawInt pos.col, .ref c'] := by simp
      refine ⟨_, atP, by rw [eL]; exact PySem.TriplesOk_snoc _ _ _ _ ht, fun p' cv hcv => ?_⟩
      rw [eL] at hcv
      rcases among_app _ ht hcv with z | z
      · obtain ⟨c0, e1, e2⟩ := a3 p' cv z
        exact ⟨c0, e1, eN _ _ e2 codeO_ne⟩
      · exact ⟨c', z, by rw [hu p hp hb]; exact new⟩
    · refine ⟨ps', ?_, a2, fun p' cv hcv => ?_⟩
      · rw [← hH1, upd_ne (ne_of_none a1 nC), upd_ne hb]; exact a1
      · obtain ⟨c0, e1, e2⟩ := a3 p' cv hcv
        exact ⟨c0, e1, eN _ _ e2 codeO_ne⟩
/-- lambda: .. -/
theorem pe_lamV {T : List (Addr × Str)} {c P : Addr} {d : LamD} {k : Nat} {pos : Pos} (TB : TabB X.base X.mg c P) (hcode : X.env.code = .ref c)
    (hm : (P, X.env.qual ++ "<lambda>") ∈ T) (hu : ∀ p ∈ T, p.1 = P → p.2 = X.env.qual ++ "<lambda>") (hdef : defaultsOf d.params X.env = ([], [])) (O : LamOk X k d) :
    PE X (.Lambda d.params d.body d.scope pos) (fun _ H Q => Tabs T H ∧ ∀ f H1, ExtN H H1 → Tabs T H1 → IsLam X d f H1 → Q (.ref f) H1) := by
  refine ⟨fun pins s σ H Q I h => ?_⟩
  exact lam_new I TB hcode hm hu h.1 hdef O.L fun f H1 s' I1 e t l => ⟨.ref f, H1, I1, rfl, h.2 f H1 e t l⟩
end
end My

end
section
set_option maxRecDepth 100000
set_option maxHeartbeats 2000000
open PySem PySem.Spec PyProof.Rows L2 LamX
namespace My
section
variable {X : Cx} {pins : List (Addr × Obj)} {σ : L2.St} {H : Hp} {s : Shared}
/-- the call of a lambda of X at f, from frames that stand above X's -/
theorem lam_code {d : LamD} {k : Nat} {env : Env} {HZ : Hp} {s1 : Shared} {f : Addr} {Q : VK} {E : XK} (I : Inv X pins σ H s) (O : LamOk X k d) (hr : Room (k + 1) (X.A.deeper env)) (hgd : X.A.guards = some [])
    (e0 : Env0 X.prog X.w X.K X.mg X.base (X.A.deeper env) (env :: X.stack) s1 HZ) (lim : s1.heap.NoLimit) (un : Un (frs X.stack) [] H HZ s.heap s1.heap) (hl : IsLam X d f HZ) (ht : d.t E σ HZ Q) :
    codeAny (model X.prog X.w) (X.A.deeper env) (.call (.ref f) ⟨[], []⟩) (CR (L2.CX X.prog X.w) (env :: X.stack) X.prog X.w HZ s1 Q E) s1 := by
  obtain ⟨pm, ctv, c', h1, h2⟩ := hl
  obtain ⟨of1, _, _⟩ := e0.hok f _ h1
  obtain ⟨⟨oc, vs, t, hoc, hdc, hvc⟩, _, _⟩ := e0.hok c' _ h2
  refine PySem.W.kla_callFunE hr.depth of1 rfl O.L.co O.L.gen rfl ⟨c', oc, vs, t, rfl, hoc, hdc, hvc⟩ ?_
  rw [O.bind]
  refine wpAny_pure (wpAny_newFunctionEnv (fun y hy => (O.L.own y hy).2) (fun y hy => absurd hy (by simp)) (fun h₁ hns hsb => ⟨lim.fresh _ hsb, ?_⟩) O.L.kind)
  show codeAny _ _ (.expr d.body (lamEnv X d.scope s1.heap.objs.size f c')) _ _
  have kp : ∀ b o, s1.heap.get? b = some o → h₁.get? b = some o := fun b o e => hsb.extBut b o (Nat.ne_of_lt (Heap.lt_size e)) (Heap.get?_push_of_some _ e)
  have J : Inv (lamCx X (X.A.deeper env) (env :: X.stack) s1 HZ E d.scope f c') [] σ HZ { s1 with heap := h₁, toks := s1.toks + ([] : List (Str × Value)).length } := lam_start2 I O.L e0 hr.hd un hns kp
  refine PySem.W.kla_codeExpr (wpAny_mono ((O.body _ _ s1 HZ E f c' (hr.deeper _) hgd).run [] _ _ HZ Q J ht) (fun v s' hq => ?_) fun e s' hq => hq)
  obtain ⟨w', H', J', rv, q⟩ := hq
  exact ⟨w', H', J'.os, J'.bare, J'.base, J'.hok, rv, q⟩
/-- a(), in a def that got the lambda -/
theorem pe_actV {d : LamD} {CXg : CXT} {Eg : XK} {Ng : List Str} {qg : Str} {sg : Scope} {g : Addr} {cdg : Value} {k i : Nat} {a : Str} {pn : List (Addr × Obj)} {xe : Value → Shared → Prop} {W : WX} {p1 p2 : Pos}
    (I : Inv X pins σ H s) (O : LamOk X k d) (hr : Room (k + 1) (X.A.deeper (envOfC qg sg s.heap.objs.size g cdg))) (hgd : X.A.guards = some [])
    (tk : Takes ((cxOf CXg X.prog X.w X.K X.mg X.base Ng qg sg g cdg X.A X.stack s H Eg).tr pn xe) W) (hN : Ng[i]? = some a) (hv : Vis sg a) (hd : (a == ("__debug__" : Str)) = false := by decide) (hcd : (a == ("__classdict__" : Str)) = false := by decide) :
    PE ((cxOf CXg X.prog X.w X.K X.mg X.base Ng qg sg g cdg X.A X.stack s H Eg).tr pn xe) (.Call (.Name a p1) [] [] p2)
      (fun σZ HZ Q => ∃ f, σZ[i]? = some (some (.ref f)) ∧ IsLam X d f HZ ∧ d.t (fun cls dd H' => W cls dd σZ H') σ HZ Q) := by
  refine ⟨fun pinsZ sZ σZ HZ Q IZ h => ?_⟩
  obtain ⟨f, hs, hl, ht⟩ := h
  refine wpAny_Call_Name_kw (thn ((pe_var (pos := p1) (i := i) hN hv hd hcd).run pinsZ sZ σZ HZ (fun v H1 => v = .ref f ∧ H1 = HZ) IZ ⟨.ref f, hs, rfl, rfl⟩) fun u s1 ⟨v, H1, I1, r1, q1⟩ => ?_)
  obtain ⟨ev, eH⟩ := q1
  subst ev
  rw [eH] at I1
  obtain rfl : u = Value.ref f := r1
  have hl' := hl
  obtain ⟨pm, ctv, c', h1, h2⟩ := hl'
  obtain ⟨of1, _, _⟩ := I1.hok f _ h1
  refine PySem.W.callWith_F0 ⟨_, _, _, _, of1⟩ ?_
  have un : Un (frs X.stack) [] H HZ s.heap s1.heap := I1.base
  have rc := lam_code (env := envOfC qg sg s.heap.objs.size g cdg) (E := fun cls dd H' => W cls dd σZ H') I O hr hgd I1.env0 I1.nolimit un hl ht
  refine wpAny_call (codeAny_mono rc fun r s' hq => ?_)
  cases r with
  | error e => exact tk e s' (XE.of_call I1 (fun _ _ _ z => z) hq)
  | ok fl =>
    cases fl with
    | ret u => exact I1.after hq
    | next => exact False.elim hq
    | brk => exact False.elim hq
    | cont => exact False.elim hq
end
/-! ### a def that calls what it got -/
/-- the def g, handed such a thing alone: tl is what the thing does, L what is known of it -/
def Gives (P : Program) (w : World) (K : PySem.W.Frag) (mg : Str → Option Value) (base : Heap) (k : Nat) (Ng : List Str) (x : Str) (sg : Scope) (g : Addr) (cdg : Value) (bg : List Stmt) (a : Str) (TT : (Addr → Hp → Prop) → (XK → Hp → VK → Prop) → Addr → Hp → VK → Prop) : Prop :=
  ∀ (A : Around) (outer : List Env) (s : Shared) (H : Hp) (Q : VK) (f : Addr) (L : Addr → Hp → Prop) (tl : XK → Hp → VK → Prop), Room k (A.deeper (envOfC x sg s.heap.objs.size g cdg)) → A.guards = some [] → (∀ H H', Same H H' → L f H → L f H') →
    (∀ (W : WX) (pn : List (Addr × Obj)) (xe : Value → Shared → Prop) (p1 p2 : Pos), Takes ((cxOf CX0 P w K mg base Ng x sg g cdg A outer s H E0).tr pn xe) W →
      PE ((cxOf CX0 P w K mg base Ng x sg g cdg A outer s H E0).tr pn xe) (.Call (.Name a p1) [] [] p2) (fun σZ HZ Q => ∃ f, σZ[0]? = some (some (.ref f)) ∧ L f HZ ∧ tl (fun cls dd H' => W cls dd σZ H') HZ Q)) →
    L f H → TT L tl f H Q →
    ∃ t, PSs (cxOf CX0 P w K mg base Ng x sg g cdg A outer s H E0).nox bg t ∧ t { nx := fun _ H' => Q .non H', rt := Q } (L2.start Ng [.ref f]) H
end My

end
section
set_option maxRecDepth 100000
set_option maxHeartbeats 2000000
open PySem PySem.Spec PyProof.Rows L2 LamX
namespace My
abbrev TTK := (Addr → Hp → Prop) → (XK → Hp → VK → Prop) → Addr → Hp → VK → Prop
structure ClG (P : Program) (w : World) (K : PySem.W.Frag) (mg : Str → Option Value) (base : Heap) (k : Nat) (x : Str) (TT : TTK) : Prop where
  ex : ∃ (g : Addr) (st : Stmt) (N : List Str) (a : Str) (oc : Value) (od : Option Addr) (kV doc pm : Value) (an : Option Addr) (cdv ct : Value) (osl : Array (Option Value)),
    K.lookup g = some ⟨oc, od, .func (PySem.W.fnOf x x (defArgs st) (defBody st) (defScope st) .none kV doc pm an cdv ct), osl⟩ ∧ PySem.W.codeIn K cdv x = true ∧ PySem.W.keepIn K (.ref g) = true ∧ mg x = some (.ref g) ∧
    Binds K (PySem.W.fnOf x x (defArgs st) (defBody st) (defScope st) .none kV doc pm an cdv ct) [a] [] ∧ FnScope N [a] (defScope st) ∧ N[0]? = some a ∧ Vis (defScope st) a ∧ (a == ("__debug__" : Str)) = false ∧ (a == ("__classdict__" : Str)) = false ∧
    Gives P w K mg base k N x (defScope st) g cdv (defBody st) a TT
theorem ClG.mk' {P : Program} {w : World} {K : PySem.W.Frag} {mg : Str → Option Value} {base : Heap} {k : Nat} {x a : Str} {N : List Str} {st : Stmt} {g : Addr} {fd : FuncData} {TT : TTK} (F : Fun K x x st g fd) (hm : mg x = some (.ref g)) (b : Binds K fd [a] [])
    (S : FnScope N [a] (defScope st)) (hN : N[0]? = some a) (hv : Vis (defScope st) a) (h1 : (a == ("__debug__" : Str)) = false) (h2 : (a == ("__classdict__" : Str)) = false)
    (G : ∀ cdv, Gives P w K mg base k N x (defScope st) g cdv (defBody st) a TT) : ClG P w K mg base k x TT := by
  obtain ⟨oc, od, kV, doc, pm, an, cdv, ct, osl, rfl, lk, hcd⟩ := F.ex
  exact ⟨g, st, N, a, oc, od, kV, doc, pm, an, cdv, ct, osl, lk, hcd, F.kp, hm, b, S, hN, hv, h1, h2, G cdv⟩
section
variable {X : Cx} {pins : List (Addr × Obj)} {σ : L2.St} {H : Hp} {s : Shared} {k j m : Nat} {x : Str} {TT : TTK}
/-- the call of such a def with a lambda of X -/
theorem give_code {d : LamD} {f : Addr} {Q : VK} (c : ClG X.prog X.w X.K X.mg X.base k x TT) (hr : Room m X.A) (hgd : X.A.guards = some []) (hk : k + 1 ≤ m) (hj : j + 2 ≤ m) (O : LamOk X j d) :
    ∃ g, X.mg x = some (.ref g) ∧ PySem.W.keepIn X.K (.ref g) = true ∧ ∀ {pins : List (Addr × Obj)} {σ : L2.St} {H : Hp} {s : Shared} {f : Addr} {Q : VK}, Inv X pins σ H s → IsLam X d f H → TT (IsLam X d) (fun E H' Q' => d.t E σ H' Q') f H Q →
      codeAny (model X.prog X.w) X.A (.call (.ref g) ⟨[.ref f], []⟩) (CR CX0 X.stack X.prog X.w H s Q E0) s := by
  obtain ⟨g, st, N, a, oc, od, kV, doc, pm, an, cdv, ct, osl, lk, hcd, hkp, hm, hb, S, hN, hv, h1, h2, G⟩ := c.ex
  refine ⟨g, hm, hkp, fun {pins σ H s f Q} I hl ht => ?_⟩
  refine run_ofS (k := m - 1) (N := N) (ps := [a]) (us := [.ref f]) (vs := [.ref f]) lk hcd S (by rw [show m - 1 + 1 = m by omega]; exact hr) I.env0 (hb s [.ref f] I.kIn rfl) (.cons rfl .nil) rfl fun hr' => ?_
  obtain ⟨t, ht', hq⟩ := G X.A X.stack s H Q f (IsLam X d) (fun E H' Q' => d.t E σ H' Q') (hr'.mono (by omega)) hgd (fun _ _ sm z => z.same sm) (fun W pn xe p1 p2 tk => pe_actV I O (hr'.mono (by omega)) hgd tk hN hv h1 h2) hl ht
  exact ⟨t, ht'.nox, hq⟩
/-- g(e), e one of the lambdas of X -/
theorem pe_giveV {Fam : List LamD} {e : Expr} {t : TA} {p pos : Pos} (c : ClG X.prog X.w X.K X.mg X.base k x TT) (hr : Room m X.A) (hgd : X.A.guards = some []) (hk : k + 1 ≤ m) (hj : j + 2 ≤ m) (hF : ∀ d ∈ Fam, LamOk X j d) (hg : Gl X x) (ha : PA X [e] t)
    (hdb : (x == ("__debug__" : Str)) = false := by decide) (he : starEach [e] X.env = (false, eval e X.env) :: starEach [] X.env := by rfl) (hpl : (backTo pos (starEach [] X.env)).any (·.1) = false := by rfl) :
    PE X (.Call (.Name x p) [e] [] pos) (fun σ H Q => t σ H fun vs H1 => ∃ d ∈ Fam, ∃ f, vs = [.ref f] ∧ IsLam X d f H1 ∧ TT (IsLam X d) (fun E H' Q' => d.t E σ H' Q') f H1 Q) := by
  obtain ⟨g, st, N, a, oc, od, kV, doc, pm, an, cdv, ct, osl, lk, hcd, hkp, hm, _⟩ := c.ex
  refine ⟨fun pins s σ H Q I z => wpAny_Call_Name_kw (ld_glob I hg hm ?_ hdb)⟩
  refine PySem.W.callWith_K (h₀ := X.base) I.ok.mod.kin hkp (thn (ha.run pos pins s σ H _ I z) ?_) he hpl
  rintro us s1 ⟨as, H1, I1, r, d, hd, f, rfl, hl, y⟩
  refine ⟨I1.kIn, ?_⟩
  cases r with
  | cons r1 r2 =>
    cases r2
    obtain rfl := r1
    obtain ⟨g', hm', _, run⟩ := give_code (f := f) (Q := Q) c hr hgd hk hj (hF d hd)
    have eg : g = g' := by
      rw [hm] at hm'
      exact Value.ref.inj (Option.some.inj hm')
    subst eg
    refine wpAny_call (codeAny_mono (run I1 hl y) fun res s' hq => ?_)
    match res, hq with
    | .error er, hq => exact False.elim hq
    | .ok (.ret u), hq => exact I1.after hq
    | .ok .next, hq => exact False.elim hq
    | .ok .brk, hq => exact False.elim hq
    | .ok .cont, hq => exact False.elim hq
end
end My

end
section
set_option maxRecDepth 100000
set_option maxHeartbeats 4000000
open PySem PySem.Spec PyProof.Rows L2 LamX
namespace My
/-- [elt for y in iter], elt read item by item, and read in the state of the def around it -/
def tLcI (wi : TI) (te : L2.St → V → Hp → VK → Prop) : TE := fun σ H Q => wi σ H fun J H1 => ∀ D, H1 D = none → ∃ W : Nat → Nat → Hp → Prop, (∃ m, W 0 m (upd H1 D (.lst []))) ∧ ∀ i m H, W i m H →
  (J.stop i H ∧ Q (.ref D) H) ∨ (J.go i H ∧ ∃ Nx : Hp → Prop, (∀ H', Nx H' → ∃ m', m' < m ∧ W (i + 1) m' H') ∧ ∀ x H', J.yld i H x H' → te σ x H' fun y H4 => ∃ acc, H4 D = some (.lst acc) ∧ acc.length < sizeLine ∧ Nx (upd H4 D (.lst (acc ++ [y]))))
section
variable {X : Cx}
theorem pe_lcI {y : Str} {iy : Nat} {py : Pos} {elt iter : Expr} {scope : Scope} {pos : Pos} {wi : TI} {te : L2.St → V → Hp → VK → Prop} (hc : X.calm = true) (hN : X.N.Nodup) (hi : PI X (.Name y py) iter wi) (ok : BlkOk X.N X.env.scope scope [(y, iy)]) (hl : Loc scope y) (hf : scope.names.lookup y = some .local)
    (he : ∀ (pins : List (Addr × Obj)) (σ : L2.St) (C : Addr) (cl : List (Str × Addr)) (fp : List Addr) (s3 : Shared) (H3 : Hp), Inv X pins σ H3 s3 → (∀ {pn : List (Addr × Obj)} {σ' : L2.St} {H' : Hp} {s' : Shared}, Inv (X.blk s3 H3 scope (compEnvC scope cl C X.env) fp) pn σ' H' s' → Inv X pins σ H' s') →
      ∀ (pn : List (Addr × Obj)) (s' : Shared) (σ' : L2.St) (H' : Hp) (x : V) (Q : VK), Inv (X.blk s3 H3 scope (compEnvC scope cl C X.env) fp) pn σ' H' s' → σ'[iy]? = some (some x) → te σ x H' Q →
        wpAny (model X.prog X.w) X.A (eval elt (compEnvC scope cl C X.env)) (EP (X.blk s3 H3 scope (compEnvC scope cl C X.env) fp) pn σ' Q) (fun _ _ => False) s')
    (hs : ∀ x, foldedSetIterable iter X.env x = pure x := by intro _; rfl) : PE X (.ListComp elt [⟨.Name y py, iter, [], 0⟩] scope pos) (tLcI wi te) := by
  refine ⟨fun pins s σ H Q I h => ?_⟩
  rw [eval_ListComp]
  have hfree : ∀ y ∈ scope.names, y.2 = .free → ∃ c, X.env.cells.lookup y.1 = some c := fun z hz e => (ok.free z hz e).elim (fun k => I.ok.has _ (.inl k)) (fun k => I.ok.has _ (.inr k))
  refine wpAny_comprehension_free (use := none) rfl hs (closure_ok hfree) ok.kind (fun z hz e => by rw [ok.uniq z hz, e]) (thn (hi.run pins s σ H _ I h) fun xv s1 hx => thn hx fun itv s2 h2 => ?_)
  obtain ⟨it, fp, tn, J, H2, e, I2, T, st2, f2, q⟩ := h2
  subst e
  refine wpAny_newObj_type (newEnv_comp ?_) (by show 0 ≤ sizeLine; decide)
  generalize hD : s2.heap.objs.size = D
  obtain ⟨W, ⟨m0, w0⟩, turn⟩ := q D (I2.hok.fresh (Nat.le_of_eq hD))
  -- the new list is laid
  generalize hs3 : ({ s2 with heap := s2.heap.push { cls := .type "list", data := .seq ([] : List Value).toArray } } : Shared) = s3
  have h3 : s3.heap = s2.heap.push { cls := .type "list", data := .seq ([] : List Value).toArray } := by rw [← hs3]
  have I3 : Inv X pins σ (upd H2 D (.lst [])) s3 := by
    rw [← hs3]
    exact I2.laid (t' := s2.toks) (fun b o e => Heap.get?_push_of_some _ e) (Nat.le_of_eq hD) ⟨Nat.zero_le _, [], 0, .nil, by rw [← hD]; exact Heap.get?_push_size _ rfl⟩
  have f3 : ∀ b ∈ fp, FpOk X pins (upd H2 D (.lst [])) b ∧ b < s3.heap.objs.size := fun b hb => by
    obtain ⟨o, e, _⟩ := T.obj _ _ st2 b hb
    have lt := Heap.lt_size e
    obtain ⟨g1, g2⟩ := f2 b hb
    exact ⟨⟨by rw [upd_ne (by rw [← hD]; exact Nat.ne_of_lt lt)]; exact g1, g2⟩, by rw [h3, Heap.size_push]; exact Nat.lt_succ_of_lt lt⟩
  have st3 : tn 0 s3.heap := T.keep _ _ _ st2 fun b _ o e => by rw [h3]; exact Heap.get?_push_of_some _ e
  have I4 := block_start I3 ok hN f3
  have el := he pins σ s3.heap.objs.size (cellsFrom (s3.heap.objs.size + 1) scope.names (cloFrom X.env.cells scope.names [])) fp s3 (upd H2 D (.lst [])) I3
  have hfl : ∀ b ∈ fp, (b ∈ X.ex ∨ X.s_0.heap.objs.size ≤ b) ∧ b ≠ X.env.locals ∧ (∀ x c, X.env.cells.lookup x = some c → c ≠ b) ∧ ∀ p ∈ X.pn ++ pins, p.1 ≠ b := fun b hb => ⟨(f3 b hb).1.2.2.2.1, (f3 b hb).1.2.1, (f3 b hb).1.2.2.2.2.1, (f3 b hb).1.2.2.2.2.2⟩
  have n3 : ∀ b ∈ fp, (upd H2 D (.lst [])) b = none := fun b hb => (f3 b hb).1.1
  show codeAny _ _ (.compStart (.ListComp elt [⟨.Name y py, iter, [], 0⟩] scope pos) 0 (.ref it) (.ref D) (compEnvC scope (cellsFrom (s3.heap.objs.size + 1) scope.names (cloFrom X.env.cells scope.names [])) s3.heap.objs.size X.env)) (compPost (model X.prog X.w) X.A X.xe none (EP X pins σ Q) (.ref D) s3.heap.objs.size) { s3 with heap := pushCells (s3.heap.push { cls := .type "dict", data := .dict #[] }) scope.names }
  obtain ⟨ce, hce⟩ : ∃ ce, compEnvC scope (cellsFrom (s3.heap.objs.size + 1) scope.names (cloFrom X.env.cells scope.names [])) s3.heap.objs.size X.env = ce := ⟨_, rfl⟩
  have cL : ce.locals = s3.heap.objs.size := by rw [← hce]; rfl
  have cS : ce.scope = relS scope X.env.scope := by rw [← hce]; rfl
  rw [hce] at I4 el ⊢
  generalize upd H2 D (.lst []) = H3 at I3 I4 el w0 n3 f3
  have back : ∀ {pn : List (Addr × Obj)} {σ' : L2.St} {H' : Hp} {s' : Shared}, Inv (X.blk s3 H3 scope ce fp) pn σ' H' s' → Inv X pins σ H' s' := fun B => I3.call' (ch := fp) B.os B.base B.hok B.bare hfl
  obtain ⟨s4, hs4⟩ : ∃ s4 : Shared, { s3 with heap := pushCells (s3.heap.push { cls := .type "dict", data := .dict #[] }) scope.names } = s4 := ⟨_, rfl⟩
  rw [hs4] at I4 ⊢
  have st4 : tn 0 s4.heap := T.keep _ _ _ st3 fun b _ o e => by rw [← hs4]; exact pushCells_keeps _ _ _ _ (Heap.get?_push_of_some _ e)
  have fpB : ∀ {σ' : L2.St} {H' : Hp} {s' : Shared}, Inv (X.blk s3 H3 scope ce fp) [] σ' H' s' → (∀ b ∈ fp, H' b = none) → ∀ b ∈ fp, FpOk (X.blk s3 H3 scope ce fp) [] H' b := fun {σ' H' s'} B n b hb =>
    ⟨n b hb, (B.ok.exf b hb).1, B.ok.exfs b hb, .inl hb, (B.ok.exf b hb).2, fun p hp => absurd (show p ∈ ([] : List (Addr × Obj)) ++ [] from hp) (by simp)⟩
  have pg : PG (X.blk s3 H3 scope ce fp) (.Name y py) (gName iy) := by
    have hl2 : ce.scope.names.lookup y = some .local := by
      rw [cS]
      exact lookup_relS_keep (by decide) hf
    exact pg_name hN (ok.ix (y, iy) List.mem_cons_self) (.inl hl2) (.inr hl2)
  have loop : codeAny (model X.prog X.w) X.A (.compLoop (.ListComp elt [⟨.Name y py, iter, [], 0⟩] scope pos) 0 (.ref it) (.ref D) ce) (compPost (model X.prog X.w) X.A X.xe none (EP X pins σ Q) (.ref D) s3.heap.objs.size) s4 := by
    refine compLoop_any (fun n s' => ∃ i H', Inv (X.blk s3 H3 scope ce fp) [] (wipe σ [iy]) H' s' ∧ tn i s'.heap ∧ (∀ b ∈ fp, H' b = none) ∧ W i n H') ?_ m0 ⟨0, H3, I4, st4, n3, w0⟩
    rintro n s5 ⟨i, H5, B5, st5, n5, w5⟩
    rcases turn i n H5 w5 with ⟨stop, qq⟩ | ⟨go, Nx, hNx, step⟩
    · refine thnF (T.done (X.blk s3 H3 scope ce fp) rfl rfl rfl hc i [] s5 _ H5 (fun _ _ => False) B5 (fpB B5 n5) st5 stop) fun r s6 ⟨hr, B6⟩ => ?_
      subst hr
      have free : H5 s3.heap.objs.size = none := by rw [← cL]; exact B6.free
      obtain ⟨m, hn, _⟩ := B6.loc
      have hn : s6.heap.Ns s3.heap.objs.size m := by rw [← cL]; exact hn
      have fC := I3.fpOk (Nat.le_refl _) free
      refine ⟨m, hn, fun h'' sb => ⟨.ref D, H5, (back B6).turned (t' := s6.toks) (fun b o hb e => (sb.2 b hb).trans e) fC.1 fC.2.1 fC.2.2.2.1 fC.2.2.2.2.1 fC.2.2.2.2.2, rfl, qq⟩⟩
    · refine thnF (T.item (X.blk s3 H3 scope ce fp) rfl rfl rfl hc i [] s5 _ H5 (fun _ _ => False) B5 (fpB B5 n5) st5 go) fun r s6 ⟨u, hr, h6⟩ => ?_
      subst hr
      refine thnF h6 fun _ s7 ⟨x, H7, B7, r7, y7, st7, n7⟩ => ?_
      have B7' := B7.pinned (fpB B7 n7) (T.obj _ _ st7)
      refine thnF (pg.run _ s7 _ H7 x u (fun σ' H' => σ' = (wipe σ [iy]).set iy (some x) ∧ H' = H7) B7' r7 ⟨rfl, rfl⟩) fun _ s8 ⟨σ8, H8, B8, e8, eH⟩ => ?_
      subst e8 eH
      have hlen : iy < (wipe σ [iy]).length := by
        rw [wipe_length, I3.len]
        exact (List.getElem?_eq_some_iff.mp (ok.ix (y, iy) List.mem_cons_self)).1
      show wpAny _ _ (forIn [] true _) _ _ _
      refine wpAny_tests_nil ?_
      simp only [if_true]
      have hx : ((wipe σ [iy]).set iy (some x))[iy]? = some (some x) := by rw [List.getElem?_set_self hlen]
      refine thnF (el back _ s8 _ H8 x _ B8 hx (step x H8 y7)) fun z s10 ⟨yv, H10, B10, r10, acc, hD10, hz10, nx⟩ => ?_
      refine app_ok (X := X.blk s3 H3 scope ce fp) B10 hD10 hz10 r10 fun s11 B11 => ?_
      obtain ⟨m', hm, w'⟩ := hNx _ nx
      have pin' : ∀ b ∈ fp, ∀ o, s7.heap.get? b = some o → s11.heap.get? b = some o ∧ (upd H10 D (.lst (acc ++ [yv]))) b = none := fun b hb o e =>
        let z := B11.pin (b, o) (List.mem_append_right _ (List.mem_append_right _ (mem_pinsAt hb e)))
        ⟨z.1, z.2.1⟩
      have e1 : ((wipe σ [iy]).set iy (some x)).length = (wipe σ [iy]).length := List.length_set
      refine ⟨m', hm, i + 1, _, (B11.unpinned (pins := [])).weak e1.symm (fun j v e => ?_), T.keep _ _ _ st7 fun b hb o e => (pin' b hb o e).1, fun b hb => ?_, w'⟩
      · have hj : j ≠ iy := fun z => (wipe_some e).2 (by rw [z]; exact List.mem_cons_self)
        rw [List.getElem?_set_ne (Ne.symm hj)]
        exact e
      · obtain ⟨o, e, _⟩ := T.obj _ _ st7 b hb
        exact (pin' b hb o e).2
  exact codeAny_compStart_list loop (T.self X.A 0 _ _ _ st4 loop)
end
end My

end
section
set_option maxRecDepth 100000
set_option maxHeartbeats 4000000
open PySem PySem.Spec PyProof.Rows L2 LamX
namespace My
section
variable {X : Cx} {k j m : Nat} {x y : Str} {TT : TTK}
/-- [g(y) for y in e], each y one of the lambdas of X -/
theorem pe_lcGive {Fam : List LamD} {iy : Nat} {py p p2 p3 : Pos} {iter : Expr} {scope : Scope} {pos : Pos} {wi : TI} (c : ClG X.prog X.w X.K X.mg X.base k x TT) (hr : Room m X.A) (hgd : X.A.guards = some []) (hk : k + 1 ≤ m) (hj : j + 2 ≤ m) (hF : ∀ d ∈ Fam, LamOk X j d)
    (hc : X.calm = true) (hN : X.N.Nodup) (hi : PI X (.Name y py) iter wi) (ok : BlkOk X.N X.env.scope scope [(y, iy)]) (hf : scope.names.lookup y = some .local)
    (hg : ∀ (s : Shared) (H : Hp) (C : Addr) (cl : List (Str × Addr)) (fp : List Addr), Gl (X.blk s H scope (compEnvC scope cl C X.env) fp) x)
    (hdb : (x == ("__debug__" : Str)) = false := by decide) (hd : (y == ("__debug__" : Str)) = false := by decide) (hcd : (y == ("__classdict__" : Str)) = false := by decide) (hs : ∀ x, foldedSetIterable iter X.env x = pure x := by intro _; rfl) :
    PE X (.ListComp (.Call (.Name x p) [.Name y p2] [] p3) [⟨.Name y py, iter, [], 0⟩] scope pos) (tLcI wi fun σ v H Q => ∃ d ∈ Fam, ∃ f, v = .ref f ∧ IsLam X d f H ∧ TT (IsLam X d) (fun E H' Q' => d.t E σ H' Q') f H Q) := by
  obtain ⟨g, st, N, a, oc, od, kV, doc, pm, an, cdv, ct, osl, lk, hcd', hkp, hm, _⟩ := c.ex
  refine pe_lcI hc hN hi ok (.inl hf) hf (fun pins σ C cl fp s3 H3 I3 back pn s' σ' H' v Q B hx z => ?_) hs
  obtain ⟨d, hd', f, rfl, hl, ht⟩ := z
  have hv : Vis (compEnvC scope cl C X.env).scope y := .inl (show (relS scope X.env.scope).names.lookup y = some .local from lookup_relS_keep (by decide) hf)
  have pv : PE (X.blk s3 H3 scope (compEnvC scope cl C X.env) fp) (.Name y p2) (tVar iy) := pe_var (ok.ix (y, iy) List.mem_cons_self) hv hd hcd
  have pa := pa_cons (es := []) pv pa_nil (by rfl)
  refine wpAny_Call_Name_kw (ld_glob (X := X.blk s3 H3 scope (compEnvC scope cl C X.env) fp) B (hg _ _ _ _ _) hm ?_ hdb)
  refine PySem.W.callWith_K (h₀ := X.base) I3.ok.mod.kin hkp (thn (pa.run p3 pn s' σ' H' (fun vs H1 => vs = [.ref f] ∧ H1 = H') B ⟨_, hx, rfl, rfl⟩) ?_) (by rfl) (by rfl)
  rintro us s1 ⟨as, H1, B1, r, rfl, rfl⟩
  refine ⟨B1.kIn, ?_⟩
  cases r with
  | cons r1 r2 =>
    cases r2
    obtain rfl := r1
    obtain ⟨g', hm', _, run⟩ := give_code (f := f) (Q := Q) c hr hgd hk hj (hF d hd')
    have eg : g = g' := by
      rw [hm] at hm'
      exact Value.ref.inj (Option.some.inj hm')
    subst eg
    refine wpAny_call (codeAny_mono (run (back B1) hl ht) fun res s2 hq => ?_)
    match res, hq with
    | .error er, hq => exact False.elim hq
    | .ok (.ret u), hq => exact B1.after (X := X.blk s3 H3 scope (compEnvC scope cl C X.env) fp) hq
    | .ok .next, hq => exact False.elim hq
    | .ok .brk, hq => exact False.elim hq
    | .ok .cont, hq => exact False.elim hq
/-- over a list of things that the block leaves as it is -/
theorem lcI_list {K : PySem.W.Frag} {a : Addr} {xs : List V} {te : L2.St → V → Hp → VK → Prop} {σ : L2.St} {H1 : Hp} {D : Addr} {Qd : Addr → Hp → Prop} (Pv : Nat → Hp → Prop) (h0 : Pv 0 (upd H1 D (.lst []))) (hl : ∀ i H, Pv i H → SqL K H a xs)
    (hs : ∀ i x H, xs[i]? = some x → Pv i H → te σ x H fun y H4 => ∃ acc, H4 D = some (.lst acc) ∧ acc.length < sizeLine ∧ Pv (i + 1) (upd H4 D (.lst (acc ++ [y])))) (hd : ∀ H, Pv xs.length H → Qd D H) :
    ∃ W : Nat → Nat → Hp → Prop, (∃ m, W 0 m (upd H1 D (.lst []))) ∧ ∀ i m H, W i m H →
      ((Itl K a).stop i H ∧ Qd D H) ∨ ((Itl K a).go i H ∧ ∃ Nx : Hp → Prop, (∀ H', Nx H' → ∃ m', m' < m ∧ W (i + 1) m' H') ∧ ∀ x H', (Itl K a).yld i H x H' → te σ x H' fun y H4 => ∃ acc, H4 D = some (.lst acc) ∧ acc.length < sizeLine ∧ Nx (upd H4 D (.lst (acc ++ [y])))) := by
  refine ⟨fun i m H => m = xs.length - i ∧ i ≤ xs.length ∧ Pv i H, ⟨_, rfl, Nat.zero_le _, h0⟩, ?_⟩
  rintro i m H ⟨rfl, hi, p⟩
  have q := hl i H p
  by_cases hlt : i < xs.length
  · refine .inr ⟨⟨xs, xs[i], q, List.getElem?_eq_getElem hlt⟩, Pv (i + 1), fun H' p' => ⟨xs.length - (i + 1), by omega, rfl, hlt, p'⟩, fun x H' y => ?_⟩
    obtain ⟨e, y⟩ := y
    subst e
    exact hs i x _ (y xs q) p
  · have e : i = xs.length := by omega
    subst e
    exact .inl ⟨⟨xs, q, Nat.le_refl _⟩, hd H p⟩
end
end My

end
section
set_option maxRecDepth 100000
set_option maxHeartbeats 4000000
open PySem PySem.Spec PyProof.Rows L2 LamX
namespace My
/-! ### an error kept beyond its except suite -/
def ExK (cls : Value) (d : Option Addr) (a : Addr) : HO := .ext fun h => ∃ (oe : Obj) (vs : Array Value), h.get? a = some oe ∧ Zc cls d oe ∧ oe.data = .fields vs
theorem exK_ok {P : Program} {w : World} {H : Hp} {h : Heap} {a : Addr} {cls : Value} {d : Option Addr} {oe : Obj} {vs : Array Value} (e : h.get? a = some oe) (z : Zc cls d oe) (hd : oe.data = .fields vs) : ObjOk P w H h a (ExK cls d a) :=
  ⟨⟨oe, vs, e, z, hd⟩, ⟨oe, e⟩, fun _ _ ⟨o, v, q, r⟩ k => ⟨o, v, k o q, r⟩⟩
section
variable {X : Cx} {pins : List (Addr × Obj)} {σ : L2.St} {H : Hp} {s : Shared}
/-- what was pinned is tracked from now on -/
theorem track {a : Addr} {oe : Obj} {vs : Array Value} {cls : Value} {d : Option Addr} (I : Inv X ((a, oe) :: pins) σ H s) (h0 : X.s_0.heap.get? a = none) (hp : ∀ p ∈ X.pn ++ pins, p.1 ≠ a) (z : Zc cls d oe) (hd : oe.data = .fields vs) : Inv X pins σ (upd H a (ExK cls d a)) s := by
  obtain ⟨ga, na, nL, nF, nc⟩ := I.pin (a, oe) (List.mem_append_right _ List.mem_cons_self)
  have ne : ∀ {b : Addr} {u : HO}, H b = some u → b ≠ a := fun e => ne_of_none e na
  have at_ : ∀ {b : Addr} {u : HO}, H b = some u → upd H a (ExK cls d a) b = some u := fun e => by rw [upd_ne (ne e)]; exact e
  have B := I.base
  refine ⟨I.ok, I.os, I.bare, ⟨B.keep, B.slot, fun b o e n hx => ?_, B.there, fun b xs e => at_ (B.tups b xs e), fun b o u e => at_ (B.frzs b o u e), fun b ps e => ?_⟩, I.loc, I.cell, ?_, fun y c e => ?_, fun p q => ?_, fun b u e => ?_, I.len⟩
  · rw [upd_ne (fun z => by rw [z, h0] at e; cases e)]
    exact B.free b o e n hx
  · obtain ⟨more, q⟩ := B.tbls b ps e
    exact ⟨more, at_ q⟩
  · rw [upd_ne (Ne.symm nL)]; exact I.free
  · obtain ⟨v, ho⟩ := I.cell y c e
    rw [upd_ne (fun z => ?_)]
    · exact I.freeC y c e
    · obtain ⟨o, e1, e2⟩ := ho
      rw [z, ga] at e1
      cases e1
      exact nc _ e2
  · obtain ⟨g1, g2, g3⟩ := I.pin p (by
      rcases List.mem_append.mp q with q | q
      · exact List.mem_append_left _ q
      · exact List.mem_append_right _ (List.mem_cons_of_mem _ q))
    exact ⟨g1, by rw [upd_ne (hp p q)]; exact g2, g3⟩
  · by_cases hb : b = a
    · subst hb
      rw [upd_same] at e
      cases e
      exact exK_ok ga z hd
    · rw [upd_ne hb] at e
      exact (I.hok b u e).stay (fun _ _ _ q => q) (fun b' q => at_ q) fun b' xs q => at_ q
end
/-- what the clause wishes: the error is of c; it is kept in what the suite stores -/
def wKeep (K : PySem.W.Frag) (c : Value) (i : Nat) (ts : TS) (D : Ends) : WX := fun cls d σ H =>
  PySem.W.exmOne K cls c = some true ∧ ∀ a, H a = none → ts { nx := fun σ' H' => D.nx (σ'.set i none) (upd H' a (ExK cls d a)), rt := fun _ _ => False } (σ.set i (some (.ref a))) H
section
variable {X : Cx} {x n : Str} {c : Value} {i : Nat} {body suite : List Stmt} {b₀ : Stmt} {np pos pos' : Pos} {tb : WX → TS} {ts : TS}
/-- try: body / except x as n: suite, where every error of the body is an x -/
theorem ps_try_keep (hs : X.stack = X.env :: X.outer) (hf : X.env.frame = some X.env.locals) (hex : X.ex = []) (hN : X.N.Nodup) (hi : X.N[i]? = some n) (hln : X.env.kindOf n = some .local) (hc : Names X x c)
    (hb : ∀ (W : WX) (pn : List (Addr × Obj)) (xe : Value → Shared → Prop), Takes (X.tr pn xe) W → PSs (X.tr pn xe) body (tb W))
    (hsu : ∀ (a : Addr) (oe : Obj) (pn : List (Addr × Obj)), PSs (X.suite a ((a, oe) :: pn)) (b₀ :: suite) ts) :
    PS X (.Try body [.ExceptHandler (some (.Name x np)) (some n) (b₀ :: suite) pos'] [] [] pos) (fun D σ H => tb (wKeep X.K c i ts D) D σ H) := by
  refine ⟨fun pins s σ H D I h => ?_⟩
  have ok := I.ok
  have hfr : X.A.frames = some (X.env :: X.outer) := by rw [ok.frames, hs]
  refine wpAny_Try_except ?_
  refine wpAny_mono ((hb (wKeep X.K c i ts D) (X.pn ++ pins) (fun e s₁ => wpAny (model X.prog X.w) X.A (noteFrame e X.env) (fun _ s₂ => wpAny (model X.prog X.w) X.A (setFlight e none) (fun _ s₃ =>
    wpAny (model X.prog X.w) X.A (handleBy e X.env [.ExceptHandler (some (.Name x np)) (some n) (b₀ :: suite) pos']) (SP X pins D) X.xe s₃) X.xe s₂) X.xe s₁) (fun u s' xx => ?_)).run [] s σ H D (I.toTry _) h) (fun f s1 hsp => ?_) (fun e s1 he => he)
  · obtain ⟨a, B, sI, pins', σ', H', cls, d, rfl, J', nb, up, sky, na, os, ag, hb1, hyes⟩ := xx
    have J : Inv X pins σ' H' sI := J'.ofTry ok
    have sky' : Sky B (X.env :: X.outer) a (Zc cls d) X.env.locals s'.heap := by rw [← hs]; exact sky
    show wpAny (model X.prog X.w) X.A (noteFrame (.ref a) X.env) _ _ _
    refine Sky.land Zc.steady hfr hf sky' fun h3 fl3 up3 => ?_
    have J3 : Inv X pins σ' H' { s' with heap := h3 } := J.landed nb fl3.1 (up.trans up3) os ag
    obtain ⟨oe3, vs3, he3, hz3, hd3⟩ := fl3.there
    -- the error's place is new
    have nfr : a ∉ frs (X.env :: X.outer) := fun hm => by
      obtain ⟨_, o', e', hnf⟩ := fl3.2.2.1.mem hm
      rw [he3] at e'
      cases e'
      exact hnf _ hd3
    have nI : sI.heap.get? a = none := by
      cases q : sI.heap.get? a with
      | none => rfl
      | some o =>
        have z := nb a o q (by rw [hs]; exact nfr)
        rw [fl3.2.1] at z
        cases z
    have n0 : X.s_0.heap.get? a = none := by
      cases q : X.s_0.heap.get? a with
      | none => rfl
      | some o =>
        obtain ⟨o', z⟩ := J.base.there a o q (by rw [hex]; simp)
        rw [nI] at z
        cases z
    have np' : ∀ p ∈ X.pn ++ pins, p.1 ≠ a := fun p hp z => by
      have g := (J.pin p hp).1
      rw [z, nI] at g
      cases g
    have nL : a ≠ X.env.locals := fun z => nfr (List.mem_filterMap.mpr ⟨X.env, List.mem_cons_self, by rw [hf, z]⟩)
    have nF : a ∉ X.fs := fun hm => by
      obtain ⟨e, he, q⟩ := List.mem_filterMap.mp hm
      exact nfr (List.mem_filterMap.mpr ⟨e, List.mem_cons_of_mem _ he, q⟩)
    have S3 := J3.suite he3 hd3 na nL nF
    refine wpAny_handleBy_cons (codeAny_handlers_test ?_) (by intro q; cases q)
    have LT : PySem.W.Looks (model X.prog X.w) h3 (typeOf (.ref a)) cls := fun A Q E s k q => wpAny_typeOf_ref (k _ _ he3) (by rw [hz3.1]; exact q)
    have LM := PySem.W.exm_one (M := model X.prog X.w) (J3.kIn) LT hb1
    have test : ∀ {Q : Value → Shared → Prop} {E : Value → Shared → Prop}, Q c { s' with heap := h3 } → wpAny (model X.prog X.w) (X.A.mark (some (.ref a))) (eval (.Name x np) X.env) Q E { s' with heap := h3 } := fun {Q E} q => by
      obtain ⟨hg, hdbg, hm | ⟨hm, hv, hnn⟩⟩ := hc
      · exact ld_glob (X := X.suite a ((a, oe3) :: (X.pn ++ pins))) S3 hg hm q hdbg
      · exact ld_blt (X := X.suite a ((a, oe3) :: (X.pn ++ pins))) S3 hg hm hv q hnn hdbg
    refine test (LM.here (codeAny_handlers_suite_as (HandSPX.lands_againZ fl3 fun h4 fl4 up4 => ?_)))
    have J4 : Inv X pins σ' H' { s' with heap := h4 } := J.landed nb fl4.1 ((up.trans up3).trans up4) os ag
    obtain ⟨oe4, vs4, he4, hz4, hd4⟩ := fl4.there
    have S4 := J4.suite he4 hd4 na nL nF
    refine store_ok (X := X.suite a ((a, oe4) :: (X.pn ++ pins))) (v := .ref a) S4 hN hi (.inl hln) rfl (fun s5 S5 => ?_) (.inr hln)
    refine wpAny_mono ((hsu a oe4 (X.pn ++ pins)).run [] s5 _ H' _ S5 (hyes a na)) (fun f s6 hsp => ?_) (fun _ _ z => False.elim z)
    cases f with
    | next =>
      obtain ⟨σ6, H6, S6, q6⟩ := hsp
      have J6 : Inv X ((a, oe4) :: pins) σ6 H6 s6 := ⟨ok, S6.os, S6.bare, S6.base, S6.loc, S6.cell, S6.free, S6.freeC, fun p hp => S6.pin p (by
        refine List.mem_append_left _ ?_
        rcases List.mem_append.mp hp with q | q
        · exact List.mem_cons_of_mem _ (List.mem_append_left _ q)
        · rcases List.mem_cons.mp q with q | q
          · rw [q]; exact List.mem_cons_self
          · exact List.mem_cons_of_mem _ (List.mem_append_right _ q)), S6.hok, S6.len⟩
      exact gone_ok J6 hN hi hln fun s7 J7 => ⟨_, _, track J7 n0 np' hz4 hd4, q6⟩
    | brk =>
      obtain ⟨_, _, _, q6⟩ := hsp
      exact False.elim q6
    | cont =>
      obtain ⟨_, _, _, q6⟩ := hsp
      exact False.elim q6
    | ret u =>
      obtain ⟨_, _, _, _, _, q6⟩ := hsp
      exact False.elim q6
  · cases f with
    | next =>
      obtain ⟨σ', H', J', q⟩ := hsp
      exact wpAny_execs_nil ⟨σ', H', J'.ofTry ok, q⟩
    | brk =>
      obtain ⟨σ', H', J', q⟩ := hsp
      exact ⟨σ', H', J'.ofTry ok, q⟩
    | cont =>
      obtain ⟨σ', H', J', q⟩ := hsp
      exact ⟨σ', H', J'.ofTry ok, q⟩
    | ret u =>
      obtain ⟨v, σ', H', J', r, q⟩ := hsp
      exact ⟨v, σ', H', J'.ofTry ok, r, q⟩
end
/-! ### isinstance of such an error -/
def rIsX (K : PySem.W.Frag) : List V → Hp → VK → Prop := fun xs H Q => ∃ (a D : Addr) (c : V) (cv : Value) (b : Bool), xs = [.ref a, c] ∧ H a = some (ExK (.ref D) none a) ∧ ExcC K D ∧ (∀ u, RelV c u → u = cv) ∧ PySem.W.kitOne K (.ref D) cv = some b ∧ Q (.bl b) H
theorem call_isX {X : Cx} : CallR X (.builtin "isinstance") (rIsX X.K) := by
  intro pins s σ H xs us Q I r h
  obtain ⟨a, D, c, cv, b, rfl, ha, C, hcv, e, q⟩ := h
  cases r with
  | cons rx rr =>
    cases rr with
    | cons rt rr =>
      cases rr
      cases rx
      have ec := hcv _ rt
      subst ec
      obtain ⟨⟨oe, vs, hget, hz, hv⟩, _⟩ := I.hok a _ ha
      have J : PySem.W.InstAt s.heap a oe D none := by
        obtain ⟨oc, od, oda, osl⟩ := oe
        obtain ⟨h1, h2⟩ := hz
        dsimp only at h1 h2 hv
        subst h1 h2 hv
        exact ⟨hget, rfl, rfl, trivial⟩
      exact PySem.W.kia_one (PySem.W.handS_kitx_exc C.hg C.hk C.hs C.hd C.ha C.hn C.ht C.hm) I.kIn J e (fun z => nomatch z) fun tk => ⟨.bl b, H, I.kept (t' := tk) fun _ _ z => z, rfl, q⟩
end My

end
section
set_option maxRecDepth 100000
set_option maxHeartbeats 4000000
open PySem PySem.Spec PyProof.Rows L2 LamX
namespace My
def rCntB (K : PySem.W.Frag) : V → List V → Hp → VK → Prop := fun x xs H Q => ∃ (p : Addr) (bs : List Bool) (b : Bool), x = .ref p ∧ xs = [.bl b] ∧ SqL K H p (bs.map V.bl) ∧ Q (.int (bs.count b : Nat)) H
theorem dpAll_bools {K : PySem.W.Frag} {H : Hp} : ∀ bs : List Bool, DpAll K H (bs.map V.bl) (bs.map PyData.bool)
  | [] => .nil
  | b :: bs => .cons (.bl b) (dpAll_bools bs)
theorem plain_bools : ∀ bs : List Bool, PyData.plainAll (bs.map PyData.bool) = true
  | [] => rfl
  | b :: bs => by
    simp only [List.map_cons, PyData.plainAll, plain_bools bs]
    rfl
theorem depth_bools : ∀ bs : List Bool, PyData.depthAll (bs.map PyData.bool) = 0
  | [] => rfl
  | b :: bs => by simp only [List.map_cons, PyData.depthAll, PyData.depth, depth_bools bs]; rfl
theorem count_bools (b : Bool) : ∀ bs : List Bool, (bs.map PyData.bool).countP (fun y => PyData.eqv y (.bool b)) = bs.count b
  | [] => rfl
  | c :: bs => by
    rw [List.map_cons, List.countP_cons, List.count_cons, count_bools b bs]
    cases b <;> cases c <;> rfl
theorem mt_countB {X : Cx} (hu : X.A.units + 64 < cLine) : MtR X "list.count" (rCntB X.K) := by
  intro pins s σ H x xs v us Q I rx rxs h
  obtain ⟨p, bs, b, rfl, rfl, hs, q⟩ := h
  cases rx
  obtain ⟨u, rfl, ru⟩ := rxs.one
  obtain rfl := ru
  obtain ⟨its, rv, pl, hlen⟩ := I.list hs
  obtain ⟨as, h4⟩ := Dp.readsAll I (bs.map PyData.bool) _ its (dpAll_bools bs) rv
  refine SeqAt.count_list_data (vs := its.toArray) (as := as) (d := .bool b) pl.isList (show ReadsAll s.heap its.toArray.toList _ as from h4) (Reads.bool b) (plain_bools bs) rfl (by rw [depth_bools]; omega) ?_
  rw [count_bools]
  exact ⟨.int _, H, I.tok _, ⟨_, rfl⟩, q⟩
/-- nothing is promised: never reached -/
theorem pe_no {X : Cx} {e : Expr} : PE X e (fun _ _ _ => False) := ⟨fun _ _ _ _ _ _ z => z.elim⟩
/-! ### the words of errors -/
def errs : List String := ["NoNumber", "NoPrime", "NoPair", "NoPaper", "NoBases", "NoText", "NoLine", "NoName", "NoDeed", "TooGreat"]
def wordsE : List Str := ["number", "prime", "pair", "paper", "bases", "text", "line", "name", "deed"]
structure Kits (K : PySem.W.Frag) (er : String → Addr) (i : Nat) (D : String) : Prop where
  at_ : errs[i]? = some D
  c : ExcC K (er D)
  k : ∀ (j : Nat) (n : String), errs[j]? = some n → PySem.W.kitOne K (.ref (er D)) (.ref (er n)) = some (decide (i = j))
  v : PySem.W.kitOne K (.ref (er D)) (.type "ValueError") = some true
  m : PySem.W.exmOne K (.ref (er D)) (.ref (er "PrimeError")) = some true
/-- _law_word: None, or the word of the error -/
def ttWord (K : PySem.W.Frag) (er : String → Addr) : TTK := fun _ tl _ H Q =>
  ∀ (E2 : XK) (Q2 : VK), (∀ (i : Nat) (D : String) (wd : Str) (H' : Hp), i < 9 → Kits K er i D → wordsE[i]? = some wd → (∀ H'', Same H' H'' → Q (.str wd) H'') → E2 (.ref (er D)) none H') → (∀ v H', Q .non H' → Q2 v H') → tl E2 H Q2
theorem isX {K : PySem.W.Frag} {er : String → Addr} {H : Hp} {Q : VK} {a : Addr} {i j : Nat} {D n : String} (k : Kits K er i D) (h : H a = some (ExK (.ref (er D)) none a)) (e : errs[j]? = some n) (q : Q (.bl (decide (i = j))) H) : rIsX K [.ref a, .ref (er n)] H Q :=
  ⟨a, er D, .ref (er n), .ref (er n), _, rfl, h, k.c, fun u r => r, k.k j n e, q⟩
theorem isXV {K : PySem.W.Frag} {er : String → Addr} {H : Hp} {Q : VK} {a : Addr} {i : Nat} {D : String} (k : Kits K er i D) (h : H a = some (ExK (.ref (er D)) none a)) (q : Q (.bl true) H) : rIsX K [.ref a, .ty "ValueError"] H Q :=
  ⟨a, er D, .ty "ValueError", .type "ValueError", _, rfl, h, k.c, fun u r => r, k.v, q⟩
end My

end
section
set_option maxRecDepth 100000
set_option maxHeartbeats 4000000
open PySem PySem.Spec PyProof.Rows L2 LamX
namespace My
abbrev scrO (vs : List Value) : Obj := { cls := .type "list", data := .seq vs.toArray }
abbrev tabO : Obj := { cls := .none, data := .fields #[] }
/-- the end of a law whose defs make lambdas: cs, their code objects and tables -/
theorem law_callGT {P : Program} {w : World} {K : PySem.W.Frag} {mg mb : Str → Option Value} {k : Nat} {fa a : Addr} {cs : List (Addr × Addr)} {fd : FuncData} {x : Str} {sp : Sp} {s₁ : Shared} {vs : List Value} {ns : List Int}
    (kin : K.In s₁.heap) (hns : s₁.heap.Ns mainGlobals mg) (hb : s₁.heap.Ns builtinsNs mb) (hbb : ∀ x : Str, x ≠ "__name__" → mb x = bootBuiltins x) (hlim : s₁.heap.NoLimit) (hg : s₁.gens = #[])
    (hT : ∀ p ∈ cs, s₁.heap.get? p.2 = some tabO) (nT : ∀ p ∈ cs, K.lookup p.2 = none) (C : ∀ p ∈ cs, PySem.W.CodeHd s₁.heap p.1 p.2)
    (hbm : ∃ (bm : Addr) (ob : Obj), mg "__builtins__" = some (.ref bm) ∧ bm ≠ builtinsNs ∧ s₁.heap.get? bm = some ob ∧ ob.cls = .type "module" ∧ ob.dict = some builtinsNs ∧ ob.data = .plain)
    (ha : s₁.heap.get? a = some (scrO vs)) (hi : IntsAre vs ns) (hl : ns.length ≤ sizeLine) (hr : Room k callerA)
    (F : ∀ base : Heap, K.In base → base.Ns mainGlobals mg → (∀ p ∈ cs, TabB base mg p.1 p.2) → FnG P w K mg base CX0 k fa fd [x] sp) (bd : ∀ (s : Shared) (u : Value), BindsTo s fd ⟨[u], []⟩ [(x, u)])
    (hsp : ∀ H : Hp, (∀ p ∈ cs, H p.2 = some (.tbl #[])) → SqL K H a (ns.map V.int) → sp [.ref a] H (fun v _ => v = .bl true) fun _ _ _ => False) :
    codeAny (model P w) callerA (.call (.ref fa) ⟨[.ref a], []⟩) (fun r s' => r = .ok (.ret (.bool true)) ∧ OldK s₁.heap s'.heap ∧ s'.os = s₁.os ∧ AllBare s'.gens) s₁ := by
  have rv := vals_ints hi
  have ln := hi.length
  have isT : ∀ b : Addr, b ∈ cs.map (·.2) → s₁.heap.get? b = some tabO := fun b q => by
    obtain ⟨p, hp, e⟩ := List.mem_map.mp q
    exact e ▸ hT p hp
  have inT : ∀ p ∈ cs, p.2 ∈ cs.map (·.2) := fun p hp => List.mem_map.mpr ⟨p, hp, rfl⟩
  have aT : a ∉ cs.map (·.2) := fun q => by
    have z := isT a q
    rw [ha] at z
    exact Data.noConfusion (congrArg Obj.data (Option.some.inj z))
  have main : ∀ H : Hp, (∀ p ∈ cs, H p.2 = some (.tbl #[])) → (∀ b u, H b = some u → (b = a ∧ K.lookup a = none ∧ u = .frz (scrO vs) (.lst (ns.map V.int))) ∨ (b ∈ cs.map (·.2) ∧ u = .tbl #[])) → SqL K H a (ns.map V.int) →
      codeAny (model P w) callerA (.call (.ref fa) ⟨[.ref a], []⟩) (fun r s' => r = .ok (.ret (.bool true)) ∧ OldK s₁.heap s'.heap ∧ s'.os = s₁.os ∧ AllBare s'.gens) s₁ := by
    intro H hH hO sq
    have hok : HOk P w H s₁.heap := fun b u q => by
      rcases hO b u q with ⟨e, _, rfl⟩ | ⟨e, rfl⟩
      · rw [e]
        exact ⟨ha, by rw [List.length_map]; exact hl, vs, _, rv, ha⟩
      · exact isT b e
    have out : ∀ {b : Addr} {o : Obj}, s₁.heap.get? b = some o → o ≠ scrO vs → o ≠ tabO → H b = none := fun {b o} e h1 h2 => by
      cases q : H b with
      | none => rfl
      | some u =>
        rcases hO b u q with ⟨z, _⟩ | ⟨z, _⟩
        · rw [z, ha] at e
          exact absurd (Option.some.inj e).symm h1
        · rw [isT b z] at e
          exact absurd (Option.some.inj e).symm h2
    have dict : ∀ {b : Addr} {o : Obj} {es : Array DictEntry} {ep : Nat}, s₁.heap.get? b = some o → o.data = .dict es ep → H b = none := fun {b o es ep} e d =>
      out e (fun z => by rw [z] at d; exact Data.noConfusion d) (fun z => by rw [z] at d; exact Data.noConfusion d)
    have ns2 : ∀ {b : Addr} {m : Str → Option Value}, s₁.heap.Ns b m → (hidT s₁.heap H).Ns b m := fun {b m} ⟨o, es, ep, z1, z2, z3⟩ => ⟨o, es, ep, hidT_get z1 (dict z1 z2), z2, z3⟩
    have kb : K.In (hidT s₁.heap H) := fun b o z => by
      refine hidT_get (kin b o z) ?_
      cases q : H b with
      | none => rfl
      | some u =>
        rcases hO b u q with ⟨e, e2, _⟩ | ⟨e, _⟩
        · rw [e, e2] at z; cases z
        · obtain ⟨p, hp, ep⟩ := List.mem_map.mp e
          rw [← ep, nT p hp] at z
          cases z
    obtain ⟨mc, lm1, lm2⟩ := hlim
    have md : Mod K mg (hidT s₁.heap H) := ⟨kb, ns2 hns, ⟨mb, ns2 hb, hbb⟩, mc, ns2 lm1, lm2⟩
    have tb : ∀ p ∈ cs, TabB (hidT s₁.heap H) mg p.1 p.2 := fun p hp => by
      have hp2 := hT p hp
      refine ⟨?_, ?_, fun z => ?_⟩
      · obtain ⟨o, us, file, tf, flags, tg, inF, text, tt, e1, r1, r2, r⟩ := C p hp
        exact ⟨o, us, file, tf, flags, tg, inF, text, tt, hidT_get e1 (out e1 (fun z => by rw [z] at r2; exact Data.noConfusion r2) (fun z => by rw [z] at r1; cases r1)), r1, r2, r⟩
      · obtain ⟨bm, ob, b1, b2, b3, b4, b5, b6⟩ := hbm
        refine ⟨bm, ob, b1, b2, fun q => ?_, fun q => ?_, hidT_get b3 (out b3 (fun z => by rw [z] at b6; cases b6) (fun z => by rw [z] at b6; cases b6)), b4, b5, b6⟩
        · obtain ⟨o, es, ep, e, hd, _⟩ := hns
          rw [q, e] at b3
          cases b3
          rw [hd] at b6
          cases b6
        · rw [q, hp2] at b3
          cases b3
          cases b6
      · obtain ⟨o, es, ep, e, hd, _⟩ := hns
        rw [z, hp2] at e
        cases e
        cases hd
    have e0 : Env0 P w K mg (hidT s₁.heap H) callerA [] s₁ H := ⟨rfl, md, fun b o z => of_hidT z, Nat.le_of_eq (hidT_size _ _), trivial, (fun b z => nomatch (show b ∈ ([] : List Addr) from z)), hok, .of_eq hg⟩
    refine codeAny_mono ((F _ kb (ns2 hns) tb).run callerA [] s₁ H ⟨[.ref a], []⟩ [.ref a] [.ref a] _ _ hr rfl e0 (bd s₁ (.ref a)) (.cons rfl .nil) (hsp H hH sq)) fun res s' z => ?_
    match res, z with
    | .error e, z => exact False.elim z
    | .ok .next, z => exact False.elim z
    | .ok .brk, z => exact False.elim z
    | .ok .cont, z => exact False.elim z
    | .ok (.ret u), ⟨v, H', os, bare, un, hok', rv', z⟩ =>
      have ev : v = .bl true := z
      subst ev
      obtain rfl : u = Value.bool true := rv'
      have same : ∀ b o, b ∉ cs.map (·.2) → s₁.heap.get? b = some o → s'.heap.get? b = some o := fun b o nb y => by
        cases q : H b with
        | none => exact un.keep b o y q (fun z => nomatch (show b ∈ ([] : List Addr) from z)) (by simp)
        | some u =>
          rcases hO b u q with ⟨e, _, rfl⟩ | ⟨e, _⟩
          · obtain ⟨y1, _⟩ := hok b _ q
            obtain ⟨y2, _⟩ := hok' b _ (un.frzs b _ _ q)
            rw [y] at y1
            cases y1
            exact y2
          · exact absurd e nb
      have grown : ∀ p ∈ cs, ∃ more : Array Value, s'.heap.get? p.2 = some { cls := .none, data := .fields more } := fun p hp => by
        obtain ⟨more, z⟩ := un.tbls p.2 #[] (hH p hp)
        exact ⟨_, hok' p.2 _ z⟩
      refine ⟨rfl, ⟨fun b o e => ?_, fun b o e => ?_⟩, os, bare⟩
      · by_cases q : b ∈ cs.map (·.2)
        · obtain ⟨p, hp, ep⟩ := List.mem_map.mp q
          obtain ⟨more, hm⟩ := grown p hp
          rw [← ep] at e ⊢
          rw [hT p hp] at e
          cases e
          exact .inr (.inl ⟨((C p hp).tab (hT p hp)).isCodeTable, rfl, #[], more, rfl, by rw [Array.empty_append]; exact hm⟩)
        · exact .inl (same b o q e)
      · by_cases q : b ∈ cs.map (·.2)
        · obtain ⟨p, hp, ep⟩ := List.mem_map.mp q
          obtain ⟨more, hm⟩ := grown p hp
          exact ⟨_, ep ▸ hm⟩
        · exact ⟨o, same b o q e⟩
  by_cases hk : K.lookup a = none
  · refine main (fun b => if b = a then some (.frz (scrO vs) (.lst (ns.map V.int))) else if b ∈ cs.map (·.2) then some (.tbl #[]) else none) (fun p hp => ?_) (fun b u q => ?_) (.inl (.inr ⟨scrO vs, if_pos rfl⟩))
    · have n : ¬ p.2 = a := fun z => aT (z ▸ inT p hp)
      exact (if_neg n).trans (if_pos (inT p hp))
    · by_cases h1 : b = a
      · exact .inl ⟨h1, hk, (Option.some.inj ((if_pos h1).symm.trans q)).symm⟩
      · have q2 := (if_neg h1).symm.trans q
        by_cases h2 : b ∈ cs.map (·.2)
        · exact .inr ⟨h2, (Option.some.inj ((if_pos h2).symm.trans q2)).symm⟩
        · exact nomatch (if_neg h2).symm.trans q2
  · obtain ⟨o, ho⟩ := Option.ne_none_iff_exists'.mp hk
    have z := kin a o ho
    rw [ha] at z
    cases z
    refine main (fun b => if b ∈ cs.map (·.2) then some (.tbl #[]) else none) (fun p hp => if_pos (inT p hp)) (fun b u q => ?_) (Or.inr ⟨_, vs.toArray, _, ho, rfl, rfl, rfl, by rw [List.size_toArray, ln]; exact hl, by simpa using rv⟩)
    by_cases h2 : b ∈ cs.map (·.2)
    · exact .inr ⟨h2, (Option.some.inj ((if_pos h2).symm.trans q)).symm⟩
    · exact nomatch (if_neg h2).symm.trans q
theorem walk_ofGT {l : PySem.W.OpenLaw} {n k : Nat} {q : Program} {loose : List Str} {XP : (Str → Option Value) → Heap → Prop} {YP : World → Heap → Prop} {d : DefRec} {K : Params → PySem.W.Frag} {x : Str}
    (hn : l.most = some n) (hn2 : n ≤ sizeLine) (hdf : d.params.defaults = []) (hr : Room k callerA)
    (hY : ∀ (w : World) (h : Heap), YP w h → (K w.params).In h)
    (F : ∀ (w : World) (mg : Str → Option Value) (fa : Addr) (h : Heap), YP w h → (K w.params).In h → h.Ns mainGlobals mg → mg d.name = some (.ref fa) →
      ∃ (fd : FuncData) (cs : List (Addr × Addr)) (sp : Sp), (∀ p ∈ cs, h.get? p.2 = some tabO) ∧ (∀ p ∈ cs, (K w.params).lookup p.2 = none) ∧ (∀ p ∈ cs, PySem.W.CodeHd h p.1 p.2) ∧ (∀ (s : Shared) (u : Value), BindsTo s fd ⟨[u], []⟩ [(x, u)]) ∧
        (∀ (H : Hp) (a : Addr) (ns : List Int), ns.length ≤ n → (∀ p ∈ cs, H p.2 = some (.tbl #[])) → SqL (K w.params) H a (ns.map V.int) → sp [.ref a] H (fun v _ => v = .bl true) fun _ _ _ => False) ∧
        ∀ base : Heap, (K w.params).In base → base.Ns mainGlobals mg → (∀ p ∈ cs, TabB base mg p.1 p.2) → FnG l.prog w (K w.params) mg base CX0 k fa fd [x] sp) :
    PySem.W.WalkO q loose XP YP l.row.toRowW d [] (fun f vs => PySem.call f vs) := by
  refine Att.attach_callB hn hdf fun w s₀ s₁ mg mb fa o pm cd doc a vs ns G Y ho hd hcd hmg hobj hints hlen hbits hg => ?_
  obtain ⟨fd, cs, sp, hT, nT, C, bd, hsp, hF⟩ := F w mg fa _ Y (hY w _ Y) G.T.g hmg
  exact law_callGT (hY w _ Y) G.T.g G.T.b G.T.builtins G.T.nolimit hg hT nT C G.T.bmain hobj hints (Nat.le_trans hlen hn2) hr hF bd (fun H hH hS => hsp H a ns hlen hH hS)
end My

end
section
set_option maxRecDepth 100000
set_option maxHeartbeats 4000000
open PySem PySem.Spec PyProof.Rows L2 LamX
namespace My
/-! ### the lambdas of a def's text, in order -/
def lamsE : Nat → Expr → List (Arguments × Expr × Scope)
  | 0, _ => []
  | n + 1, .Lambda a b s _ => [(a, b, s)]
  | n + 1, .List es _ => es.flatMap (lamsE n)
  | n + 1, .Tuple es _ _ => es.flatMap (lamsE n)
  | n + 1, .Call f as _ _ => lamsE n f ++ as.flatMap (lamsE n)
  | n + 1, .BinOp l _ r _ => lamsE n l ++ lamsE n r
  | n + 1, .Compare l _ rs _ => lamsE n l ++ rs.flatMap (lamsE n)
  | n + 1, .BoolOp _ vs _ => vs.flatMap (lamsE n)
  | n + 1, .UnaryOp _ o _ => lamsE n o
  | n + 1, .IfExp t b e _ => lamsE n t ++ lamsE n b ++ lamsE n e
  | n + 1, .Subscript v s _ => lamsE n v ++ lamsE n s
  | n + 1, .Attribute v _ _ => lamsE n v
  | n + 1, .ListComp e _ _ _ => lamsE n e
  | _ + 1, _ => []
def lamsS : Nat → Stmt → List (Arguments × Expr × Scope)
  | 0, _ => []
  | n + 1, .FunctionDef _ _ b _ _ _ _ _ _ _ => b.flatMap (lamsS n)
  | n + 1, .Assign _ v _ => lamsE n v
  | n + 1, .Expr v _ => lamsE n v
  | n + 1, .Return (some v) _ => lamsE n v
  | n + 1, .For _ i b _ _ => lamsE n i ++ b.flatMap (lamsS n)
  | n + 1, .While t b _ _ => lamsE n t ++ b.flatMap (lamsS n)
  | n + 1, .If t b o _ => lamsE n t ++ b.flatMap (lamsS n) ++ o.flatMap (lamsS n)
  | _ + 1, _ => []
def lamP (st : Stmt) (i : Nat) : Arguments × Expr × Scope := (lamsS 30 st).getD i (⟨[], [], none, [], [], none, []⟩, .Name (Str.ofString "") ⟨0, 0, 0, 0⟩, defScope st)
abbrev lamD (st : Stmt) (i : Nat) (t : XK → TE) : LamD := ⟨(lamP st i).1, (lamP st i).2.1, (lamP st i).2.2, t⟩
/-- what a def that makes lambdas asks of its code object -/
structure TabD (base : Heap) (mg : Str → Option Value) (fd : FuncData) (c P : Addr) : Prop where
  code : fd.code = .ref c
  tab : TabB base mg c P
abbrev lq (x : Str) : Str := x ++ ".<locals>." ++ "<lambda>"
/-- the law itself, with the tables T -/
def spLawT (K : PySem.W.Frag) (T : List (Addr × Str)) : Sp := fun vs H Q _ => ∃ (a : Addr) (ns : List Int), vs = [.ref a] ∧ SqL K H a (ns.map V.int) ∧ ns.length ≤ 63 ∧ Tabs T H ∧ ∀ H', Q (.bl true) H'
theorem SqL.extN {K : PySem.W.Frag} {H H' : Hp} {a : Addr} {xs : List V} (h : SqL K H a xs) (e : ExtN H H') : SqL K H' a xs := by
  rcases h with (h | ⟨o, h⟩) | h
  · exact .inl (.inl (e _ _ h fun _ z => by cases z))
  · exact .inl (.inr ⟨o, e _ _ h fun _ z => by cases z⟩)
  · exact .inr h
theorem StAt.extN {H H' : Hp} {a : Addr} (h : StAt H a) (e : ExtN H H') : StAt H' a := by
  obtain ⟨x, y, q, r⟩ := h
  exact ⟨x, y, e _ _ q (fun _ z => by cases z), r⟩
end My
namespace My
theorem pe_cast {X : Cx} {e : Expr} {t t' : TE} (p : PE X e t) (h : t = t') : PE X e t' := h ▸ p
end My

end
section
set_option maxRecDepth 100000
open PySem L2 NT LamX
namespace My
/-! ### the promises of the laws that count with bits -/
def bval (bs : List Nat) : Nat := bs.foldl (fun f b => 2 * f + b) 0
theorem bval_snoc (bs : List Nat) (b : Nat) : bval (bs ++ [b]) = 2 * bval bs + b := by simp [bval, List.foldl_append]
/-- what the loop over the bits, the lowest ahead, has found -/
def rval : List Nat → Nat
  | [] => 0
  | b :: r => b + 2 * rval r
theorem bval_rev : ∀ bs : List Nat, bval bs.reverse = rval bs
  | [] => rfl
  | b :: r => by rw [List.reverse_cons, bval_snoc, bval_rev r, rval]; omega
theorem rval_snoc (b : Nat) : ∀ bs : List Nat, rval (bs ++ [b]) = rval bs + 2 ^ bs.length * b
  | [] => by simp [rval]
  | c :: r => by
    rw [List.cons_append, rval, rval_snoc b r, rval, List.length_cons, Nat.pow_succ, Nat.mul_add, Nat.mul_assoc, Nat.mul_comm (2 ^ r.length) (2 * b), Nat.mul_assoc, Nat.mul_comm b]
    omega
def spBits : Sp := fun vs H Q _ => ∃ o : Nat, vs = [.int o] ∧ o < 2 ^ 200 ∧ ∀ p bs H', H p = none → Same H H' → H' p = some (.lst (bs.map fun b : Nat => V.int b)) → bval bs = o → (∀ b ∈ bs, b = 0 ∨ b = 1) → bs.length ≤ 200 → Q (.ref p) H'
def spPowB : Sp := fun vs H Q _ => ∃ (b n : Int) (o : Nat), vs = [.int b, .int o, .int n] ∧ o < 2 ^ 200 ∧ 0 < n ∧ n < 2 ^ 110 ∧ -(2 ^ 120) < b ∧ b < 2 ^ 120 ∧ ∀ H', Same H H' → Q (.int (b ^ o % n)) H'
/-- _law_none: no number between -/
def spNone (K : PySem.W.Frag) : Sp := fun vs H Q _ => ∃ (a : Addr) (lo hi : Int), vs = [.ref a, .int lo, .int hi] ∧ StAt H a ∧ -(10 ^ 50) < lo ∧ lo ≤ hi ∧ hi < 10 ^ 50 ∧ ∀ v H', Kd K H' v → inR v lo hi = false → (∀ b, v = .ref b → b ≠ a ∧ H b = none) → Draw a H H' → Q v H'
/-- _law_same of two plain things that are alike -/
def spSame0 : Sp := fun vs H Q _ => ∃ v, vs = [v, v] ∧ ((∃ i, v = .int i) ∨ (∃ b, v = .bl b) ∨ v = .non ∨ ∃ s, v = .str s) ∧ ∀ H', Same H H' → Q (.bl true) H'
theorem Ty.extN {K : PySem.W.Frag} {H H' : Hp} {v : V} {t : String} (h : Ty K H v t) (e : ExtN H H') : Ty K H' v t := by
  cases h with
  | non => exact .non
  | bl b => exact .bl b
  | int i => exact .int i
  | str x => exact .str x
  | lst h => exact .lst (e _ _ h fun _ z => by cases z)
  | tup h => exact .tup (e _ _ h fun _ z => by cases z)
  | dK h => exact .dK (e _ _ h fun _ z => by cases z)
theorem Kd.extN {K : PySem.W.Frag} {H H' : Hp} {v : V} (h : Kd K H v) (e : ExtN H H') : Kd K H' v := by
  obtain ⟨t, h⟩ := h
  exact ⟨t, h.extN e⟩
theorem Kd.same {K : PySem.W.Frag} {H H' : Hp} {v : V} (h : Kd K H v) (e : Same H H') : Kd K H' v := h.extN (.of fun _ _ q => e _ _ q)
theorem Kd.draw {K : PySem.W.Frag} {H H' : Hp} {a : Addr} {v : V} (h : Kd K H v) (n : ∀ b, v = .ref b → b ≠ a) (D : Draw a H H') : Kd K H' v := by
  obtain ⟨t, h⟩ := h
  cases h with
  | non => exact ⟨_, .non⟩
  | bl b => exact ⟨_, .bl b⟩
  | int i => exact ⟨_, .int i⟩
  | str x => exact ⟨_, .str x⟩
  | lst h => exact ⟨_, .lst (D.keep h (n _ rfl))⟩
  | tup h => exact ⟨_, .tup (D.keep h (n _ rfl))⟩
  | dK h => exact ⟨_, .dK (D.keep h (n _ rfl))⟩
end My
namespace My
theorem isiTL {K : PySem.W.Frag} {H : Hp} {v : V} {t : String} {tp : Addr} {Q : VK} (h : Ty K H v t) (e : H tp = some (.tup [.ty "tuple", .ty "list"])) (q : Q (.bl (t == "tuple" || t == "list")) H) : rIsiT K [v, .ref tp] H Q :=
  ⟨v, tp, _, .type t, [.type "tuple", .type "list"], _, rfl, e, .cons (.ty _) (.cons (.ty _) .nil), h.x, kitAny_cons h.kTup (fun z => kitAny_cons h.kLst (fun y => by
    rw [z, y]; rfl) (fun y => by rw [z, y]; rfl)) (fun z => by rw [z]; rfl), q⟩
end My

end
section
set_option maxRecDepth 100000
open PySem L2 NT LamX
namespace My
theorem tabs_nl {T : List (Addr × Str)} {H H' : Hp} (t : Tabs T H) (e : NL H H') : Tabs T H' := fun p hp => by
  obtain ⟨ps, h1, h2, h3⟩ := t p hp
  refine ⟨ps, e _ _ h1 (fun _ z => by cases z), h2, fun pos cv hc => ?_⟩
  obtain ⟨c, e1, e2⟩ := h3 pos cv hc
  exact ⟨c, e1, e _ _ e2 fun ys z => by unfold CodeO at z; cases z⟩
theorem tabs_same {T : List (Addr × Str)} {H H' : Hp} (t : Tabs T H) (e : Same H H') : Tabs T H' := t.ext fun _ _ q => e _ _ q
theorem isLam_nl {X : Cx} {d : LamD} {f : Addr} {H H' : Hp} (h : IsLam X d f H) (e : NL H H') : IsLam X d f H' := by
  obtain ⟨pm, ctv, c', a, b⟩ := h
  exact ⟨pm, ctv, c', e _ _ a (fun ys z => by unfold LamO at z; cases z), e _ _ b fun ys z => by unfold CodeO at z; cases z⟩
theorem extN_of {H H' : Hp} (s : Same H H') : ExtN H H' := .of fun _ _ q => s _ _ q
/-- an object that was not there is written -/
theorem extN_upd {H H' : Hp} {p : Addr} {o : HO} (e : ExtN H H') (n : H p = none) : ExtN H (upd H' p o) := fun b u q z => by
  rw [upd_ne (ne_of_none q n)]
  exact e b u q z
theorem badRaised {K : PySem.W.Frag} {er : String → Addr} {H : Hp} {Q : VK} {E : XK} {vb vo vn : V} (h1 : Kd K H vb) (h2 : Kd K H vo) (h3 : Kd K H vn) (h : (inR vb (-BIG) BIG && inR vo 0 BIG && inR vn 1 BIG) = false) (e : E (.ref (er "NoNumber")) none H) : spRaised K er [vb, vo, vn] H Q E :=
  ⟨vb, vo, vn, rfl, h1, h2, h3, (fun b o n e1 e2 e3 b1 b2 o1 o2 n1 n2 => by
    rw [e1, e2, e3, inR_ok b1 b2, inR_ok o1 o2, inR_ok n1 n2] at h
    cases h), fun _ => e⟩
theorem dp_strs {K : PySem.W.Frag} {H : Hp} (x : Str) : ∀ n : Nat, DpAll K H (List.replicate n (V.str x)) (List.replicate n (PyData.str x))
  | 0 => .nil
  | n + 1 => .cons (.str x) (dp_strs x n)
end My
namespace My
theorem tLcI_list {K : PySem.W.Frag} {te : L2.St → V → Hp → VK → Prop} {j : Nat} {p : Addr} {xs : List V} {σ : L2.St} {H : Hp} {Q : VK} (hj : σ[j]? = some (some (.ref p))) (hp : SqL K H p xs)
    (h : ∀ D, H D = none → ∃ Pv : Nat → Hp → Prop, Pv 0 (upd H D (.lst [])) ∧ (∀ i H', Pv i H' → SqL K H' p xs) ∧
      (∀ i x H', xs[i]? = some x → Pv i H' → te σ x H' fun y H4 => ∃ acc, H4 D = some (.lst acc) ∧ acc.length < sizeLine ∧ Pv (i + 1) (upd H4 D (.lst (acc ++ [y])))) ∧ ∀ H', Pv xs.length H' → Q (.ref D) H') : tLcI (iList K (tVar j)) te σ H Q := by
  refine ⟨_, hj, p, rfl, ⟨xs, hp⟩, fun D hD => ?_⟩
  obtain ⟨Pv, h0, hl, hs, hd⟩ := h D hD
  exact lcI_list (Qd := fun D H => Q (.ref D) H) Pv h0 hl hs hd
end My
namespace My
theorem iteF' {b : Bool} {A B : Prop} (e : b = false) (h : B) : if b = true then A else B := by rw [if_neg (by rw [e]; exact Bool.false_ne_true)]; exact h
end My
namespace My
theorem dp_ints {K : PySem.W.Frag} {H : Hp} : ∀ ns : List Int, DpAll K H (ns.map V.int) (ns.map PyData.int)
  | [] => .nil
  | n :: ns => .cons (.int n) (dp_ints ns)
end My

end
section
set_option maxRecDepth 100000
open PySem L2 NT LamX
namespace My
/-! ### lists of pairs of ints -/
def ipD (q : Int × Int) : PyData := .tuple [.int q.1, .int q.2]
theorem ip_inv {K : PySem.W.Frag} {H : Hp} {v : V} {q : Int × Int} (h : Dp K H v (ipD q)) : ∃ a, v = .ref a ∧ SqT K H a [.int q.1, .int q.2] := by
  cases h with
  | tup h k =>
    cases k with
    | cons h1 k1 =>
      cases k1 with
      | cons h2 k2 =>
        cases k2
        cases h1; cases h2
        exact ⟨_, rfl, h⟩
theorem ip_dp {K : PySem.W.Frag} {H : Hp} {a : Addr} {q : Int × Int} (h : SqT K H a [.int q.1, .int q.2]) : Dp K H (.ref a) (ipD q) := .tup h (.cons (.int _) (.cons (.int _) .nil))
/-- for first, second in a list of pairs -/
theorem forPairs {K : PySem.W.Frag} {l : List (Int × Int)} {p : Addr} {xs : List V} {g : TG} {tb : TS} {D : Ends} {σ : L2.St} {H : Hp} (hp : SqL K H p xs) (dx : DpAll K H xs (l.map ipD)) (Pv : Nat → L2.St → Hp → Prop) (h0 : Pv 0 σ H) (hsm : ∀ i σ H', Pv i σ H' → Same H H')
    (hs : ∀ (i : Nat) (q : Int × Int) (b : Addr) σ H', l[i]? = some q → Pv i σ H' → SqT K H' b [.int q.1, .int q.2] → g (.ref b) σ H' fun σ2 H2 => tb { D with nx := Pv (i + 1), ct := Pv (i + 1), bk := D.nx } σ2 H2) (hd : ∀ σ H, Pv l.length σ H → D.nx σ H) :
    ∃ W : Nat → Nat → L2.St → Hp → Prop, (∃ m, W 0 m σ H) ∧ ∀ i m σ H, W i m σ H → ((Itl K p).stop i H ∧ D.nx σ H) ∨ ((Itl K p).go i H ∧ ∃ N : L2.St → Hp → Prop, (∀ σ' H', N σ' H' → ∃ m', m' < m ∧ W (i + 1) m' σ' H') ∧ ∀ x H', (Itl K p).yld i H x H' → g x σ H' fun σ2 H2 => tb { D with nx := N, ct := N, bk := D.nx } σ2 H2) := by
  have hlen : xs.length = l.length := by rw [dx.len, List.length_map]
  refine for_list (xs := xs) Pv h0 (fun i σ H' _ h => (hsm i σ H' h).seq hp) (fun i x σ H' hx h => ?_) (fun σ H' h => hd σ H' (hlen ▸ h))
  obtain ⟨d, hd1, hd2⟩ := dx.get hx
  rw [List.getElem?_map] at hd1
  cases hq : l[i]? with
  | none => rw [hq] at hd1; cases hd1
  | some q =>
    rw [hq] at hd1
    have e : ipD q = d := Option.some.inj hd1
    subst e
    obtain ⟨b, rfl, hb⟩ := ip_inv hd2
    exact hs i q b σ H' hq h (seqT_same (hsm i σ H' h) hb)
end My
namespace My
theorem mulB {c X B m : Int} (h0 : 0 ≤ c) (h1 : c ≤ m) (hB : 0 ≤ B) (h2 : -B ≤ X) (h3 : X ≤ B) : -(m * B) ≤ c * X ∧ c * X ≤ m * B := by
  have a1 : c * X ≤ c * B := Int.mul_le_mul_of_nonneg_left h3 h0
  have a2 : c * B ≤ m * B := Int.mul_le_mul_of_nonneg_right h1 hB
  have a3 : c * (-B) ≤ c * X := Int.mul_le_mul_of_nonneg_left h2 h0
  have a4 : c * (-B) = -(c * B) := Int.mul_neg _ _
  omega
end My

end
section
set_option maxRecDepth 100000
open PySem L2 LamX
namespace My
/-! ### the data layer: values without addresses -/
inductive Dv where
  | non | bl (b : Bool) | int (i : Int) | str (x : Str)
  | lst (l : List Dv) | tup (l : List Dv)
  | dct (ks : List Key) (vs : List Dv)
  | scr (ns : List Int)
  | lam (i : Nat)
inductive Er where
  | pl (n : String)
  | great (a b : Int)
/-- an argument: the state of draws, or data -/
inductive Ar where
  | st
  | d (x : Dv)
/-- a slot: not known, data, a list of one's own, the state -/
inductive Sl where
  | any
  | val (d : Dv)
  | own (l : List Dv)
  | stt
mutual
inductive Rp (K : PySem.W.Frag) (LP : Nat → Addr → Hp → Prop) (F : Hp) : V → Dv → Prop
  | non : Rp K LP F .non .non
  | bl (b : Bool) : Rp K LP F (.bl b) (.bl b)
  | int (i : Int) : Rp K LP F (.int i) (.int i)
  | str (x : Str) : Rp K LP F (.str x) (.str x)
  | lst {p : Addr} {xs : List V} {ds : List Dv} (h : F p = some (.lst xs)) (k : RpA K LP F xs ds) : Rp K LP F (.ref p) (.lst ds)
  | tup {p : Addr} {xs : List V} {ds : List Dv} (h : SqT K F p xs) (k : RpA K LP F xs ds) : Rp K LP F (.ref p) (.tup ds)
  | dct {p : Addr} {ks : List Key} {xs : List V} {ds : List Dv} (h : F p = some (.dK (ks.zip xs))) (e : xs.length = ks.length) (k : RpA K LP F xs ds) : Rp K LP F (.ref p) (.dct ks ds)
  | scr {p : Addr} {ns : List Int} (h : SqL K F p (ns.map V.int)) : Rp K LP F (.ref p) (.scr ns)
  | lam {p : Addr} {i : Nat} (h : LP i p F) : Rp K LP F (.ref p) (.lam i)
inductive RpA (K : PySem.W.Frag) (LP : Nat → Addr → Hp → Prop) (F : Hp) : List V → List Dv → Prop
  | nil : RpA K LP F [] []
  | cons {v : V} {d : Dv} {vs : List V} {ds : List Dv} (h : Rp K LP F v d) (k : RpA K LP F vs ds) : RpA K LP F (v :: vs) (d :: ds)
end
def LPs (LP : Nat → Addr → Hp → Prop) : Prop := ∀ i f F F', Same F F' → LP i f F → LP i f F'
section
variable {K : PySem.W.Frag} {LP : Nat → Addr → Hp → Prop}
mutual
theorem Rp.ext (ls : LPs LP) {F F' : Hp} (e : Same F F') : ∀ {d : Dv} {v : V}, Rp K LP F v d → Rp K LP F' v d
  | _, _, .non => .non
  | _, _, .bl b => .bl b
  | _, _, .int i => .int i
  | _, _, .str x => .str x
  | _, _, .lst h k => .lst (e _ _ h) (RpA.ext ls e k)
  | _, _, .tup h k => .tup (seqT_same e h) (RpA.ext ls e k)
  | _, _, .dct h l k => .dct (e _ _ h) l (RpA.ext ls e k)
  | _, _, .scr h => .scr (e.seq h)
  | _, _, .lam h => .lam (ls _ _ _ _ e h)
theorem RpA.ext (ls : LPs LP) {F F' : Hp} (e : Same F F') : ∀ {ds : List Dv} {vs : List V}, RpA K LP F vs ds → RpA K LP F' vs ds
  | _, _, .nil => .nil
  | _, _, .cons h k => .cons (Rp.ext ls e h) (RpA.ext ls e k)
end
theorem RpA.len {F : Hp} : ∀ {vs : List V} {ds : List Dv}, RpA K LP F vs ds → vs.length = ds.length
  | _, _, .nil => rfl
  | _, _, .cons _ k => by rw [List.length_cons, List.length_cons, RpA.len k]
theorem RpA.get {F : Hp} : ∀ {vs : List V} {ds : List Dv}, RpA K LP F vs ds → ∀ {i : Nat} {d : Dv}, ds[i]? = some d → ∃ v, vs[i]? = some v ∧ Rp K LP F v d
  | _, _, .nil, i, v, h => by simp at h
  | _, _, .cons h k, 0, v, e => by
    simp only [List.getElem?_cons_zero, Option.some.injEq] at e
    subst e
    exact ⟨_, rfl, h⟩
  | _, _, .cons h k, i + 1, v, e => by
    simp only [List.getElem?_cons_succ] at e ⊢
    exact RpA.get k e
theorem RpA.get' {F : Hp} : ∀ {vs : List V} {ds : List Dv}, RpA K LP F vs ds → ∀ {i : Nat} {v : V}, vs[i]? = some v → ∃ d, ds[i]? = some d ∧ Rp K LP F v d
  | _, _, .nil, i, v, h => by simp at h
  | _, _, .cons h k, 0, v, e => by
    simp only [List.getElem?_cons_zero, Option.some.injEq] at e
    subst e
    exact ⟨_, rfl, h⟩
  | _, _, .cons h k, i + 1, v, e => by
    simp only [List.getElem?_cons_succ] at e ⊢
    exact RpA.get' k e
theorem RpA.app {F : Hp} : ∀ {vs : List V} {ds : List Dv} {ws : List V} {es : List Dv}, RpA K LP F vs ds → RpA K LP F ws es → RpA K LP F (vs ++ ws) (ds ++ es)
  | _, _, _, _, .nil, k => k
  | _, _, _, _, .cons h k, k2 => .cons h (RpA.app k k2)
theorem RpA.snoc {F : Hp} {vs : List V} {ds : List Dv} {v : V} {d : Dv} (k : RpA K LP F vs ds) (h : Rp K LP F v d) : RpA K LP F (vs ++ [v]) (ds ++ [d]) := k.app (.cons h .nil)
theorem RpA.drop {F : Hp} : ∀ {n : Nat} {vs : List V} {ds : List Dv}, RpA K LP F vs ds → RpA K LP F (vs.drop n) (ds.drop n)
  | 0, _, _, k => k
  | n + 1, _, _, .nil => by simp only [List.drop_nil]; exact .nil
  | n + 1, _, _, .cons h k => by simp only [List.drop_succ_cons]; exact RpA.drop k
theorem RpA.take {F : Hp} : ∀ {n : Nat} {vs : List V} {ds : List Dv}, RpA K LP F vs ds → RpA K LP F (vs.take n) (ds.take n)
  | 0, _, _, k => by simp only [List.take_zero]; exact .nil
  | n + 1, _, _, .nil => by simp only [List.take_nil]; exact .nil
  | n + 1, _, _, .cons h k => by simp only [List.take_succ_cons]; exact .cons h (RpA.take k)
theorem RpA.set {F : Hp} {v : V} {d : Dv} (h2 : Rp K LP F v d) : ∀ {n : Nat} {vs : List V} {ds : List Dv}, RpA K LP F vs ds → RpA K LP F (vs.set n v) (ds.set n d)
  | 0, _, _, .nil => .nil
  | 0, _, _, .cons h k => .cons h2 k
  | n + 1, _, _, .nil => .nil
  | n + 1, _, _, .cons h k => .cons h (RpA.set h2 k)
theorem RpA.rev {F : Hp} : ∀ {vs : List V} {ds : List Dv}, RpA K LP F vs ds → RpA K LP F vs.reverse ds.reverse
  | _, _, .nil => .nil
  | _, _, .cons h k => by rw [List.reverse_cons, List.reverse_cons]; exact (RpA.rev k).snoc h
theorem RpA.dropLast {F : Hp} {vs : List V} {ds : List Dv} (k : RpA K LP F vs ds) : RpA K LP F vs.dropLast ds.dropLast := by
  rw [List.dropLast_eq_take, List.dropLast_eq_take, k.len]; exact k.take
theorem RpA.mem {F : Hp} : ∀ {vs : List V} {ds : List Dv}, RpA K LP F vs ds → ∀ {v : V}, v ∈ vs → ∃ d, d ∈ ds ∧ Rp K LP F v d
  | _, _, .nil, v, h => by simp at h
  | _, _, .cons h k, v, e => by
    rcases List.mem_cons.mp e with rfl | e
    · exact ⟨_, List.mem_cons_self, h⟩
    · obtain ⟨d, m, r⟩ := RpA.mem k e
      exact ⟨d, List.mem_cons_of_mem _ m, r⟩
theorem RpA.repl {F : Hp} {vs : List V} {ds : List Dv} (k : RpA K LP F vs ds) : ∀ n : Nat, RpA K LP F (List.replicate n vs).flatten (List.replicate n ds).flatten
  | 0 => .nil
  | n + 1 => by
    rw [List.replicate_succ, List.replicate_succ, List.flatten_cons, List.flatten_cons]
    exact k.app (RpA.repl k n)
theorem RpA.ints {F : Hp} : ∀ {ns : List Int} {ds : List Dv}, RpA K LP F (ns.map V.int) ds → ds = ns.map Dv.int
  | [], _, .nil => rfl
  | n :: ns, _, .cons h k => by cases h; rw [RpA.ints k]; rfl
theorem RpA.toInts {F : Hp} : ∀ {ns : List Int} {vs : List V}, RpA K LP F vs (ns.map Dv.int) → vs = ns.map V.int
  | [], _, .nil => rfl
  | n :: ns, _, .cons h k => by cases h; rw [RpA.toInts k]; rfl
theorem RpA.toBls {F : Hp} : ∀ {ns : List Bool} {vs : List V}, RpA K LP F vs (ns.map Dv.bl) → vs = ns.map V.bl
  | [], _, .nil => rfl
  | n :: ns, _, .cons h k => by cases h; rw [RpA.toBls k]; rfl
theorem RpA.toStrs {F : Hp} : ∀ {ns : List Str} {vs : List V}, RpA K LP F vs (ns.map Dv.str) → vs = ns.map V.str
  | [], _, .nil => rfl
  | n :: ns, _, .cons h k => by cases h; rw [RpA.toStrs k]; rfl
theorem RpA.ofInts {F : Hp} : ∀ (ns : List Int), RpA K LP F (ns.map V.int) (ns.map Dv.int)
  | [] => .nil
  | n :: ns => .cons (.int n) (RpA.ofInts ns)
theorem Rp.int_inv {F : Hp} {v : V} {i : Int} (h : Rp K LP F v (.int i)) : v = .int i := by cases h; rfl
theorem Rp.bl_inv {F : Hp} {v : V} {i : Bool} (h : Rp K LP F v (.bl i)) : v = .bl i := by cases h; rfl
theorem Rp.str_inv {F : Hp} {v : V} {i : Str} (h : Rp K LP F v (.str i)) : v = .str i := by cases h; rfl
theorem Rp.non_inv {F : Hp} {v : V} (h : Rp K LP F v .non) : v = .non := by cases h; rfl
theorem Rp.lst_inv {F : Hp} {v : V} {ds : List Dv} (h : Rp K LP F v (.lst ds)) : ∃ p xs, v = .ref p ∧ F p = some (.lst xs) ∧ RpA K LP F xs ds := by cases h with | lst h k => exact ⟨_, _, rfl, h, k⟩
theorem Rp.tup_inv {F : Hp} {v : V} {ds : List Dv} (h : Rp K LP F v (.tup ds)) : ∃ p xs, v = .ref p ∧ SqT K F p xs ∧ RpA K LP F xs ds := by cases h with | tup h k => exact ⟨_, _, rfl, h, k⟩
theorem Rp.scr_inv {F : Hp} {v : V} {ds : List Int} (h : Rp K LP F v (.scr ds)) : ∃ p, v = .ref p ∧ SqL K F p (ds.map V.int) := by cases h with | scr h => exact ⟨_, rfl, h⟩
end
/-! ### the heap's parts -/
/-- the frozen part F of H, the state at c, the tables -/
structure Bas (T : List (Addr × Str)) (c : Option Addr) (H F : Hp) : Prop where
  sm : Same F H
  nt : ∀ b ps, F b ≠ some (.tbl ps)
  st : ∀ p, c = some p → StAt H p ∧ F p = none
  tb : Tabs T H
def mutO : HO → Bool
  | .lst _ | .dK _ | .dT _ | .set _ _ | .ins _ _ _ => true
  | _ => false
theorem mut_nt {o : HO} (h : mutO o = true) : ∀ ps, o ≠ .tbl ps := fun ps z => by subst z; cases h
/-- what a piece of code may do: new things, the state at a, the tables; of the new things F' has some -/
structure Ext (a : Option Addr) (H F H' F' : Hp) : Prop where
  sm : Same F F'
  nw : ∀ b o, H b = some o → mutO o = true → a ≠ some b → F b = none → F' b = none
  fr : ∀ b o, H b = some o → a ≠ some b → (∀ ps, o ≠ .tbl ps) → H' b = some o
  tb : ∀ b o, H b = some o → ∃ o', H' b = some o'
theorem Ext.refl (a : Option Addr) (H F : Hp) : Ext a H F H F := ⟨Same.refl F, fun _ _ _ _ _ h => h, fun _ _ h _ _ => h, fun _ _ h => ⟨_, h⟩⟩
theorem Ext.trans {a : Option Addr} {H F H1 F1 H2 F2 : Hp} (x : Ext a H F H1 F1) (y : Ext a H1 F1 H2 F2) : Ext a H F H2 F2 :=
  ⟨x.sm.trans y.sm, fun b o h m n nF => y.nw b o (x.fr b o h n (mut_nt m)) m n (x.nw b o h m n nF), fun b o h n t => y.fr b o (x.fr b o h n t) n t, fun b o h => by
    obtain ⟨o', h'⟩ := x.tb b o h
    exact y.tb b o' h'⟩
/-- with the state at c, that is new or the caller's -/
theorem Ext.trans' {a c : Option Addr} {H F H1 F1 H2 F2 : Hp} (x : Ext a H F H1 F1) (y : Ext c H1 F1 H2 F2) (hc : c = a ∨ ∀ p, c = some p → H p = none) : Ext a H F H2 F2 := by
  have nc : ∀ b o, H b = some o → a ≠ some b → c ≠ some b := fun b o h n z => by
    rcases hc with rfl | hc
    · exact n z
    · rw [hc b z] at h; cases h
  exact ⟨x.sm.trans y.sm, fun b o h m n nF => y.nw b o (x.fr b o h n (mut_nt m)) m (nc b o h n) (x.nw b o h m n nF), fun b o h n t => y.fr b o (x.fr b o h n t) (nc b o h n) t, fun b o h => by
    obtain ⟨o', h'⟩ := x.tb b o h
    exact y.tb b o' h'⟩
theorem Ext.same {a : Option Addr} {H F H' : Hp} (s : Same H H') : Ext a H F H' F := ⟨Same.refl F, fun _ _ _ _ _ h => h, fun b o h _ _ => s b o h, fun b o h => ⟨o, s b o h⟩⟩
theorem tabs_keep {T : List (Addr × Str)} {H H' : Hp} (t : Tabs T H) (s : Same H H') : Tabs T H' := t.ext fun b o h => s b o h
/-! ### what stands in the slots -/
structure Zx where
  K : PySem.W.Frag
  LP : Nat → Addr → Hp → Prop
  T : List (Addr × Str)
  a : Option Addr
  B : Hp
  F0 : Hp
  lp : LPs LP
abbrev Zx.R (Z : Zx) (F : Hp) : V → Dv → Prop := Rp Z.K Z.LP F
abbrev Zx.RA (Z : Zx) (F : Hp) : List V → List Dv → Prop := RpA Z.K Z.LP F
/-- a list of one's own at p -/
structure Own (Z : Zx) (c : Option Addr) (H F : Hp) (p : Addr) (l : List Dv) : Prop where
  ex : ∃ vs, H p = some (.lst vs) ∧ Z.RA F vs l
  nf : F p = none
  nb : Z.B p = none
  nc : c ≠ some p
def SlR (Z : Zx) (c : Option Addr) (H F : Hp) (o : Option V) : Sl → Prop
  | .any => True
  | .val d => ∃ v, o = some v ∧ Z.R F v d
  | .own l => ∃ p, o = some (.ref p) ∧ Own Z c H F p l
  | .stt => ∃ p, o = some (.ref p) ∧ c = some p
structure Rep (Z : Zx) (c : Option Addr) (H F : Hp) (σ : L2.St) (es : List Sl) : Prop where
  bas : Bas Z.T c H F
  ext : Ext Z.a Z.B Z.F0 H F
  cn : c = Z.a ∨ (Z.a = none ∧ ∀ p, c = some p → Z.B p = none)
  len : σ.length = es.length
  sl : ∀ (i : Nat) (e : Sl) (o : Option V), es[i]? = some e → σ[i]? = some o → SlR Z c H F o e
  ds : ∀ (i j : Nat) (p : Addr) (l l' : List Dv), i ≠ j → es[i]? = some (.own l) → es[j]? = some (.own l') → σ[i]? = some (some (.ref p)) → σ[j]? = some (some (.ref p)) → False
section
variable {Z : Zx} {c : Option Addr} {H F : Hp} {σ : L2.St} {es : List Sl}
theorem Rep.at_ (r : Rep Z c H F σ es) {i : Nat} {e : Sl} (h : es[i]? = some e) : ∃ o, σ[i]? = some o ∧ SlR Z c H F o e := by
  have hi : i < σ.length := by rw [r.len]; exact (List.getElem?_eq_some_iff.mp h).1
  exact ⟨σ[i], List.getElem?_eq_getElem hi, r.sl i e _ h (List.getElem?_eq_getElem hi)⟩
/-- a name that holds data -/
theorem Rep.val (r : Rep Z c H F σ es) {i : Nat} {d : Dv} (h : es[i]? = some (.val d)) : ∃ v, σ[i]? = some (some v) ∧ Z.R F v d := by
  obtain ⟨o, h1, v, rfl, h2⟩ := r.at_ h
  exact ⟨v, h1, h2⟩
theorem Rep.own (r : Rep Z c H F σ es) {i : Nat} {l : List Dv} (h : es[i]? = some (.own l)) : ∃ p, σ[i]? = some (some (.ref p)) ∧ Own Z c H F p l := by
  obtain ⟨o, h1, p, rfl, h2⟩ := r.at_ h
  exact ⟨p, h1, h2⟩
theorem Own.ext {H' F' : Hp} (hs : ∀ p vs, H p = some (.lst vs) → Z.B p = none → c ≠ some p → H' p = some (.lst vs)) (hn : ∀ p vs, H p = some (.lst vs) → c ≠ some p → F p = none → F' p = none) (hf : Same F F') {p : Addr} {l : List Dv} (h : Own Z c H F p l) : Own Z c H' F' p l := by
  obtain ⟨⟨vs, k1, k2⟩, k3, k4, k5⟩ := h
  exact ⟨⟨vs, hs p vs k1 k4 k5, k2.ext Z.lp hf⟩, hn p vs k1 k5 k3, k4, k5⟩
theorem SlR.ext {H' F' : Hp} (hs : ∀ p vs, H p = some (.lst vs) → Z.B p = none → c ≠ some p → H' p = some (.lst vs)) (hn : ∀ p vs, H p = some (.lst vs) → c ≠ some p → F p = none → F' p = none) (hf : Same F F') {o : Option V} {e : Sl} (h : SlR Z c H F o e) : SlR Z c H' F' o e := by
  cases e with
  | any => trivial
  | val d =>
    obtain ⟨v, e, k⟩ := h
    exact ⟨v, e, k.ext Z.lp hf⟩
  | own l =>
    obtain ⟨p, e, k⟩ := h
    exact ⟨p, e, k.ext hs hn hf⟩
  | stt => exact h
theorem Rep.ext' (r : Rep Z c H F σ es) {H' F' : Hp} (x : Ext c H F H' F') : Ext Z.a Z.B Z.F0 H' F' := r.ext.trans' x (r.cn.elim .inl fun z => .inr z.2)
/-- behind a piece of code -/
theorem Rep.step (r : Rep Z c H F σ es) {H' F' : Hp} (b : Bas Z.T c H' F') (x : Ext c H F H' F') : Rep Z c H' F' σ es :=
  ⟨b, r.ext' x, r.cn, r.len, fun i e o h1 h2 => (r.sl i e o h1 h2).ext (fun p vs h _ n => x.fr p _ h n (fun _ z => by cases z)) (fun p vs h n nF => x.nw p _ h rfl n nF) x.sm, r.ds⟩
/-- things are made that are not told of -/
theorem Rep.same (r : Rep Z c H F σ es) {H' : Hp} (s : Same H H') : Rep Z c H' F σ es :=
  r.step ⟨r.bas.sm.trans s, r.bas.nt, fun p e => ⟨(r.bas.st p e).1.ext s, (r.bas.st p e).2⟩, tabs_keep r.bas.tb s⟩ (.same s)
theorem F_none (r : Rep Z c H F σ es) {p : Addr} (h : H p = none) : F p = none := by
  cases q : F p with
  | none => rfl
  | some o => rw [r.bas.sm _ _ q] at h; cases h
theorem B_none (r : Rep Z c H F σ es) {p : Addr} (h : H p = none) : Z.B p = none := by
  cases q : Z.B p with
  | none => rfl
  | some o => obtain ⟨o', z⟩ := r.ext.tb _ _ q; rw [z] at h; cases h
theorem same_upd {G : Hp} {p : Addr} {o : HO} (h : G p = none) : Same G (upd G p o) := fun b u q => by rw [upd_ne (ne_of_none q h)]; exact q
theorem c_ne (r : Rep Z c H F σ es) {p : Addr} (h : H p = none) : c ≠ some p := fun e => by
  obtain ⟨⟨u, w, q, _⟩, _⟩ := r.bas.st p e
  rw [h] at q; cases q
/-- a new thing, frozen -/
theorem Rep.frz (r : Rep Z c H F σ es) {p : Addr} {o : HO} (h : H p = none) (ht : ∀ ps, o ≠ .tbl ps) : Rep Z c (upd H p o) (upd F p o) σ es := by
  have hF := F_none r h
  refine r.step ⟨fun b u q => ?_, fun b ps q => ?_, fun q e => ⟨(r.bas.st q e).1.ext (same_upd h), ?_⟩, tabs_keep r.bas.tb (same_upd h)⟩ ⟨same_upd hF, fun b u q _ _ n => ?_, fun b u q _ _ => same_upd h b u q, fun b u q => ⟨_, same_upd h b u q⟩⟩
  · by_cases e : b = p
    · subst e; rw [upd_same] at q ⊢; exact q
    · rw [upd_ne e] at q ⊢; exact r.bas.sm b u q
  · by_cases e : b = p
    · subst e; rw [upd_same] at q; exact ht ps (Option.some.inj q)
    · rw [upd_ne e] at q; exact r.bas.nt b ps q
  · rw [upd_ne (fun (z : q = p) => c_ne r h (z ▸ e))]; exact (r.bas.st q e).2
  · rw [upd_ne (ne_of_none q h)]; exact n
/-- a list of one's own that is held in no slot -/
structure New (Z : Zx) (c : Option Addr) (H F : Hp) (σ : L2.St) (es : List Sl) (p : Addr) (l : List Dv) : Prop where
  own : Own Z c H F p l
  df : ∀ (i : Nat) (l' : List Dv), es[i]? = some (.own l') → σ[i]? ≠ some (some (.ref p))
theorem Rep.new (r : Rep Z c H F σ es) {p : Addr} {vs : List V} {l : List Dv} (h : H p = none) (k : Z.RA F vs l) : Rep Z c (upd H p (.lst vs)) F σ es ∧ New Z c (upd H p (.lst vs)) F σ es p l := by
  refine ⟨r.same (same_upd h), ⟨⟨vs, upd_same, k⟩, F_none r h, B_none r h, c_ne r h⟩, fun i l' e z => ?_⟩
  obtain ⟨q, e1, o⟩ := r.own e
  rw [z] at e1
  cases e1
  obtain ⟨ws, e2, _⟩ := o.ex
  rw [h] at e2; cases e2
theorem getset {α : Type} {l : List α} {i j : Nat} {x y : α} (h : (l.set i x)[j]? = some y) : (j = i ∧ y = x) ∨ (j ≠ i ∧ l[j]? = some y) := by
  by_cases e : i = j
  · subst e
    have hl : i < l.length := by
      have := (List.getElem?_eq_some_iff.mp h).1
      rwa [List.length_set] at this
    rw [List.getElem?_set_self hl] at h
    exact .inl ⟨rfl, (Option.some.inj h).symm⟩
  · rw [List.getElem?_set_ne e] at h
    exact .inr ⟨fun z => e z.symm, h⟩
/-- name = data -/
theorem Rep.setVal (r : Rep Z c H F σ es) {i : Nat} {v : V} {d : Dv} (h : Z.R F v d) : Rep Z c H F (σ.set i (some v)) (es.set i (.val d)) := by
  refine ⟨r.bas, r.ext, r.cn, by rw [List.length_set, List.length_set, r.len], fun j e o h1 h2 => ?_, fun j k p l l' n h1 h2 h3 h4 => ?_⟩
  · rcases getset h1 with ⟨rfl, rfl⟩ | ⟨n, h1⟩
    · rcases getset h2 with ⟨_, rfl⟩ | ⟨n, _⟩
      · exact ⟨v, rfl, h⟩
      · exact absurd rfl n
    · rcases getset h2 with ⟨e, _⟩ | ⟨_, h2⟩
      · exact absurd e n
      · exact r.sl j e o h1 h2
  · rcases getset h1 with ⟨_, z⟩ | ⟨n1, h1⟩
    · cases z
    rcases getset h2 with ⟨_, z⟩ | ⟨n2, h2⟩
    · cases z
    rw [List.getElem?_set_ne (Ne.symm n1)] at h3
    rw [List.getElem?_set_ne (Ne.symm n2)] at h4
    exact r.ds j k p l l' n h1 h2 h3 h4
theorem Rep.setAny (r : Rep Z c H F σ es) {i : Nat} {o : Option V} : Rep Z c H F (σ.set i o) (es.set i .any) := by
  refine ⟨r.bas, r.ext, r.cn, by rw [List.length_set, List.length_set, r.len], fun j e o h1 h2 => ?_, fun j k p l l' n h1 h2 h3 h4 => ?_⟩
  · rcases getset h1 with ⟨rfl, rfl⟩ | ⟨n, h1⟩
    · trivial
    · rcases getset h2 with ⟨e, _⟩ | ⟨_, h2⟩
      · exact absurd e n
      · exact r.sl j e o h1 h2
  · rcases getset h1 with ⟨_, z⟩ | ⟨n1, h1⟩
    · cases z
    rcases getset h2 with ⟨_, z⟩ | ⟨n2, h2⟩
    · cases z
    rw [List.getElem?_set_ne (Ne.symm n1)] at h3
    rw [List.getElem?_set_ne (Ne.symm n2)] at h4
    exact r.ds j k p l l' n h1 h2 h3 h4
/-- name = a list of one's own -/
theorem Rep.setOwn (r : Rep Z c H F σ es) {i : Nat} {p : Addr} {l : List Dv} (h : New Z c H F σ es p l) : Rep Z c H F (σ.set i (some (.ref p))) (es.set i (.own l)) := by
  refine ⟨r.bas, r.ext, r.cn, by rw [List.length_set, List.length_set, r.len], fun j e o h1 h2 => ?_, fun j k q l1 l2 n h1 h2 h3 h4 => ?_⟩
  · rcases getset h1 with ⟨rfl, rfl⟩ | ⟨n, h1⟩
    · rcases getset h2 with ⟨_, rfl⟩ | ⟨n, _⟩
      · exact ⟨p, rfl, h.own⟩
      · exact absurd rfl n
    · rcases getset h2 with ⟨e, _⟩ | ⟨_, h2⟩
      · exact absurd e n
      · exact r.sl j e o h1 h2
  · rcases getset h1 with ⟨e1, z⟩ | ⟨n1, h1⟩
    · rcases getset h2 with ⟨e2, z⟩ | ⟨n2, h2⟩
      · exact n (e1.trans e2.symm)
      rcases getset h3 with ⟨_, w⟩ | ⟨n3, _⟩
      · cases w
        rw [List.getElem?_set_ne (Ne.symm n2)] at h4
        exact h.df k l2 h2 h4
      · exact n3 e1
    · rcases getset h2 with ⟨e2, z⟩ | ⟨n2, h2⟩
      · rcases getset h4 with ⟨_, w⟩ | ⟨n3, _⟩
        · cases w
          rw [List.getElem?_set_ne (Ne.symm n1)] at h3
          exact h.df j l1 h1 h3
        · exact n3 e2
      rw [List.getElem?_set_ne (Ne.symm n1)] at h3
      rw [List.getElem?_set_ne (Ne.symm n2)] at h4
      exact r.ds j k q l1 l2 n h1 h2 h3 h4
/-- the own list in slot i is changed -/
theorem Rep.updOwn (r : Rep Z c H F σ es) {i : Nat} {p : Addr} {l l2 : List Dv} {vs : List V} (he : es[i]? = some (.own l)) (hs : σ[i]? = some (some (.ref p))) (k : Z.RA F vs l2) : Rep Z c (upd H p (.lst vs)) F σ (es.set i (.own l2)) := by
  obtain ⟨q, e1, o⟩ := r.own he
  rw [hs] at e1
  cases e1
  have up : ∀ b, b ≠ p → upd H p (.lst vs) b = H b := fun b n => upd_ne n
  have ne : ∀ {b : Addr} {u : HO}, F b = some u → b ≠ p := fun q => ne_of_none q o.nf
  refine ⟨⟨fun b u q => by rw [up b (ne q)]; exact r.bas.sm b u q, r.bas.nt, fun q e => ?_, ?_⟩, ⟨r.ext.sm, r.ext.nw, fun b u q n t => ?_, fun b u q => ?_⟩, r.cn, by rw [List.length_set]; exact r.len, fun j e o' h1 h2 => ?_, fun j k q l1 l2 n h1 h2 h3 h4 => ?_⟩
  · obtain ⟨⟨x, y, z, w⟩, nf⟩ := r.bas.st q e
    have n : q ≠ p := fun z => o.nc (z ▸ e)
    exact ⟨⟨x, y, by rw [up q n]; exact z, w⟩, nf⟩
  · obtain ⟨ws, e3, _⟩ := o.ex
    exact tabs_nl r.bas.tb (NL.lst e3 _)
  · rw [up b (ne_of_none q o.nb)]; exact r.ext.fr b u q n t
  · obtain ⟨o', z⟩ := r.ext.tb b u q
    exact ⟨o', by rw [up b (ne_of_none q o.nb)]; exact z⟩
  · rcases getset h1 with ⟨rfl, rfl⟩ | ⟨n, h1⟩
    · rw [hs] at h2
      cases h2
      exact ⟨p, rfl, ⟨vs, upd_same, k⟩, o.nf, o.nb, o.nc⟩
    · cases e with
      | own l3 =>
        obtain ⟨q, e1, o2⟩ := r.sl j _ _ h1 h2
        obtain ⟨ws, z1, z2⟩ := o2.ex
        have n2 : q ≠ p := fun z => r.ds i j p l l3 (Ne.symm n) he h1 hs (by rw [h2, e1, z])
        exact ⟨q, e1, ⟨ws, by rw [up q n2]; exact z1, z2⟩, o2.nf, o2.nb, o2.nc⟩
      | any => trivial
      | val d => exact r.sl j _ _ h1 h2
      | stt => exact r.sl j _ _ h1 h2
  · have w : ∀ {k : Nat} {l3 : List Dv}, (es.set i (.own l2))[k]? = some (.own l3) → ∃ l4, es[k]? = some (.own l4) := fun {k l3} h => by
      rcases getset h with ⟨e, _⟩ | ⟨_, h⟩
      · exact ⟨l, e ▸ he⟩
      · exact ⟨l3, h⟩
    rename_i l2' _
    have w1 : ∃ l4, es[j]? = some (.own l4) := by
      rcases getset h1 with ⟨e, _⟩ | ⟨_, h⟩
      · exact ⟨l, e ▸ he⟩
      · exact ⟨_, h⟩
    have w2 : ∃ l4, es[k]? = some (.own l4) := by
      rcases getset h2 with ⟨e, _⟩ | ⟨_, h⟩
      · exact ⟨l, e ▸ he⟩
      · exact ⟨_, h⟩
    obtain ⟨l4, w1⟩ := w1
    obtain ⟨l5, w2⟩ := w2
    exact r.ds j k q l4 l5 n w1 w2 h3 h4
/-- a list of one's own is frozen -/
theorem Rep.freezeAt (r : Rep Z c H F σ es) {p : Addr} {vs : List V} (hp : H p = some (.lst vs)) (nf : F p = none) (nb : Z.B p = none) (nc : c ≠ some p) (df : ∀ (i : Nat) (l' : List Dv), es[i]? = some (.own l') → σ[i]? ≠ some (some (.ref p))) : Rep Z c H (upd F p (.lst vs)) σ es := by
  have sF := same_upd (o := HO.lst vs) nf
  refine ⟨⟨fun b u q => ?_, fun b ps q => ?_, fun q e => ⟨(r.bas.st q e).1, ?_⟩, r.bas.tb⟩, ⟨r.ext.sm.trans sF, fun b u q m na n => ?_, r.ext.fr, r.ext.tb⟩, r.cn, r.len, fun i e o h1 h2 => ?_, r.ds⟩
  · by_cases e : b = p
    · subst e; rw [upd_same] at q; rw [hp]; exact q
    · rw [upd_ne e] at q; exact r.bas.sm b u q
  · by_cases e : b = p
    · subst e; rw [upd_same] at q; cases q
    · rw [upd_ne e] at q; exact r.bas.nt b ps q
  · rw [upd_ne (fun (z : q = p) => nc (z ▸ e))]; exact (r.bas.st q e).2
  · rw [upd_ne (ne_of_none q nb)]; exact r.ext.nw b u q m na n
  · have h := r.sl i e o h1 h2
    cases e with
    | any => trivial
    | val d => obtain ⟨v, e, k⟩ := h; exact ⟨v, e, k.ext Z.lp sF⟩
    | own l =>
      obtain ⟨q, e, ⟨ws, k1, k2⟩, k3, k4, k5⟩ := h
      have n : q ≠ p := fun z => df i l h1 (by rw [h2, e, z])
      exact ⟨q, e, ⟨ws, k1, k2.ext Z.lp sF⟩, by rw [upd_ne n]; exact k3, k4, k5⟩
    | stt => exact h
theorem Rep.freezeNew (r : Rep Z c H F σ es) {p : Addr} {l : List Dv} (h : New Z c H F σ es p l) : ∃ F', Same F F' ∧ Rep Z c H F' σ es ∧ Z.R F' (.ref p) (.lst l) := by
  obtain ⟨⟨⟨vs, hp, k⟩, nf, nb, nc⟩, df⟩ := h
  exact ⟨_, same_upd nf, r.freezeAt hp nf nb nc df, .lst upd_same (k.ext Z.lp (same_upd nf))⟩
theorem Rep.dropOwn (r : Rep Z c H F σ es) {i : Nat} {l : List Dv} {p : Addr} (he : es[i]? = some (.own l)) (hs : σ[i]? = some (some (.ref p))) : Rep Z c H F σ (es.set i .any) ∧ New Z c H F σ (es.set i .any) p l := by
  obtain ⟨q, e1, o⟩ := r.own he
  rw [hs] at e1
  cases e1
  have hn : σ.set i (some (.ref p)) = σ := by
    apply List.ext_getElem?
    intro j
    by_cases e : i = j
    · subst e
      rw [List.getElem?_set_self (List.getElem?_eq_some_iff.mp hs).1, hs]
    · rw [List.getElem?_set_ne e]
  have r2 := r.setAny (i := i) (o := some (.ref p))
  rw [hn] at r2
  refine ⟨r2, o, fun j l' h1 h2 => ?_⟩
  rcases getset h1 with ⟨_, z⟩ | ⟨n, h1⟩
  · cases z
  · exact r.ds i j p l l' (Ne.symm n) he h1 hs h2
/-- the own list in slot i is frozen there -/
theorem Rep.freeze (r : Rep Z c H F σ es) {i : Nat} {l : List Dv} (he : es[i]? = some (.own l)) : ∃ F' p, Same F F' ∧ σ[i]? = some (some (.ref p)) ∧ Rep Z c H F' σ (es.set i (.val (.lst l))) ∧ Z.R F' (.ref p) (.lst l) := by
  obtain ⟨p, hs, o⟩ := r.own he
  obtain ⟨r1, n1⟩ := r.dropOwn he hs
  obtain ⟨F', s, r2, k⟩ := r1.freezeNew n1
  have r3 := r2.setVal (i := i) k
  have hn : σ.set i (some (.ref p)) = σ := by
    apply List.ext_getElem?
    intro j
    by_cases e : i = j
    · subst e
      rw [List.getElem?_set_self (List.getElem?_eq_some_iff.mp hs).1, hs]
    · rw [List.getElem?_set_ne e]
  rw [hn, List.set_set] at r3
  exact ⟨F', p, s, hs, r3, k⟩
end
end My

end
section
set_option maxRecDepth 100000
set_option maxHeartbeats 1000000
open PySem L2 LamX
namespace My
/-! ### the data layer's judgements -/
abbrev DK := Dv → List Sl → Prop
abbrev DE := List Sl → DK → Prop
abbrev DT := List Sl → (Bool → List Sl → Prop) → Prop
abbrev DA := List Sl → (List Dv → List Sl → Prop) → Prop
abbrev DC := List Sl → (List Ar → List Sl → Prop) → Prop
structure DEnds where
  nx : List Sl → Prop
  rt : Dv → Prop
  bk : List Sl → Prop := fun _ => False
  ct : List Sl → Prop := fun _ => False
abbrev DS := DEnds → List Sl → Prop
abbrev DG := Dv → List Sl → (List Sl → Prop) → Prop
abbrev DGs := List Dv → List Sl → (List Sl → Prop) → Prop
def lE (Z : Zx) (t : DE) : TE := fun σ H Q => ∃ c F es Qd, Rep Z c H F σ es ∧ t es Qd ∧ ∀ v H' F' d es', Same F F' → Rep Z c H' F' σ es' → Z.R F' v d → Qd d es' → Q v H'
/-- a new list, not frozen -/
def lN (Z : Zx) (t : DA) : TE := fun σ H Q => ∃ c F es Qd, Rep Z c H F σ es ∧ t es Qd ∧ ∀ p H' F' l es', Same F F' → Rep Z c H' F' σ es' → New Z c H' F' σ es' p l → Qd l es' → Q (.ref p) H'
def lT (Z : Zx) (t : DT) : TT := fun σ H Q => ∃ c F es Qd, Rep Z c H F σ es ∧ t es Qd ∧ ∀ b H' F' es', Same F F' → Rep Z c H' F' σ es' → Qd b es' → Q b H'
def lA (Z : Zx) (t : DA) : TA := fun σ H Q => ∃ c F es Qd, Rep Z c H F σ es ∧ t es Qd ∧ ∀ vs H' F' ds es', Same F F' → Rep Z c H' F' σ es' → Z.RA F' vs ds → Qd ds es' → Q vs H'
inductive RAr (K : PySem.W.Frag) (LP : Nat → Addr → Hp → Prop) (c : Option Addr) (F : Hp) : List V → List Ar → Prop
  | nil : RAr K LP c F [] []
  | st {p : Addr} {vs : List V} {as : List Ar} (h : c = some p) (k : RAr K LP c F vs as) : RAr K LP c F (.ref p :: vs) (.st :: as)
  | d {v : V} {d : Dv} {vs : List V} {as : List Ar} (h : Rp K LP F v d) (k : RAr K LP c F vs as) : RAr K LP c F (v :: vs) (.d d :: as)
theorem RAr.len {K : PySem.W.Frag} {LP : Nat → Addr → Hp → Prop} {c : Option Addr} {F : Hp} : ∀ {vs : List V} {as : List Ar}, RAr K LP c F vs as → vs.length = as.length
  | _, _, .nil => rfl
  | _, _, .st _ k => by rw [List.length_cons, List.length_cons, RAr.len k]
  | _, _, .d _ k => by rw [List.length_cons, List.length_cons, RAr.len k]
def lC (Z : Zx) (t : DC) : TA := fun σ H Q => ∃ c F es Qd, Rep Z c H F σ es ∧ t es Qd ∧ ∀ vs H' F' as es', Same F F' → Rep Z c H' F' σ es' → RAr Z.K Z.LP c F' vs as → Qd as es' → Q vs H'
def lS (Z : Zx) (t : DS) : TS := fun D σ H => ∃ c F es Dn, Rep Z c H F σ es ∧ t Dn es ∧ (∀ c' σ' H' F' es', Same F F' → Rep Z c' H' F' σ' es' → Dn.nx es' → D.nx σ' H') ∧ (∀ c' σ' H' F' es', Same F F' → Rep Z c' H' F' σ' es' → Dn.bk es' → D.bk σ' H') ∧
  (∀ c' σ' H' F' es', Same F F' → Rep Z c' H' F' σ' es' → Dn.ct es' → D.ct σ' H') ∧ ∀ c' v σ' H' F' es' d, Same F F' → Rep Z c' H' F' σ' es' → Z.R F' v d → Dn.rt d → D.rt v H'
def lG (Z : Zx) (g : DG) : TG := fun v σ H Q => ∃ c F es d Qd, Rep Z c H F σ es ∧ Z.R F v d ∧ g d es Qd ∧ ∀ σ' H' F' es', Same F F' → Rep Z c H' F' σ' es' → Qd es' → Q σ' H'
def lGs (Z : Zx) (g : DGs) : TGs := fun vs σ H Q => ∃ c F es ds Qd, Rep Z c H F σ es ∧ Z.RA F vs ds ∧ g ds es Qd ∧ ∀ σ' H' F' es', Same F F' → Rep Z c H' F' σ' es' → Qd es' → Q σ' H'
end My
namespace L2
section
variable {X : Cx}
theorem PE.mono {e : Expr} {t t' : TE} (p : PE X e t) (h : ∀ σ H Q, t' σ H Q → t σ H Q) : PE X e t' := ⟨fun pins s σ H Q I z => p.run pins s σ H Q I (h σ H Q z)⟩
theorem PT.mono {e : Expr} {t t' : TT} (p : PT X e t) (h : ∀ σ H Q, t' σ H Q → t σ H Q) : PT X e t' := ⟨fun pins s σ H Q I z => p.run pins s σ H Q I (h σ H Q z)⟩
theorem PW.mono {e : Expr} {t t' : TT} (p : PW X e t) (h : ∀ σ H Q, t' σ H Q → t σ H Q) : PW X e t' := ⟨fun wh pins s σ H Q I z => p.run wh pins s σ H Q I (h σ H Q z)⟩
theorem PA.mono {e : List Expr} {t t' : TA} (p : PA X e t) (h : ∀ σ H Q, t' σ H Q → t σ H Q) : PA X e t' := ⟨fun pos pins s σ H Q I z => p.run pos pins s σ H Q I (h σ H Q z)⟩
theorem PS.mono {e : Stmt} {t t' : TS} (p : PS X e t) (h : ∀ D σ H, t' D σ H → t D σ H) : PS X e t' := ⟨fun pins s σ H D I z => p.run pins s σ H D I (h D σ H z)⟩
theorem PSs.mono {e : List Stmt} {t t' : TS} (p : PSs X e t) (h : ∀ D σ H, t' D σ H → t D σ H) : PSs X e t' := ⟨fun pins s σ H D I z => p.run pins s σ H D I (h D σ H z)⟩
theorem PG.mono {e : Expr} {t t' : TG} (p : PG X e t) (h : ∀ v σ H Q, t' v σ H Q → t v σ H Q) : PG X e t' := ⟨fun pins s σ H v u Q I r z => p.run pins s σ H v u Q I r (h v σ H Q z)⟩
theorem PGs.mono {e : List Expr} {t t' : TGs} (p : PGs X e t) (h : ∀ v σ H Q, t' v σ H Q → t v σ H Q) : PGs X e t' := ⟨fun pins s σ H v u Q I r z => p.run pins s σ H v u Q I r (h v σ H Q z)⟩
theorem PTs.mono {e : List Expr} {t t' : TT} (p : PTs X e t) (h : ∀ σ H Q, t' σ H Q → t σ H Q) : PTs X e t' := ⟨fun pins s σ H Q I z => p.run pins s σ H Q I (h σ H Q z)⟩
end
end L2
namespace My
/-! ### expressions -/
def dOf (t : DA) : DE := fun es Q => t es fun l es' => Q (.lst l) es'
def dVar (i : Nat) : DE := fun es Q => match es[i]? with
  | some (.val d) => Q d es
  | some (.own l) => Q (.lst l) (es.set i (.val (.lst l)))
  | _ => False
def dC (d : Dv) : DE := fun es Q => Q d es
abbrev K2 := Dv → Dv → List Sl → DK → Prop
def d2 (k : K2) (ta tb : DE) : DE := fun es Q => ta es fun x es1 => tb es1 fun y es2 => k x y es2 Q
def d1 (k : Dv → List Sl → DK → Prop) (ta : DE) : DE := fun es Q => ta es fun x es1 => k x es1 Q
section
variable {X : Cx} {Z : Zx} {e a b : Expr} {pos : Pos} {ta tb tc : DE}
theorem de_new {t : DA} (p : PE X e (lN Z t)) : PE X e (lE Z (dOf t)) := p.mono fun σ H Q ⟨c, F, es, Qd, r, h, q⟩ => ⟨c, F, es, _, r, h, fun p H' F' l es' s r' n k => by
  obtain ⟨F2, s2, r2, k2⟩ := r'.freezeNew n
  exact q _ _ _ _ _ (s.trans s2) r2 k2 k⟩
theorem de_var {i : Nat} {x : Str} (hN : X.N[i]? = some x) (hv : Vis X.env.scope x) (hd : (x == ("__debug__" : Str)) = false := by decide) (hcd : (x == ("__classdict__" : Str)) = false := by decide) : PE X (.Name x pos) (lE Z (dVar i)) :=
  (pe_var hN hv hd hcd).mono fun σ H Q ⟨c, F, es, Qd, r, h, q⟩ => by
    unfold dVar at h
    cases he : es[i]? with
    | none => rw [he] at h; exact h.elim
    | some s =>
      rw [he] at h
      cases s with
      | any => exact h.elim
      | val d =>
        obtain ⟨v, h1, h2⟩ := r.val he
        exact ⟨v, h1, q _ _ _ _ _ (Same.refl F) r h2 h⟩
      | own l =>
        obtain ⟨F', p, s, h1, r2, k⟩ := r.freeze he
        exact ⟨_, h1, q _ _ _ _ _ s r2 k h⟩
      | stt => exact h.elim
theorem d_const {v : V} {d : Dv} (h : ∀ F, Z.R F v d) (p : PE X e (tC v)) : PE X e (lE Z (dC d)) := p.mono fun σ H Q ⟨c, F, es, Qd, r, z, q⟩ => q _ _ _ _ _ (Same.refl F) r (h F) z
theorem de_int {i j pos} : PE X (.Constant (.int i) j pos) (lE Z (dC (.int i))) := d_const (fun _ => .int i) pe_int
theorem de_bl {i j pos} : PE X (.Constant (.bool i) j pos) (lE Z (dC (.bl i))) := d_const (fun _ => .bl i) pe_bl
theorem de_str {i j pos} : PE X (.Constant (.str i) j pos) (lE Z (dC (.str i))) := d_const (fun _ => .str i) pe_str
theorem de_non {j pos} : PE X (.Constant .none j pos) (lE Z (dC .non)) := d_const (fun _ => .non) pe_non
theorem de_gi {x : Str} {i : Int} {t : Tok} (hg : Gl X x) (hm : X.mg x = some (.int i t)) (hdb : (x == ("__debug__" : Str)) = false := by decide) : PE X (.Name x pos) (lE Z (dC (.int i))) := d_const (fun _ => .int i) (pe_gi hg hm hdb)
theorem de_gs {x : Str} {i : Str} {t : Tok} (hg : Gl X x) (hm : X.mg x = some (.str i t)) (hdb : (x == ("__debug__" : Str)) = false := by decide) : PE X (.Name x pos) (lE Z (dC (.str i))) := d_const (fun _ => .str i) (pe_glob hg hm (show RelV (V.str i) (Value.str i t) from ⟨t, rfl⟩) hdb)
/-- what an operator by values asks, by data -/
def Op2 (Z : Zx) (r : R2) (k : K2) : Prop := ∀ (c : Option Addr) (F H : Hp) (σ : L2.St) (es : List Sl) (x y : Dv) (v u : V) (Q : VK) (Qd : DK), Rep Z c H F σ es → Z.R F v x → Z.R F u y → k x y es Qd →
  (∀ v' H' F' d es', Same F F' → Rep Z c H' F' σ es' → Z.R F' v' d → Qd d es' → Q v' H') → r v u H Q
theorem op2 {r : R2} {k : K2} (hk : Op2 Z r k) : ∀ σ H Q, lE Z (d2 k ta tb) σ H Q → tOp r (lE Z ta) (lE Z tb) σ H Q := fun σ H Q ⟨c, F, es, Qd, rp, h, q⟩ =>
  ⟨c, F, es, _, rp, h, fun v H1 F1 x es1 s1 rp1 r1 h1 => ⟨c, F1, es1, _, rp1, h1, fun u H2 F2 y es2 s2 rp2 r2 h2 =>
    hk c F2 H2 σ es2 x y v u Q Qd rp2 (r1.ext Z.lp s2) r2 h2 fun v' H' F' d es' s3 rp3 r3 z => q v' H' F' d es' ((s1.trans s2).trans s3) rp3 r3 z⟩⟩
theorem de_op {op : Operator} {r : R2} {k : K2} (ho : OpR X (binaryOp op) r) (hk : Op2 Z r k) (ha : PE X a (lE Z ta)) (hb : PE X b (lE Z tb)) : PE X (.BinOp a op b pos) (lE Z (d2 k ta tb)) := (pe_op ho ha hb).mono (op2 hk)
theorem de_cmp {op : CmpOp} {r : R2} {k : K2} (ho : OpR X (compareOp op) r) (hk : Op2 Z r k) (ha : PE X a (lE Z ta)) (hb : PE X b (lE Z tb)) (hm : behindInMarks op b = false) : PE X (.Compare a [op] [b] pos) (lE Z (d2 k ta tb)) := (pe_cmpR ho ha hb hm).mono (op2 hk)
theorem de_ix {r : R2} {k : K2} (ho : IxR X r) (hk : Op2 Z r k) (ha : PE X a (lE Z ta)) (hb : PE X b (lE Z tb)) (hs : PlainIx b) : PE X (.Subscript a b pos) (lE Z (d2 k ta tb)) := (pe_ix ho ha hb hs).mono (op2 hk)
def kArC (C : Int → Int → Prop) (g : Int → Int → Int) : K2 := fun x y es Q => ∃ i j, x = .int i ∧ y = .int j ∧ C i j ∧ Q (.int (g i j)) es
def kAr (g : Int → Int → Int) : K2 := fun x y es Q => ∃ i j, x = .int i ∧ y = .int j ∧ Q (.int (g i j)) es
def kCo (g : Int → Int → Bool) : K2 := fun x y es Q => ∃ i j, x = .int i ∧ y = .int j ∧ Q (.bl (g i j)) es
theorem o_I {C : Int → Int → Prop} {g : Int → Int → Int} : Op2 Z (rI C fun i j => .int (g i j)) (kArC C g) := by
  rintro c F H σ es x y v u Q Qd rp r1 r2 ⟨i, j, rfl, rfl, h, z⟩ q
  exact ⟨i, j, r1.int_inv, r2.int_inv, h, q _ _ _ _ _ (Same.refl F) rp (.int _) z⟩
theorem o_I0 {g : Int → Int → Int} : Op2 Z (rI0 fun i j => .int (g i j)) (kAr g) := by
  rintro c F H σ es x y v u Q Qd rp r1 r2 ⟨i, j, rfl, rfl, z⟩ q
  exact ⟨i, j, r1.int_inv, r2.int_inv, q _ _ _ _ _ (Same.refl F) rp (.int _) z⟩
theorem o_B0 {g : Int → Int → Bool} : Op2 Z (rI0 fun i j => .bl (g i j)) (kCo g) := by
  rintro c F H σ es x y v u Q Qd rp r1 r2 ⟨i, j, rfl, rfl, z⟩ q
  exact ⟨i, j, r1.int_inv, r2.int_inv, q _ _ _ _ _ (Same.refl F) rp (.bl _) z⟩
end
/-! equality -/
mutual
def Dv.py : Dv → PyData
  | .non => .none
  | .bl b => .bool b
  | .int i => .int i
  | .str x => .str x
  | .lst l => .list (Dv.pys l)
  | .tup l => .tuple (Dv.pys l)
  | _ => .none
def Dv.pys : List Dv → List PyData
  | [] => []
  | d :: l => d.py :: Dv.pys l
end
mutual
/-- none, bools, ints, texts, lists, tuples -/
def Dv.flat : Dv → Bool
  | .non | .bl _ | .int _ | .str _ => true
  | .lst l | .tup l => Dv.flats l
  | _ => false
def Dv.flats : List Dv → Bool
  | [] => true
  | d :: l => d.flat && Dv.flats l
end
mutual
theorem Rp.dp {K : PySem.W.Frag} {LP : Nat → Addr → Hp → Prop} {F H : Hp} (s : Same F H) : ∀ (d : Dv) (v : V), d.flat = true → Rp K LP F v d → Dp K H v d.py
  | .non, _, _, h => by cases h; exact .non
  | .bl b, _, _, h => by cases h; exact .bl b
  | .int i, _, _, h => by cases h; exact .int i
  | .str x, _, _, h => by cases h; exact .str x
  | .lst l, _, f, h => by
    cases h with
    | lst h k => exact .lst (SqL.of (s _ _ h)) (RpA.dp s l _ f k)
  | .tup l, _, f, h => by
    cases h with
    | tup h k => exact .tup (seqT_same s h) (RpA.dp s l _ f k)
  | .dct _ _, _, f, _ => by cases f
  | .scr _, _, f, _ => by cases f
  | .lam _, _, f, _ => by cases f
theorem RpA.dp {K : PySem.W.Frag} {LP : Nat → Addr → Hp → Prop} {F H : Hp} (s : Same F H) : ∀ (ds : List Dv) (vs : List V), Dv.flats ds = true → RpA K LP F vs ds → DpAll K H vs (Dv.pys ds)
  | [], _, _, h => by cases h; exact .nil
  | d :: ds, _, f, h => by
    cases h with
    | cons h k =>
      have f' := Bool.and_eq_true_iff.mp f
      exact .cons (Rp.dp s d _ f'.1 h) (RpA.dp s ds _ f'.2 k)
end
/-- data that == goes through -/
def Dv.ok (d : Dv) : Bool := d.flat && SeqAt.shaped d.py
def deq (x y : Dv) : Bool := PyData.eqv x.py y.py
def kEq : K2 := fun x y es Q => x.ok = true ∧ y.ok = true ∧ Q (.bl (deq x y)) es
def kNe : K2 := fun x y es Q => x.ok = true ∧ y.ok = true ∧ Q (.bl (!deq x y)) es
def Dv.isN : Dv → Bool
  | .non => true
  | _ => false
def kIsN : K2 := fun x y es Q => y = .non ∧ Q (.bl x.isN) es
def kNotN : K2 := fun x y es Q => y = .non ∧ Q (.bl (!x.isN)) es
section
variable {X : Cx} {Z : Zx} {e a b : Expr} {pos : Pos} {ta tb tc : DE}
theorem o_eq : Op2 Z (rEqD Z.K) kEq := by
  rintro c F H σ es x y v u Q Qd rp r1 r2 ⟨h1, h2, z⟩ q
  have g1 := Bool.and_eq_true_iff.mp h1
  have g2 := Bool.and_eq_true_iff.mp h2
  exact ⟨x.py, y.py, Rp.dp rp.bas.sm _ _ g1.1 r1, Rp.dp rp.bas.sm _ _ g2.1 r2, g1.2, g2.2, q _ _ _ _ _ (Same.refl F) rp (.bl _) z⟩
theorem o_ne : Op2 Z (rNeD Z.K) kNe := by
  rintro c F H σ es x y v u Q Qd rp r1 r2 ⟨h1, h2, z⟩ q
  have g1 := Bool.and_eq_true_iff.mp h1
  have g2 := Bool.and_eq_true_iff.mp h2
  exact ⟨x.py, y.py, Rp.dp rp.bas.sm _ _ g1.1 r1, Rp.dp rp.bas.sm _ _ g2.1 r2, g1.2, g2.2, q _ _ _ _ _ (Same.refl F) rp (.bl _) z⟩
theorem isN_eq {K : PySem.W.Frag} {LP : Nat → Addr → Hp → Prop} {F : Hp} {v : V} {d : Dv} (r : Rp K LP F v d) : decide (v = .non) = d.isN := by cases r <;> rfl
theorem o_isN : Op2 Z (fun x y H Q => y = .non ∧ Q (.bl (decide (x = .non))) H) kIsN := by
  rintro c F H σ es x y v u Q Qd rp r1 r2 ⟨rfl, z⟩ q
  exact ⟨r2.non_inv, by rw [isN_eq r1]; exact q _ _ _ _ _ (Same.refl F) rp (.bl _) z⟩
theorem o_notN : Op2 Z (fun x y H Q => y = .non ∧ Q (.bl (!decide (x = .non))) H) kNotN := by
  rintro c F H σ es x y v u Q Qd rp r1 r2 ⟨rfl, z⟩ q
  exact ⟨r2.non_inv, by rw [isN_eq r1]; exact q _ _ _ _ _ (Same.refl F) rp (.bl _) z⟩
/-- one sub-expression -/
def Op1 (Z : Zx) (r : V → Hp → VK → Prop) (k : Dv → List Sl → DK → Prop) : Prop := ∀ (c : Option Addr) (F H : Hp) (σ : L2.St) (es : List Sl) (x : Dv) (v : V) (Q : VK) (Qd : DK), Rep Z c H F σ es → Z.R F v x → k x es Qd →
  (∀ v' H' F' d es', Same F F' → Rep Z c H' F' σ es' → Z.R F' v' d → Qd d es' → Q v' H') → r v H Q
theorem op1 {r : V → Hp → VK → Prop} {k : Dv → List Sl → DK → Prop} (hk : Op1 Z r k) : ∀ σ H Q, lE Z (d1 k ta) σ H Q → lE Z ta σ H (fun v H1 => r v H1 Q) := fun σ H Q ⟨c, F, es, Qd, rp, h, q⟩ =>
  ⟨c, F, es, _, rp, h, fun v H1 F1 x es1 s1 rp1 r1 h1 => hk c F1 H1 σ es1 x v Q Qd rp1 r1 h1 fun v' H' F' d es' s3 rp3 r3 z => q v' H' F' d es' (s1.trans s3) rp3 r3 z⟩
theorem de_neg (ha : PE X a (lE Z ta)) : PE X (.UnaryOp .USub a pos) (lE Z (d1 (fun x es Q => ∃ i, x = .int i ∧ Q (.int (-i)) es) ta)) := (pe_un un_neg ha).mono (op1 (by
  rintro c F H σ es x v Q Qd rp r1 ⟨i, rfl, z⟩ q
  exact ⟨i, r1.int_inv, q _ _ _ _ _ (Same.refl F) rp (.int _) z⟩))
theorem de_not (ha : PE X a (lE Z ta)) : PE X (.UnaryOp .Not a pos) (lE Z (d1 (fun x es Q => ∃ i, x = .bl i ∧ Q (.bl (!i)) es) ta)) := (pe_not ha).mono (op1 (r := fun x H1 Q => ∃ c, x = .bl c ∧ Q (.bl (!c)) H1) (by
  rintro c F H σ es x v Q Qd rp r1 ⟨i, rfl, z⟩ q
  exact ⟨i, r1.bl_inv, q _ _ _ _ _ (Same.refl F) rp (.bl _) z⟩))
/-! tests -/
def dTest (t : DE) : DT := fun es Q => t es fun d es1 => ∃ k, d = .bl k ∧ Q k es1
theorem l_test {t : DE} : ∀ σ H Q, lT Z (dTest t) σ H Q → tTest (lE Z t) σ H Q := fun σ H Q ⟨c, F, es, Qd, rp, h, q⟩ => ⟨c, F, es, _, rp, h, fun v H1 F1 d es1 s1 rp1 r1 ⟨k, e, z⟩ => by
  subst e
  exact ⟨k, r1.bl_inv, q _ _ _ _ s1 rp1 z⟩⟩
theorem l_mono {t t' : TE} (h : ∀ σ H Q, t' σ H Q → t σ H Q) : ∀ σ H Q, tTest t' σ H Q → tTest t σ H Q := fun σ H Q z => h _ _ _ z
theorem dt_val (p : PE X e (lE Z ta)) (he : ∀ whole, isTrue e X.env whole = (do let v ← whole; standAt e.pos; holding [v] (truthy v)) := by intro _; rfl) : PT X e (lT Z (dTest ta)) := (pt_val p he).mono l_test
theorem dt_cmp {op : CmpOp} {r : R2} {k : K2} (ho : OpR X (compareOp op) r) (hk : Op2 Z r k) (ha : PE X a (lE Z ta)) (hb : PE X b (lE Z tb)) (hm : behindInMarks op b = false) : PT X (.Compare a [op] [b] pos) (lT Z (dTest (d2 k ta tb))) :=
  (pt_cmpR ho ha hb hm).mono fun σ H Q z => op2 hk _ _ _ (l_test _ _ _ z)
def dChain (k k' : K2) (ta tb tc : DE) : DE := fun es Q => ta es fun x es1 => tb es1 fun y es2 => k x y es2 fun z es3 => ∃ b, z = .bl b ∧ if b = true then tc es3 fun w es4 => k' y w es4 Q else Q (.bl false) es3
theorem l_chain {r r' : R2} {k k' : K2} (hk : Op2 Z r k) (hk' : Op2 Z r' k') : ∀ σ H Q, lE Z (dChain k k' ta tb tc) σ H Q → tChain r r' (lE Z ta) (lE Z tb) (lE Z tc) σ H Q := fun σ H Q ⟨c, F, es, Qd, rp, h, q⟩ =>
  ⟨c, F, es, _, rp, h, fun v H1 F1 x es1 s1 rp1 r1 h1 => ⟨c, F1, es1, _, rp1, h1, fun u H2 F2 y es2 s2 rp2 r2 h2 =>
    hk c F2 H2 σ es2 x y v u _ _ rp2 (r1.ext Z.lp s2) r2 h2 fun z H3 F3 d es3 s3 rp3 r3 ⟨k, e, q3⟩ => by
      subst e
      refine ⟨k, r3.bl_inv, ?_⟩
      cases k with
      | true =>
        rw [if_pos rfl] at q3 ⊢
        refine ⟨c, F3, es3, _, rp3, q3, fun w H4 F4 e4 es4 s4 rp4 r4 h4 => ?_⟩
        exact hk' c F4 H4 σ es4 y e4 u w Q Qd rp4 ((r2.ext Z.lp s3).ext Z.lp s4) r4 h4 fun v' H' F' d es' s5 rp5 r5 z => q v' H' F' d es' ((((s1.trans s2).trans s3).trans s4).trans s5) rp5 r5 z
      | false =>
        rw [if_neg Bool.false_ne_true] at q3 ⊢
        exact q _ _ _ _ _ ((s1.trans s2).trans s3) rp3 (.bl _) q3⟩⟩
theorem de_chain {c : Expr} {op op' : CmpOp} {r r' : R2} {k k' : K2} (ho : OpR X (compareOp op) r) (ho' : OpR X (compareOp op') r') (hk : Op2 Z r k) (hk' : Op2 Z r' k') (ha : PE X a (lE Z ta)) (hb : PE X b (lE Z tb)) (hc : PE X c (lE Z tc))
    (hm : lastMarks [op, op'] [b, c] = false := by with_unfolding_all rfl) : PE X (.Compare a [op, op'] [b, c] pos) (lE Z (dChain k k' ta tb tc)) := (pe_chain ho ho' ha hb hc hm).mono (l_chain hk hk')
theorem dt_chain {c : Expr} {op op' : CmpOp} {r r' : R2} {k k' : K2} (ho : OpR X (compareOp op) r) (ho' : OpR X (compareOp op') r') (hk : Op2 Z r k) (hk' : Op2 Z r' k') (ha : PE X a (lE Z ta)) (hb : PE X b (lE Z tb)) (hc : PE X c (lE Z tc))
    (hm : lastMarks [op, op'] [b, c] = false := by with_unfolding_all rfl) : PT X (.Compare a [op, op'] [b, c] pos) (lT Z (dTest (dChain k k' ta tb tc))) := (pt_chain ho ho' ha hb hc hm).mono fun σ H Q z => l_chain hk hk' _ _ _ (l_test _ _ _ z)
def dAndT (t u : DT) : DT := fun es Q => t es fun c es1 => if c = true then u es1 Q else Q false es1
def dOrT (t u : DT) : DT := fun es Q => t es fun c es1 => if c = true then Q true es1 else u es1 Q
def dNotT (t : DT) : DT := fun es Q => t es fun c es1 => Q (!c) es1
variable {tA tB : DT} {rest : List Expr}
theorem l_andT : ∀ σ H Q, lT Z (dAndT tA tB) σ H Q → tAnd (lT Z tA) (lT Z tB) σ H Q := fun σ H Q ⟨c, F, es, Qd, rp, h, q⟩ => ⟨c, F, es, _, rp, h, fun b H1 F1 es1 s1 rp1 z => by
  cases b with
  | true =>
    rw [if_pos rfl] at z ⊢
    exact ⟨c, F1, es1, _, rp1, z, fun b H2 F2 es2 s2 rp2 z => q _ _ _ _ (s1.trans s2) rp2 z⟩
  | false =>
    rw [if_neg Bool.false_ne_true] at z ⊢
    exact q _ _ _ _ s1 rp1 z⟩
theorem l_orT : ∀ σ H Q, lT Z (dOrT tA tB) σ H Q → tOr (lT Z tA) (lT Z tB) σ H Q := fun σ H Q ⟨c, F, es, Qd, rp, h, q⟩ => ⟨c, F, es, _, rp, h, fun b H1 F1 es1 s1 rp1 z => by
  cases b with
  | true =>
    rw [if_pos rfl] at z ⊢
    exact q _ _ _ _ s1 rp1 z
  | false =>
    rw [if_neg Bool.false_ne_true] at z ⊢
    exact ⟨c, F1, es1, _, rp1, z, fun b H2 F2 es2 s2 rp2 z => q _ _ _ _ (s1.trans s2) rp2 z⟩⟩
theorem dw_and1 (ha : PT X a (lT Z tA)) : PW X (.BoolOp .And [a] pos) (lT Z tA) := pw_and1 ha
theorem dw_or1 (ha : PT X a (lT Z tA)) : PW X (.BoolOp .Or [a] pos) (lT Z tA) := pw_or1 ha
theorem dw_and (ha : PT X a (lT Z tA)) (hb : PW X (.BoolOp .And (b :: rest) pos) (lT Z tB)) : PW X (.BoolOp .And (a :: b :: rest) pos) (lT Z (dAndT tA tB)) := (pw_and ha hb).mono l_andT
theorem dw_or (ha : PT X a (lT Z tA)) (hb : PW X (.BoolOp .Or (b :: rest) pos) (lT Z tB)) : PW X (.BoolOp .Or (a :: b :: rest) pos) (lT Z (dOrT tA tB)) := (pw_or ha hb).mono l_orT
theorem dt_not (ha : PT X a (lT Z tA)) : PT X (.UnaryOp .Not a pos) (lT Z (dNotT tA)) := (pt_not ha).mono fun σ H Q ⟨c, F, es, Qd, rp, h, q⟩ => ⟨c, F, es, _, rp, h, fun b H1 F1 es1 s1 rp1 z => q _ _ _ _ s1 rp1 z⟩
def dAndV (ta tb : DE) : DE := fun es Q => ta es fun x es1 => ∃ c, x = .bl c ∧ if c = true then tb es1 Q else Q (.bl false) es1
def dOrV (ta tb : DE) : DE := fun es Q => ta es fun x es1 => ∃ c, x = .bl c ∧ if c = true then Q (.bl true) es1 else tb es1 Q
theorem de_one {op} (h : PE X a (lE Z ta)) : PE X (.BoolOp op [a] pos) (lE Z ta) := pe_one h
theorem de_and (ha : PE X a (lE Z ta)) (hb : PE X (.BoolOp .And (b :: rest) pos) (lE Z tb)) : PE X (.BoolOp .And (a :: b :: rest) pos) (lE Z (dAndV ta tb)) := (pe_and ha hb).mono fun σ H Q ⟨c, F, es, Qd, rp, h, q⟩ =>
  ⟨c, F, es, _, rp, h, fun v H1 F1 x es1 s1 rp1 r1 ⟨k, e, z⟩ => by
    subst e
    refine ⟨k, r1.bl_inv, ?_⟩
    cases k with
    | true =>
      rw [if_pos rfl] at z ⊢
      exact ⟨c, F1, es1, _, rp1, z, fun v H2 F2 d es2 s2 rp2 r2 z => q _ _ _ _ _ (s1.trans s2) rp2 r2 z⟩
    | false =>
      rw [if_neg Bool.false_ne_true] at z ⊢
      exact q _ _ _ _ _ s1 rp1 (.bl _) z⟩
theorem de_or (ha : PE X a (lE Z ta)) (hb : PE X (.BoolOp .Or (b :: rest) pos) (lE Z tb)) : PE X (.BoolOp .Or (a :: b :: rest) pos) (lE Z (dOrV ta tb)) := (pe_or ha hb).mono fun σ H Q ⟨c, F, es, Qd, rp, h, q⟩ =>
  ⟨c, F, es, _, rp, h, fun v H1 F1 x es1 s1 rp1 r1 ⟨k, e, z⟩ => by
    subst e
    refine ⟨k, r1.bl_inv, ?_⟩
    cases k with
    | true =>
      rw [if_pos rfl] at z ⊢
      exact q _ _ _ _ _ s1 rp1 (.bl _) z
    | false =>
      rw [if_neg Bool.false_ne_true] at z ⊢
      exact ⟨c, F1, es1, _, rp1, z, fun v H2 F2 d es2 s2 rp2 r2 z => q _ _ _ _ _ (s1.trans s2) rp2 r2 z⟩⟩
def dIf (t : DT) (ta tb : DE) : DE := fun es Q => t es fun c es1 => if c = true then ta es1 Q else tb es1 Q
theorem de_ifExp {c : Expr} (hc : PT X c (lT Z tA)) (ha : PE X a (lE Z ta)) (hb : PE X b (lE Z tb)) : PE X (.IfExp c a b pos) (lE Z (dIf tA ta tb)) := (pe_ifExp hc ha hb).mono fun σ H Q ⟨c, F, es, Qd, rp, h, q⟩ =>
  ⟨c, F, es, _, rp, h, fun k H1 F1 es1 s1 rp1 z => by
    cases k with
    | true =>
      rw [if_pos rfl] at z ⊢
      exact ⟨c, F1, es1, _, rp1, z, fun v H2 F2 d es2 s2 rp2 r2 z => q _ _ _ _ _ (s1.trans s2) rp2 r2 z⟩
    | false =>
      rw [if_neg Bool.false_ne_true] at z ⊢
      exact ⟨c, F1, es1, _, rp1, z, fun v H2 F2 d es2 s2 rp2 r2 z => q _ _ _ _ _ (s1.trans s2) rp2 r2 z⟩⟩
/-! lists of arguments -/
def dNil : DA := fun es Q => Q [] es
def dCons (ta : DE) (tr : DA) : DA := fun es Q => ta es fun x es1 => tr es1 fun xs es2 => Q (x :: xs) es2
variable {es' : List Expr} {tr : DA}
theorem da_nil : PA X [] (lA Z dNil) := pa_nil.mono fun σ H Q ⟨c, F, es, Qd, rp, h, q⟩ => q _ _ _ _ _ (Same.refl F) rp .nil h
theorem da_cons (ha : PE X e (lE Z ta)) (hr : PA X es' (lA Z tr)) (hs : starEach (e :: es') X.env = (false, eval e X.env) :: starEach es' X.env := by rfl) : PA X (e :: es') (lA Z (dCons ta tr)) := (pa_cons ha hr hs).mono fun σ H Q ⟨c, F, es, Qd, rp, h, q⟩ =>
  ⟨c, F, es, _, rp, h, fun v H1 F1 x es1 s1 rp1 r1 h1 => ⟨c, F1, es1, _, rp1, h1, fun vs H2 F2 xs es2 s2 rp2 r2 h2 => q _ _ _ _ _ (s1.trans s2) rp2 (.cons (r1.ext Z.lp s2) r2) h2⟩⟩
def dcNil : DC := fun es Q => Q [] es
def dcCons (ta : DE) (tr : DC) : DC := fun es Q => ta es fun x es1 => tr es1 fun xs es2 => Q (.d x :: xs) es2
def dcSt (i : Nat) (tr : DC) : DC := fun es Q => es[i]? = some .stt ∧ tr es fun xs es2 => Q (.st :: xs) es2
variable {tq : DC}
theorem dc_nil : PA X [] (lC Z dcNil) := pa_nil.mono fun σ H Q ⟨c, F, es, Qd, rp, h, q⟩ => q _ _ _ _ _ (Same.refl F) rp .nil h
theorem dc_cons (ha : PE X e (lE Z ta)) (hr : PA X es' (lC Z tq)) (hs : starEach (e :: es') X.env = (false, eval e X.env) :: starEach es' X.env := by rfl) : PA X (e :: es') (lC Z (dcCons ta tq)) := (pa_cons ha hr hs).mono fun σ H Q ⟨c, F, es, Qd, rp, h, q⟩ =>
  ⟨c, F, es, _, rp, h, fun v H1 F1 x es1 s1 rp1 r1 h1 => ⟨c, F1, es1, _, rp1, h1, fun vs H2 F2 xs es2 s2 rp2 r2 h2 => q _ _ _ _ _ (s1.trans s2) rp2 (.d (r1.ext Z.lp s2) r2) h2⟩⟩
theorem dc_st {i : Nat} {x : Str} (hN : X.N[i]? = some x) (hv : Vis X.env.scope x) (hr : PA X es' (lC Z tq)) (hd : (x == ("__debug__" : Str)) = false := by decide) (hcd : (x == ("__classdict__" : Str)) = false := by decide)
    (hs : starEach (.Name x pos :: es') X.env = (false, eval (.Name x pos) X.env) :: starEach es' X.env := by rfl) : PA X (.Name x pos :: es') (lC Z (dcSt i tq)) := (pa_cons (pe_var hN hv hd hcd) hr hs).mono fun σ H Q ⟨c, F, es, Qd, rp, ⟨he, h⟩, q⟩ => by
  obtain ⟨o, h1, p, rfl, h2⟩ := rp.at_ he
  exact ⟨_, h1, c, F, es, _, rp, h, fun vs H2 F2 xs es2 s2 rp2 r2 z => q _ _ _ _ _ s2 rp2 (.st h2 r2) z⟩
/-! displays -/
def dTup (t : DA) : DE := fun es Q => t es fun l es' => l.length ≤ 1000000 ∧ Q (.tup l) es'
def dLst (t : DA) : DA := fun es Q => t es fun l es' => l.length ≤ 1000000 ∧ Q l es'
theorem de_tup {x1} (h : PA X es' (lA Z tr)) : PE X (.Tuple es' x1 pos) (lE Z (dTup tr)) := (pe_tup h).mono fun σ H Q ⟨c, F, es, Qd, rp, h, q⟩ =>
  ⟨c, F, es, _, rp, h, fun vs H1 F1 ds es1 s1 rp1 r1 ⟨hl, h1⟩ => ⟨by rw [r1.len]; exact sz hl, fun p hp => by
    have rp2 := rp1.frz (o := .tup vs) hp (fun _ z => by cases z)
    have s2 := same_upd (o := HO.tup vs) (F_none rp1 hp)
    exact q _ _ _ _ _ (s1.trans s2) rp2 (.tup (SqT.of upd_same) (r1.ext Z.lp s2)) h1⟩⟩
theorem dn_lst (h : PA X es' (lA Z tr)) : PE X (.List es' pos) (lN Z (dLst tr)) := (pe_lst h).mono fun σ H Q ⟨c, F, es, Qd, rp, h, q⟩ =>
  ⟨c, F, es, _, rp, h, fun vs H1 F1 ds es1 s1 rp1 r1 ⟨hl, h1⟩ => ⟨by rw [r1.len]; exact sz hl, fun p hp => by
    obtain ⟨rp2, n2⟩ := rp1.new hp r1
    exact q _ _ _ _ _ s1 rp2 n2 h1⟩⟩
/-- two expressions, a new list -/
def Op2N (Z : Zx) (r : R2) (k : Dv → Dv → List Sl → (List Dv → List Sl → Prop) → Prop) : Prop := ∀ (c : Option Addr) (F H : Hp) (σ : L2.St) (es : List Sl) (x y : Dv) (v u : V) (Q : VK) (Qd : List Dv → List Sl → Prop), Rep Z c H F σ es → Z.R F v x → Z.R F u y → k x y es Qd →
  (∀ p H' F' d es', Same F F' → Rep Z c H' F' σ es' → New Z c H' F' σ es' p d → Qd d es' → Q (.ref p) H') → r v u H Q
def d2N (k : Dv → Dv → List Sl → (List Dv → List Sl → Prop) → Prop) (ta tb : DE) : DA := fun es Q => ta es fun x es1 => tb es1 fun y es2 => k x y es2 Q
theorem dn_op {op : Operator} {r : R2} {k : Dv → Dv → List Sl → (List Dv → List Sl → Prop) → Prop} (ho : OpR X (binaryOp op) r) (hk : Op2N Z r k) (ha : PE X a (lE Z ta)) (hb : PE X b (lE Z tb)) : PE X (.BinOp a op b pos) (lN Z (d2N k ta tb)) := (pe_op ho ha hb).mono fun σ H Q ⟨c, F, es, Qd, rp, h, q⟩ =>
  ⟨c, F, es, _, rp, h, fun v H1 F1 x es1 s1 rp1 r1 h1 => ⟨c, F1, es1, _, rp1, h1, fun u H2 F2 y es2 s2 rp2 r2 h2 =>
    hk c F2 H2 σ es2 x y v u Q Qd rp2 (r1.ext Z.lp s2) r2 h2 fun v' H' F' d es' s3 rp3 r3 z => q v' H' F' d es' ((s1.trans s2).trans s3) rp3 r3 z⟩⟩
theorem on_cat : Op2N Z rCat fun x y es Q => ∃ l m, x = .lst l ∧ y = .lst m ∧ l.length + m.length ≤ 1000000 ∧ Q (l ++ m) es := by
  rintro c F H σ es x y v u Q Qd rp r1 r2 ⟨l, m, rfl, rfl, hl, z⟩ q
  obtain ⟨p, xs, rfl, h1, k1⟩ := r1.lst_inv
  obtain ⟨p2, ys, rfl, h2, k2⟩ := r2.lst_inv
  refine ⟨p, p2, xs, ys, rfl, rfl, rp.bas.sm _ _ h1, rp.bas.sm _ _ h2, by rw [k1.len, k2.len]; exact sz hl, fun p3 hp => ?_⟩
  obtain ⟨rp2, n2⟩ := rp.new hp (k1.app k2)
  exact q _ _ _ _ _ (Same.refl F) rp2 n2 z
theorem on_rep : Op2N Z rRep fun x y es Q => ∃ l i, x = .lst l ∧ y = .int i ∧ 0 ≤ i ∧ i < 1000000 ∧ l.length * i.toNat ≤ 1000000 ∧ Q (List.replicate i.toNat l).flatten es := by
  rintro c F H σ es x y v u Q Qd rp r1 r2 ⟨l, i, rfl, rfl, h0, h1, hl, z⟩ q
  obtain ⟨p, xs, rfl, h3, k1⟩ := r1.lst_inv
  refine ⟨p, i, xs, rfl, r2.int_inv, rp.bas.sm _ _ h3, by omega, by omega, by rw [k1.len]; exact sz hl, fun p3 hp => ?_⟩
  obtain ⟨rp2, n2⟩ := rp.new hp (k1.repl _)
  exact q _ _ _ _ _ (Same.refl F) rp2 n2 z
end
end My

end
section
set_option maxRecDepth 100000
set_option maxHeartbeats 1000000
open PySem L2 LamX
namespace L2
theorem PI.mono {X : Cx} {tg iter : Expr} {w w' : TI} (p : PI X tg iter w) (h : ∀ σ H R, w' σ H R → w σ H R) : PI X tg iter w' := ⟨fun pins s σ H R I z => p.run pins s σ H R I (h σ H R z)⟩
end L2
namespace My
/-! ### blocks and small statements -/
def dNext : DS := fun D es => D.nx es
def dSeq (t u : DS) : DS := fun D es => t { D with nx := u D } es
def dBreak : DS := fun D es => D.bk es
def dCont : DS := fun D es => D.ct es
def dDrop (te : DE) : DS := fun D es => te es fun _ es1 => D.nx es1
def dRet (te : DE) : DS := fun D es => te es fun d _ => D.rt d
def dRetN : DS := fun D _ => D.rt .non
def dIfS (c : DT) (t u : DS) : DS := fun D es => c es fun b es1 => if b = true then t D es1 else u D es1
def dNever : DS := fun _ _ => False
section
variable {X : Cx} {Z : Zx} {st : Stmt} {rest : List Stmt} {t u : DS} {e : Expr} {te : DE} {pos : Pos}
theorem dss_nil : PSs X [] (lS Z dNext) := pss_nil.mono fun D σ H ⟨c, F, es, Dn, rp, h, nx, _⟩ => nx _ _ _ _ _ (Same.refl F) rp h
theorem dss_one (h : PS X st (lS Z t)) : PSs X [st] (lS Z t) := pss_one h
theorem dss_cons (h1 : PS X st (lS Z t)) (h2 : PSs X rest (lS Z u)) : PSs X (st :: rest) (lS Z (dSeq t u)) := (pss_cons h1 h2).mono fun D σ H ⟨c, F, es, Dn, rp, h, nx, bk, ct, rt⟩ =>
  ⟨c, F, es, { Dn with nx := u Dn }, rp, h, fun c' σ' H' F' es' s rp' z => ⟨c', F', es', Dn, rp', z, fun _ _ _ _ _ s' r q => nx _ _ _ _ _ (s.trans s') r q, fun _ _ _ _ _ s' r q => bk _ _ _ _ _ (s.trans s') r q,
    fun _ _ _ _ _ s' r q => ct _ _ _ _ _ (s.trans s') r q, fun _ _ _ _ _ _ _ s' r k q => rt _ _ _ _ _ _ _ (s.trans s') r k q⟩, bk, ct, rt⟩
theorem ds_pass : PS X (.Pass pos) (lS Z dNext) := ps_pass.mono fun D σ H ⟨c, F, es, Dn, rp, h, nx, _⟩ => nx _ _ _ _ _ (Same.refl F) rp h
theorem ds_break : PS X (.Break pos) (lS Z dBreak) := ps_break.mono fun D σ H ⟨c, F, es, Dn, rp, h, _, bk, _⟩ => bk _ _ _ _ _ (Same.refl F) rp h
theorem ds_continue : PS X (.Continue pos) (lS Z dCont) := ps_continue.mono fun D σ H ⟨c, F, es, Dn, rp, h, _, _, ct, _⟩ => ct _ _ _ _ _ (Same.refl F) rp h
theorem ds_never : PS X st (lS Z dNever) := ps_never.mono fun D σ H ⟨_, _, _, _, _, h, _⟩ => h.elim
theorem dss_never : PSs X rest (lS Z dNever) := pss_never.mono fun D σ H ⟨_, _, _, _, _, h, _⟩ => h.elim
theorem ds_expr (he : PE X e (lE Z te)) (hs : swapsWith e none pos.line X.env = pure false := by rfl) : PS X (.Expr e pos) (lS Z (dDrop te)) := (ps_expr he hs).mono fun D σ H ⟨c, F, es, Dn, rp, h, nx, _⟩ =>
  ⟨c, F, es, _, rp, h, fun v H1 F1 d es1 s1 rp1 _ z => nx _ _ _ _ _ s1 rp1 z⟩
theorem ds_ret (he : PE X e (lE Z te)) : PS X (.Return (some e) pos) (lS Z (dRet te)) := (ps_ret he).mono fun D σ H ⟨c, F, es, Dn, rp, h, _, _, _, rt⟩ =>
  ⟨c, F, es, _, rp, h, fun v H1 F1 d es1 s1 rp1 r1 z => rt _ _ _ _ _ _ _ s1 rp1 r1 z⟩
theorem ds_retN : PS X (.Return none pos) (lS Z dRetN) := ps_retN.mono fun D σ H ⟨c, F, es, Dn, rp, h, _, _, _, rt⟩ => rt _ _ _ _ _ _ _ (Same.refl F) rp .non h
theorem ds_if {cnd : Expr} {a b : List Stmt} {tc : DT} (hc : PT X cnd (lT Z tc)) (ha : PSs X a (lS Z t)) (hb : PSs X b (lS Z u)) : PS X (.If cnd a b pos) (lS Z (dIfS tc t u)) := (ps_if hc ha hb).mono fun D σ H ⟨c, F, es, Dn, rp, h, nx, bk, ct, rt⟩ =>
  ⟨c, F, es, _, rp, h, fun k H1 F1 es1 s rp1 z => by
    cases k with
    | true =>
      rw [if_pos rfl] at z ⊢
      exact ⟨c, F1, es1, Dn, rp1, z, fun _ _ _ _ _ s' r q => nx _ _ _ _ _ (s.trans s') r q, fun _ _ _ _ _ s' r q => bk _ _ _ _ _ (s.trans s') r q, fun _ _ _ _ _ s' r q => ct _ _ _ _ _ (s.trans s') r q, fun _ _ _ _ _ _ _ s' r k q => rt _ _ _ _ _ _ _ (s.trans s') r k q⟩
    | false =>
      rw [if_neg Bool.false_ne_true] at z ⊢
      exact ⟨c, F1, es1, Dn, rp1, z, fun _ _ _ _ _ s' r q => nx _ _ _ _ _ (s.trans s') r q, fun _ _ _ _ _ s' r q => bk _ _ _ _ _ (s.trans s') r q, fun _ _ _ _ _ s' r q => ct _ _ _ _ _ (s.trans s') r q, fun _ _ _ _ _ _ _ s' r k q => rt _ _ _ _ _ _ _ (s.trans s') r k q⟩⟩
end
/-! ### targets -/
def dgName (i : Nat) : DG := fun d es Q => Q (es.set i (.val d))
def dgNil : DGs := fun ds es Q => ds = [] ∧ Q es
def dgCons (t : DG) (u : DGs) : DGs := fun ds es Q => ∃ d r, ds = d :: r ∧ t d es fun es1 => u r es1 Q
def dgTup (n : Nat) (t : DGs) : DG := fun d es Q => ∃ l, d = .tup l ∧ l.length = n ∧ t l es Q
def dAsg (te : DE) (g : DG) : DS := fun D es => te es fun d es1 => g d es1 D.nx
def dSet (i : Nat) (te : DE) : DS := fun D es => te es fun d es1 => D.nx (es1.set i (.val d))
def dSetN (i : Nat) (tn : DA) : DS := fun D es => tn es fun l es1 => D.nx (es1.set i (.own l))
def dPar (i j : Nat) (ta : DA) : DS := fun D es => ta es fun ds es1 => ∃ v w, ds = [v, w] ∧ D.nx ((es1.set i (.val v)).set j (.val w))
def dPar3 (i j l : Nat) (ta : DA) : DS := fun D es => ta es fun ds es1 => ∃ v w z, ds = [v, w, z] ∧ D.nx (((es1.set i (.val v)).set j (.val w)).set l (.val z))
section
variable {X : Cx} {Z : Zx} {e tg : Expr} {te : DE} {tn ta : DA} {pos : Pos}
theorem dg_name {i : Nat} {x : Str} (hN : X.N.Nodup) (hi : X.N[i]? = some x) (hx : Loc X.env.scope x) (hf : X.fn x = true ∨ X.env.scope.names.lookup x = some .local := by first | exact .inl rfl | exact .inr rfl | assumption) : PG X (.Name x pos) (lG Z (dgName i)) :=
  (pg_name hN hi hx hf).mono fun v σ H Q ⟨c, F, es, d, Qd, rp, r, h, q⟩ => q _ _ _ _ (Same.refl F) (rp.setVal r) h
theorem dgs_nil : PGs X [] (lGs Z dgNil) := pgs_nil.mono fun vs σ H Q ⟨c, F, es, ds, Qd, rp, r, ⟨e, h⟩, q⟩ => by
  subst e
  cases r
  exact ⟨rfl, q _ _ _ _ (Same.refl F) rp h⟩
theorem dgs_cons {es' : List Expr} {t : DG} {u : DGs} (h1 : PG X e (lG Z t)) (h2 : PGs X es' (lGs Z u))
    (hs : (assignEach (e :: es') X.env).map (·.2) = assign e X.env :: (assignEach es' X.env).map (·.2) := by rfl) : PGs X (e :: es') (lGs Z (dgCons t u)) := (pgs_cons h1 h2 hs).mono fun vs σ H Q ⟨c, F, es, ds, Qd, rp, r, ⟨d, dr, e, h⟩, q⟩ => by
  subst e
  cases r with
  | cons r rr => exact ⟨_, _, rfl, c, F, es, d, _, rp, r, h, fun σ1 H1 F1 es1 s1 rp1 z => ⟨c, F1, es1, dr, Qd, rp1, rr.ext Z.lp s1, z, fun _ _ _ _ s2 rp2 z2 => q _ _ _ _ (s1.trans s2) rp2 z2⟩⟩
theorem dg_tup {es' : List Expr} {k : Nat} {t : DGs} {n : Nat} (hK : Z.K = X.K) (hc : X.calm = true) (h : PGs X es' (lGs Z t))
    (hn : (assignEach es' X.env).length = n := by rfl) (hst : (assignEach es' X.env).findIdx? (·.1) = none := by rfl) : PG X (.Tuple es' k pos) (lG Z (dgTup n t)) := (pg_tup hc h hn hst).mono fun v σ H Q ⟨c, F, es, d, Qd, rp, r, ⟨l, e, hl, h⟩, q⟩ => by
  subst e
  obtain ⟨p, xs, rfl, h1, k1⟩ := r.tup_inv
  exact ⟨p, xs, rfl, hK ▸ seqT_same rp.bas.sm h1, by rw [k1.len]; exact hl, c, F, es, l, Qd, rp, k1, h, q⟩
theorem ds_asg {g : DG} (he : PE X e (lE Z te)) (hg : PG X tg (lG Z g)) (hs : swapsWithSole [tg] e pos.line X.env = pure false := by rfl) (hw : swappedStores [tg] e X.env = pure none := by rfl)
    (h1 : (assignEach [tg] X.env).map (·.2) = [assign tg X.env] := by rfl) : PS X (.Assign [tg] e pos) (lS Z (dAsg te g)) := (ps_asg he hg hs hw h1).mono fun D σ H ⟨c, F, es, Dn, rp, h, nx, _⟩ =>
  ⟨c, F, es, _, rp, h, fun v H1 F1 d es1 s1 rp1 r1 z => ⟨c, F1, es1, d, _, rp1, r1, z, fun _ _ _ _ s2 rp2 z2 => nx _ _ _ _ _ (s1.trans s2) rp2 z2⟩⟩
theorem ds_set {i : Nat} {x : Str} {pos' : Pos} (hN : X.N.Nodup) (hi : X.N[i]? = some x) (hx : Loc X.env.scope x) (he : PE X e (lE Z te)) (hs : swapsWith e (some (.Name x pos')) pos.line X.env = pure false := by rfl) (hf : X.fn x = true ∨ X.env.scope.names.lookup x = some .local := by first | exact .inl rfl | exact .inr rfl | assumption) :
    PS X (.Assign [.Name x pos'] e pos) (lS Z (dSet i te)) := (ps_set hN hi hx he hs hf).mono fun D σ H ⟨c, F, es, Dn, rp, h, nx, _⟩ =>
  ⟨c, F, es, _, rp, h, fun v H1 F1 d es1 s1 rp1 r1 z => nx _ _ _ _ _ s1 (rp1.setVal r1) z⟩
theorem ds_setN {i : Nat} {x : Str} {pos' : Pos} (hN : X.N.Nodup) (hi : X.N[i]? = some x) (hx : Loc X.env.scope x) (he : PE X e (lN Z tn)) (hs : swapsWith e (some (.Name x pos')) pos.line X.env = pure false := by rfl) (hf : X.fn x = true ∨ X.env.scope.names.lookup x = some .local := by first | exact .inl rfl | exact .inr rfl | assumption) :
    PS X (.Assign [.Name x pos'] e pos) (lS Z (dSetN i tn)) := (ps_set hN hi hx he hs hf).mono fun D σ H ⟨c, F, es, Dn, rp, h, nx, _⟩ =>
  ⟨c, F, es, _, rp, h, fun p H1 F1 l es1 s1 rp1 n1 z => nx _ _ _ _ _ s1 (rp1.setOwn n1) z⟩
theorem ds_par {i j : Nat} {x y : Str} {a b : Expr} {px py pt : Pos} {kt k2 pt2} (hc : X.calm = true) (hN : X.N.Nodup) (hi : X.N[i]? = some x) (hj : X.N[j]? = some y) (hij : i ≠ j)
    (hx : X.env.scope.names.lookup x = some .local) (hy : X.env.scope.names.lookup y = some .local) (ha : PA X [a, b] (lA Z ta))
    (hw : swappedStores [.Tuple [.Name x px, .Name y py] kt pt] (.Tuple [a, b] k2 pt2) X.env = pure (some [x, y]))
    (hs : swapsWithSole [.Tuple [.Name x px, .Name y py] kt pt] (.Tuple [a, b] k2 pt2) pos.line X.env = pure false := by rfl) :
    PS X (.Assign [.Tuple [.Name x px, .Name y py] kt pt] (.Tuple [a, b] k2 pt2) pos) (lS Z (dPar i j ta)) := (ps_par hc hN hi hj hij hx hy ha hw hs).mono fun D σ H ⟨c, F, es, Dn, rp, h, nx, _⟩ =>
  ⟨c, F, es, _, rp, h, fun vs H1 F1 ds es1 s1 rp1 r1 ⟨v, w, e, z⟩ => by
    subst e
    cases r1 with
    | cons r1 r2 =>
      cases r2 with
      | cons r2 r3 =>
        cases r3
        exact ⟨_, _, rfl, nx _ _ _ _ _ s1 ((rp1.setVal r1).setVal r2) z⟩⟩
/-! ### calls of built-ins by data -/
def Call1 (Z : Zx) (r : List V → Hp → VK → Prop) (k : List Dv → List Sl → DK → Prop) : Prop := ∀ (c : Option Addr) (F H : Hp) (σ : L2.St) (es : List Sl) (ds : List Dv) (vs : List V) (Q : VK) (Qd : DK), Rep Z c H F σ es → Z.RA F vs ds → k ds es Qd →
  (∀ v' H' F' d es', Same F F' → Rep Z c H' F' σ es' → Z.R F' v' d → Qd d es' → Q v' H') → r vs H Q
def dCall (k : List Dv → List Sl → DK → Prop) (ta : DA) : DE := fun es Q => ta es fun ds es1 => k ds es1 Q
theorem call1 {r : List V → Hp → VK → Prop} {k : List Dv → List Sl → DK → Prop} (hk : Call1 Z r k) : ∀ σ H Q, lE Z (dCall k ta) σ H Q → tCB r (lA Z ta) σ H Q := fun σ H Q ⟨c, F, es, Qd, rp, h, q⟩ =>
  ⟨c, F, es, _, rp, h, fun vs H1 F1 ds es1 s1 rp1 r1 h1 => hk c F1 H1 σ es1 ds vs Q Qd rp1 r1 h1 fun v' H' F' d es' s3 rp3 r3 z => q v' H' F' d es' (s1.trans s3) rp3 r3 z⟩
def Call1N (Z : Zx) (r : List V → Hp → VK → Prop) (k : List Dv → List Sl → (List Dv → List Sl → Prop) → Prop) : Prop := ∀ (c : Option Addr) (F H : Hp) (σ : L2.St) (es : List Sl) (ds : List Dv) (vs : List V) (Q : VK) (Qd : List Dv → List Sl → Prop), Rep Z c H F σ es → Z.RA F vs ds → k ds es Qd →
  (∀ p H' F' d es', Same F F' → Rep Z c H' F' σ es' → New Z c H' F' σ es' p d → Qd d es' → Q (.ref p) H') → r vs H Q
def dCallN (k : List Dv → List Sl → (List Dv → List Sl → Prop) → Prop) (ta : DA) : DA := fun es Q => ta es fun ds es1 => k ds es1 Q
theorem call1N {r : List V → Hp → VK → Prop} {k : List Dv → List Sl → (List Dv → List Sl → Prop) → Prop} (hk : Call1N Z r k) : ∀ σ H Q, lN Z (dCallN k ta) σ H Q → tCB r (lA Z ta) σ H Q := fun σ H Q ⟨c, F, es, Qd, rp, h, q⟩ =>
  ⟨c, F, es, _, rp, h, fun vs H1 F1 ds es1 s1 rp1 r1 h1 => hk c F1 H1 σ es1 ds vs Q Qd rp1 r1 h1 fun v' H' F' d es' s3 rp3 r3 z => q v' H' F' d es' (s1.trans s3) rp3 r3 z⟩
variable {r : List V → Hp → VK → Prop} {k : List Dv → List Sl → DK → Prop} {k' : List Dv → List Sl → (List Dv → List Sl → Prop) → Prop} {x : Str} {p : Pos} {id T : String} {es' : List Expr}
theorem de_callB (hk : Call1 Z r k) (hc : CallR X (.builtin id) r) (hg : Gl X x) (hm : X.mg x = none) (hv : bootBuiltins x = some (.builtin id)) (ha : PA X (e :: es') (lA Z ta)) (hn : x ≠ "__name__" := by decide) (hdb : (x == ("__debug__" : Str)) = false := by decide)
    (he : starEach (e :: es') X.env = (false, eval e X.env) :: starEach es' X.env := by rfl) (hpl : (backTo pos (starEach es' X.env)).any (·.1) = false := by rfl) : PE X (.Call (.Name x p) (e :: es') [] pos) (lE Z (dCall k ta)) := (pe_callB hc hg hm hv ha hn hdb he hpl).mono (call1 hk)
theorem de_callTy (hk : Call1 Z r k) (hc : CallR X (.type T) r) (hg : Gl X x) (hm : X.mg x = none) (hv : bootBuiltins x = some (.type T)) (ha : PA X (e :: es') (lA Z ta)) (hn : x ≠ "__name__" := by decide) (hdb : (x == ("__debug__" : Str)) = false := by decide)
    (he : starEach (e :: es') X.env = (false, eval e X.env) :: starEach es' X.env := by rfl) (hpl : (backTo pos (starEach es' X.env)).any (·.1) = false := by rfl) : PE X (.Call (.Name x p) (e :: es') [] pos) (lE Z (dCall k ta)) := (pe_callTy hc hg hm hv ha hn hdb he hpl).mono (call1 hk)
theorem dn_callB (hk : Call1N Z r k') (hc : CallR X (.builtin id) r) (hg : Gl X x) (hm : X.mg x = none) (hv : bootBuiltins x = some (.builtin id)) (ha : PA X (e :: es') (lA Z ta)) (hn : x ≠ "__name__" := by decide) (hdb : (x == ("__debug__" : Str)) = false := by decide)
    (he : starEach (e :: es') X.env = (false, eval e X.env) :: starEach es' X.env := by rfl) (hpl : (backTo pos (starEach es' X.env)).any (·.1) = false := by rfl) : PE X (.Call (.Name x p) (e :: es') [] pos) (lN Z (dCallN k' ta)) := (pe_callB hc hg hm hv ha hn hdb he hpl).mono (call1N hk)
theorem dn_callTy (hk : Call1N Z r k') (hc : CallR X (.type T) r) (hg : Gl X x) (hm : X.mg x = none) (hv : bootBuiltins x = some (.type T)) (ha : PA X (e :: es') (lA Z ta)) (hn : x ≠ "__name__" := by decide) (hdb : (x == ("__debug__" : Str)) = false := by decide)
    (he : starEach (e :: es') X.env = (false, eval e X.env) :: starEach es' X.env := by rfl) (hpl : (backTo pos (starEach es' X.env)).any (·.1) = false := by rfl) : PE X (.Call (.Name x p) (e :: es') [] pos) (lN Z (dCallN k' ta)) := (pe_callTy hc hg hm hv ha hn hdb he hpl).mono (call1N hk)
/-- len of a list, tuple, text, script -/
def kLen : List Dv → List Sl → DK → Prop := fun ds es Q => ∃ d, ds = [d] ∧ match d with
  | .lst l => Q (.int l.length) es
  | .tup l => Q (.int l.length) es
  | .scr l => Q (.int l.length) es
  | .str z => z.length ≤ sizeLine ∧ Q (.int z.length) es
  | _ => False
theorem ra1 {K : PySem.W.Frag} {LP : Nat → Addr → Hp → Prop} {F : Hp} {vs : List V} {d : Dv} (h : RpA K LP F vs [d]) : ∃ v, vs = [v] ∧ Rp K LP F v d := by
  cases h with | cons h k => cases k; exact ⟨_, rfl, h⟩
theorem ra2 {K : PySem.W.Frag} {LP : Nat → Addr → Hp → Prop} {F : Hp} {vs : List V} {d d' : Dv} (h : RpA K LP F vs [d, d']) : ∃ v v', vs = [v, v'] ∧ Rp K LP F v d ∧ Rp K LP F v' d' := by
  cases h with | cons h k => cases k with | cons h2 k => cases k; exact ⟨_, _, rfl, h, h2⟩
theorem c_len : Call1 Z (fun xs H Q => ∃ x n, xs = [x] ∧ LenV Z.K x H n ∧ Q (.int n) H) kLen := by
  rintro c F H σ es ds vs Q Qd rp ra ⟨d, rfl, h⟩ q
  obtain ⟨v, rfl, r⟩ := ra1 ra
  cases d with
  | lst l =>
    obtain ⟨p, xs, rfl, h1, k1⟩ := r.lst_inv
    exact ⟨_, xs.length, rfl, .inl ⟨xs, SqL.of (rp.bas.sm _ _ h1), rfl⟩, by rw [k1.len]; exact q _ _ _ _ _ (Same.refl F) rp (.int _) h⟩
  | tup l =>
    obtain ⟨p, xs, rfl, h1, k1⟩ := r.tup_inv
    exact ⟨_, xs.length, rfl, .inr ⟨xs, seqT_same rp.bas.sm h1, rfl⟩, by rw [k1.len]; exact q _ _ _ _ _ (Same.refl F) rp (.int _) h⟩
  | scr l =>
    obtain ⟨p, rfl, h1⟩ := r.scr_inv
    exact ⟨_, (l.map V.int).length, rfl, .inl ⟨_, rp.bas.sm.seq h1, rfl⟩, by rw [List.length_map]; exact q _ _ _ _ _ (Same.refl F) rp (.int _) h⟩
  | str z =>
    obtain ⟨hz, h⟩ := h
    cases r.str_inv
    exact ⟨_, z.length, rfl, ⟨hz, rfl⟩, q _ _ _ _ _ (Same.refl F) rp (.int _) h⟩
  | _ => exact h.elim
theorem c_abs : Call1 Z (fun xs H Q => ∃ i, xs = [.int i] ∧ Q (.int (if i < 0 then -i else i)) H) (fun ds es Q => ∃ i, ds = [.int i] ∧ Q (.int (if i < 0 then -i else i)) es) := by
  rintro c F H σ es ds vs Q Qd rp ra ⟨i, rfl, h⟩ q
  obtain ⟨v, rfl, r⟩ := ra1 ra
  cases r.int_inv
  exact ⟨i, rfl, q _ _ _ _ _ (Same.refl F) rp (.int _) h⟩
theorem c_max2 : Call1 Z (fun xs H Q => ∃ i j, xs = [.int i, .int j] ∧ Q (.int (if j > i then j else i)) H) (fun ds es Q => ∃ i j, ds = [.int i, .int j] ∧ Q (.int (if j > i then j else i)) es) := by
  rintro c F H σ es ds vs Q Qd rp ra ⟨i, j, rfl, h⟩ q
  obtain ⟨v, v', rfl, r, r'⟩ := ra2 ra
  cases r.int_inv; cases r'.int_inv
  exact ⟨i, j, rfl, q _ _ _ _ _ (Same.refl F) rp (.int _) h⟩
theorem c_min2 : Call1 Z (fun xs H Q => ∃ i j, xs = [.int i, .int j] ∧ Q (.int (if j < i then j else i)) H) (fun ds es Q => ∃ i j, ds = [.int i, .int j] ∧ Q (.int (if j < i then j else i)) es) := by
  rintro c F H σ es ds vs Q Qd rp ra ⟨i, j, rfl, h⟩ q
  obtain ⟨v, v', rfl, r, r'⟩ := ra2 ra
  cases r.int_inv; cases r'.int_inv
  exact ⟨i, j, rfl, q _ _ _ _ _ (Same.refl F) rp (.int _) h⟩
theorem c_str : Call1 Z (fun xs H Q => ∃ i, xs = [.int i] ∧ i.natAbs.log2 < 1920 ∧ Q (.str (toString i)) H) (fun ds es Q => ∃ i : Int, ds = [.int i] ∧ i.natAbs.log2 < 1920 ∧ Q (.str (toString i)) es) := by
  rintro c F H σ es ds vs Q Qd rp ra ⟨i, rfl, hl, h⟩ q
  obtain ⟨v, rfl, r⟩ := ra1 ra
  cases r.int_inv
  exact ⟨i, rfl, hl, q _ _ _ _ _ (Same.refl F) rp (.str _) h⟩
theorem c_int : Call1 Z (fun xs H Q => (∃ i, xs = [.int i] ∧ Q (.int i) H) ∨ ∃ k, xs = [.bl k] ∧ Q (.int (if k then 1 else 0)) H) (fun ds es Q => (∃ i, ds = [.int i] ∧ Q (.int i) es) ∨ ∃ k, ds = [.bl k] ∧ Q (.int (if k then 1 else 0)) es) := by
  rintro c F H σ es ds vs Q Qd rp ra (⟨i, rfl, h⟩ | ⟨i, rfl, h⟩) q
  · obtain ⟨v, rfl, r⟩ := ra1 ra
    cases r.int_inv
    exact .inl ⟨i, rfl, q _ _ _ _ _ (Same.refl F) rp (.int _) h⟩
  · obtain ⟨v, rfl, r⟩ := ra1 ra
    cases r.bl_inv
    exact .inr ⟨i, rfl, q _ _ _ _ _ (Same.refl F) rp (.int _) h⟩
/-- tuple(a list), tuple(a tuple) -/
def kTuple : List Dv → List Sl → DK → Prop := fun ds es Q => ∃ l, (ds = [.lst l] ∨ ds = [.tup l]) ∧ Q (.tup l) es
theorem c_tuple : Call1 Z (fun xs H Q => ∃ p ys, xs = [.ref p] ∧ ((SqL Z.K H p ys ∧ ∀ l, H l = none → Q (.ref l) (upd H l (.tup ys))) ∨ (SqT Z.K H p ys ∧ Q (.ref p) H))) kTuple := by
  rintro c F H σ es ds vs Q Qd rp ra ⟨l, h, z⟩ q
  rcases h with rfl | rfl
  · obtain ⟨v, rfl, r⟩ := ra1 ra
    obtain ⟨p, xs, rfl, h1, k1⟩ := r.lst_inv
    refine ⟨p, xs, rfl, .inl ⟨SqL.of (rp.bas.sm _ _ h1), fun t ht => ?_⟩⟩
    have s2 := same_upd (o := HO.tup xs) (F_none rp ht)
    exact q _ _ _ _ _ s2 (rp.frz (o := .tup xs) ht (fun _ z => by cases z)) (.tup (SqT.of upd_same) (k1.ext Z.lp s2)) z
  · obtain ⟨v, rfl, r⟩ := ra1 ra
    obtain ⟨p, xs, rfl, h1, k1⟩ := r.tup_inv
    exact ⟨p, xs, rfl, .inr ⟨seqT_same rp.bas.sm h1, q _ _ _ _ _ (Same.refl F) rp r z⟩⟩
theorem c_list : Call1N Z (fun xs H Q => ∃ p ys, xs = [.ref p] ∧ (SqL Z.K H p ys ∨ SqT Z.K H p ys) ∧ ∀ l, H l = none → Q (.ref l) (upd H l (.lst ys))) (fun ds es Q => ∃ l, (ds = [.lst l] ∨ ds = [.tup l]) ∧ Q l es) := by
  rintro c F H σ es ds vs Q Qd rp ra ⟨l, h, z⟩ q
  rcases h with rfl | rfl
  · obtain ⟨v, rfl, r⟩ := ra1 ra
    obtain ⟨p, xs, rfl, h1, k1⟩ := r.lst_inv
    refine ⟨p, xs, rfl, .inl (SqL.of (rp.bas.sm _ _ h1)), fun t ht => ?_⟩
    obtain ⟨rp2, n2⟩ := rp.new ht k1
    exact q _ _ _ _ _ (Same.refl F) rp2 n2 z
  · obtain ⟨v, rfl, r⟩ := ra1 ra
    obtain ⟨p, xs, rfl, h1, k1⟩ := r.tup_inv
    refine ⟨p, xs, rfl, .inr (seqT_same rp.bas.sm h1), fun t ht => ?_⟩
    obtain ⟨rp2, n2⟩ := rp.new ht k1
    exact q _ _ _ _ _ (Same.refl F) rp2 n2 z
/-- all, any of bools -/
theorem c_all : Call1 Z (rAll Z.K) (fun ds es Q => ∃ bs : List Bool, ds = [.lst (bs.map Dv.bl)] ∧ Q (.bl (bs.all _root_.id)) es) := by
  rintro c F H σ es ds vs Q Qd rp ra ⟨bs, rfl, z⟩ q
  obtain ⟨v, rfl, r⟩ := ra1 ra
  obtain ⟨p, xs, rfl, h1, k1⟩ := r.lst_inv
  have e := k1.toBls
  subst e
  exact ⟨p, bs, rfl, SqL.of (rp.bas.sm _ _ h1), q _ _ _ _ _ (Same.refl F) rp (.bl _) z⟩
theorem c_any : Call1 Z (rAny Z.K) (fun ds es Q => ∃ bs : List Bool, ds = [.lst (bs.map Dv.bl)] ∧ Q (.bl (bs.any _root_.id)) es) := by
  rintro c F H σ es ds vs Q Qd rp ra ⟨bs, rfl, z⟩ q
  obtain ⟨v, rfl, r⟩ := ra1 ra
  obtain ⟨p, xs, rfl, h1, k1⟩ := r.lst_inv
  have e := k1.toBls
  subst e
  exact ⟨p, bs, rfl, SqL.of (rp.bas.sm _ _ h1), q _ _ _ _ _ (Same.refl F) rp (.bl _) z⟩
theorem c_sum : Call1 Z (rSum Z.K) (fun ds es Q => ∃ bs : List Int, ds = [.lst (bs.map Dv.int)] ∧ Q (.int bs.sum) es) := by
  rintro c F H σ es ds vs Q Qd rp ra ⟨bs, rfl, z⟩ q
  obtain ⟨v, rfl, r⟩ := ra1 ra
  obtain ⟨p, xs, rfl, h1, k1⟩ := r.lst_inv
  have e := k1.toInts
  subst e
  exact ⟨p, bs, rfl, SqL.of (rp.bas.sm _ _ h1), q _ _ _ _ _ (Same.refl F) rp (.int _) z⟩
end
end My

end
section
set_option maxRecDepth 100000
set_option maxHeartbeats 1000000
open PySem L2 LamX
namespace My
/-! ### isinstance by data -/
def Dv.tyn : Dv → String
  | .non => "NoneType" | .bl _ => "bool" | .int _ => "int" | .str _ => "str" | .lst _ => "list" | .tup _ => "tuple" | .dct _ _ => "dict" | .scr _ => "list" | .lam _ => "function"
/-- isinstance(d, T) -/
def Dv.isi (d : Dv) (T : String) : Bool := match d with
  | .non => false
  | .bl _ => T == "bool" || T == "int"
  | .int _ => T == "int"
  | .str _ => T == "str"
  | .lst _ => T == "list"
  | .tup _ => T == "tuple"
  | .dct _ _ => T == "dict"
  | _ => false
def Dv.plain : Dv → Bool
  | .scr _ | .lam _ => false
  | _ => true
theorem sqT_ty {K : PySem.W.Frag} {H : Hp} {p : Addr} {xs : List V} (h : SqT K H p xs) : TyX K H (.ref p) (.type "tuple") := by
  rcases h with (h | ⟨o, h⟩) | ⟨o, its, n, hk, hc, _⟩
  · exact .base (.tup h)
  · exact .fTuple h
  · exact .kTuple hk hc
theorem Rp.ty {K : PySem.W.Frag} {LP : Nat → Addr → Hp → Prop} {F H : Hp} (s : Same F H) {v : V} {d : Dv} (r : Rp K LP F v d) (hp : d.plain = true) : TyX K H v (.type d.tyn) := by
  cases r with
  | non => exact .base .non
  | bl b => exact .base (.bl b)
  | int i => exact .base (.int i)
  | str x => exact .base (.str x)
  | lst h k => exact .base (.lst (s _ _ h))
  | tup h k => exact sqT_ty (seqT_same s h)
  | dct h e k => exact .base (.dK (s _ _ h))
  | scr h => cases hp
  | lam h => cases hp
theorem kitT {K : PySem.W.Frag} {d : Dv} (hp : d.plain = true) {T : String} (hT : T ∈ ["bool", "int", "str", "list", "tuple", "dict"]) : PySem.W.kitOne K (.type d.tyn) (.type T) = some (d.isi T) := by
  simp only [List.mem_cons, List.not_mem_nil, or_false] at hT
  rcases hT with rfl | rfl | rfl | rfl | rfl | rfl <;> cases d <;> first | (cases hp; done) | (apply kit_ty; simp only [Dv.tyn, Dv.isi]; decide +kernel)
section
variable {X : Cx} {Z : Zx} {e : Expr} {te : DE} {pos : Pos}
/-- isinstance(e, T) -/
def dIsi (T : String) (te : DE) : DE := fun es Q => te es fun d es1 => d.plain = true ∧ Q (.bl (d.isi T)) es1
theorem de_isi {T : String} {x : Expr} {p : Pos} (hK : Z.K = X.K) (hT : T ∈ ["bool", "int", "str", "list", "tuple", "dict"]) (hg : Gl X "isinstance") (hm : X.mg "isinstance" = none) (he : PE X e (lE Z te)) (ht : PE X x (tC (.ty T)))
    (h1 : starEach [e, x] X.env = (false, eval e X.env) :: starEach [x] X.env := by rfl) (h2 : starEach [x] X.env = (false, eval x X.env) :: starEach [] X.env := by rfl) (hpl : (backTo pos (starEach [x] X.env)).any (·.1) = false := by rfl) :
    PE X (.Call (.Name "isinstance" p) [e, x] [] pos) (lE Z (dIsi T te)) := (pe_callB call_isi hg hm (by decide +kernel) (pa_cons he (pa_cons ht pa_nil h2) h1) (by decide) (by decide) h1 hpl).mono fun σ H Q ⟨c, F, es, Qd, rp, h, q⟩ =>
  ⟨c, F, es, _, rp, h, fun v H1 F1 d es1 s1 rp1 r1 ⟨hp, z⟩ => ⟨v, .ty T, .type d.tyn, .type T, _, rfl, .ty T, hK ▸ r1.ty rp1.bas.sm hp, kitT hp hT, q _ _ _ _ _ s1 rp1 (.bl _) z⟩⟩
/-- isinstance(e, (T1, T2)) -/
def dIsi2 (T U : String) (te : DE) : DE := fun es Q => te es fun d es1 => d.plain = true ∧ Q (.bl (d.isi T || d.isi U)) es1
theorem de_isi2 {T U : String} {x y : Expr} {p pt : Pos} {kt} (hK : Z.K = X.K) (hT : T ∈ ["bool", "int", "str", "list", "tuple", "dict"]) (hU : U ∈ ["bool", "int", "str", "list", "tuple", "dict"]) (hg : Gl X "isinstance") (hm : X.mg "isinstance" = none) (he : PE X e (lE Z te)) (ht : PE X x (tC (.ty T))) (hu : PE X y (tC (.ty U)))
    (h1 : starEach [e, .Tuple [x, y] kt pt] X.env = (false, eval e X.env) :: starEach [.Tuple [x, y] kt pt] X.env := by rfl) (h2 : starEach [.Tuple [x, y] kt pt] X.env = (false, eval (.Tuple [x, y] kt pt) X.env) :: starEach [] X.env := by rfl) (hpl : (backTo pos (starEach [.Tuple [x, y] kt pt] X.env)).any (·.1) = false := by rfl)
    (h3 : starEach [x, y] X.env = (false, eval x X.env) :: starEach [y] X.env := by rfl) (h4 : starEach [y] X.env = (false, eval y X.env) :: starEach [] X.env := by rfl) :
    PE X (.Call (.Name "isinstance" p) [e, .Tuple [x, y] kt pt] [] pos) (lE Z (dIsi2 T U te)) := (pe_callB call_isiT hg hm (by decide +kernel) (pa_cons he (pa_cons (pe_tup (pa_cons ht (pa_cons hu pa_nil h4) h3)) pa_nil h2) h1) (by decide) (by decide) h1 hpl).mono fun σ H Q ⟨c, F, es, Qd, rp, h, q⟩ =>
  ⟨c, F, es, _, rp, h, fun v H1 F1 d es1 s1 rp1 r1 ⟨hp, z⟩ => ⟨by show 2 ≤ sizeLine; decide, fun t ht => by
    have s2 := same_upd (o := HO.tup [V.ty T, V.ty U]) ht
    refine ⟨v, t, _, .type d.tyn, [.type T, .type U], d.isi T || d.isi U, rfl, upd_same, .cons (.ty _) (.cons (.ty _) .nil), hK ▸ r1.ty (rp1.bas.sm.trans s2) hp, ?_, q _ _ _ _ _ s1 (rp1.same s2) (.bl _) z⟩
    refine kitAny_cons (kitT hp hT) (fun z => kitAny_cons (kitT hp hU) (fun y => ?_) (fun y => ?_)) (fun z => ?_)
    · rw [z, y]; rfl
    · rw [z, y]; rfl
    · rw [z]; rfl⟩⟩
end
/-! ### indices, slices -/
def kIx : K2 := fun x y es Q => ∃ i, y = .int i ∧ match x with
  | .lst l => ∃ d, atI l i = some d ∧ Q d es
  | .tup l => ∃ d, atI l i = some d ∧ Q d es
  | .str z => z.length ≤ sizeLine ∧ ∃ c, atI z.cps.toList i = some c ∧ Q (.str ⟨#[c]⟩) es
  | .scr l => ∃ d, atI l i = some d ∧ Q (.int d) es
  | _ => False
theorem ra_atI {K : PySem.W.Frag} {LP : Nat → Addr → Hp → Prop} {F : Hp} {xs : List V} {l : List Dv} (k : RpA K LP F xs l) {i : Int} {d : Dv} (h : atI l i = some d) : ∃ v, atI xs i = some v ∧ Rp K LP F v d := by
  unfold atI at h ⊢
  rw [k.len]
  cases e : ixN l.length i with
  | none => rw [e] at h; cases h
  | some j =>
    rw [e] at h
    exact k.get h
theorem atI_map {α β : Type} (f : α → β) (l : List α) (i : Int) {d : α} (h : atI l i = some d) : atI (l.map f) i = some (f d) := by
  unfold atI at h ⊢
  rw [List.length_map]
  cases e : ixN l.length i with
  | none => rw [e] at h; cases h
  | some j =>
    rw [e] at h
    show (l.map f)[j]? = _
    rw [List.getElem?_map, show l[j]? = some d from h]; rfl
section
variable {X : Cx} {Z : Zx} {e a b : Expr} {te ta tb : DE} {pos : Pos}
theorem o_ix : Op2 Z (rIx Z.K) kIx := by
  rintro c F H σ es x y v u Q Qd rp r1 r2 ⟨i, rfl, h⟩ q
  cases r2.int_inv
  cases x with
  | lst l =>
    obtain ⟨d, hd, z⟩ := h
    obtain ⟨p, xs, rfl, h1, k1⟩ := r1.lst_inv
    obtain ⟨w, hw, rw⟩ := ra_atI k1 hd
    exact .inl ⟨p, xs, i, w, rfl, rfl, SqL.of (rp.bas.sm _ _ h1), hw, q _ _ _ _ _ (Same.refl F) rp rw z⟩
  | tup l =>
    obtain ⟨d, hd, z⟩ := h
    obtain ⟨p, xs, rfl, h1, k1⟩ := r1.tup_inv
    obtain ⟨w, hw, rw⟩ := ra_atI k1 hd
    exact .inr (.inl ⟨p, xs, i, w, rfl, rfl, seqT_same rp.bas.sm h1, hw, q _ _ _ _ _ (Same.refl F) rp rw z⟩)
  | str z =>
    obtain ⟨hz, cc, hc, z⟩ := h
    cases r1.str_inv
    exact .inr (.inr ⟨_, i, cc, rfl, rfl, hz, hc, q _ _ _ _ _ (Same.refl F) rp (.str _) z⟩)
  | scr l =>
    obtain ⟨d, hd, z⟩ := h
    obtain ⟨p, rfl, h1⟩ := r1.scr_inv
    exact .inl ⟨p, _, i, .int d, rfl, rfl, rp.bas.sm.seq h1, atI_map V.int l i hd, q _ _ _ _ _ (Same.refl F) rp (.int _) z⟩
  | _ => exact h.elim
/-- x[i], x a list of one's own or data: nothing is frozen -/
def dNIx (n : Nat) (ti : DE) : DE := fun es Q => (match es[n]? with | some (.own _) | some (.val _) => True | _ => False) ∧ ti es fun y es1 => match es1[n]? with
  | some (.own l) => ∃ i d, y = .int i ∧ atI l i = some d ∧ Q d es1
  | some (.val x) => kIx x y es1 Q
  | _ => False
theorem de_nix {i : Expr} {n : Nat} {x : Str} {px : Pos} (hK : Z.K = X.K) (hN : X.N[n]? = some x) (hv : Vis X.env.scope x) (hi : PE X i (lE Z te)) (hs : PlainIx i) (hd : (x == ("__debug__" : Str)) = false := by decide) (hcd : (x == ("__classdict__" : Str)) = false := by decide) :
    PE X (.Subscript (.Name x px) i pos) (lE Z (dNIx n te)) := (pe_ix ix_seq (pe_var hN hv hd hcd) hi hs).mono fun σ H Q ⟨c, F, es, Qd, rp, ⟨h0, h⟩, q⟩ => by
  have hv : ∃ v, σ[n]? = some (some v) := by
    cases he : es[n]? with
    | none => rw [he] at h0; exact h0.elim
    | some s =>
      rw [he] at h0
      cases s with
      | own l => obtain ⟨p, h1, _⟩ := rp.own he; exact ⟨_, h1⟩
      | val d => obtain ⟨p, h1, _⟩ := rp.val he; exact ⟨_, h1⟩
      | any => exact h0.elim
      | stt => exact h0.elim
  obtain ⟨v, hv⟩ := hv
  refine ⟨v, hv, c, F, es, _, rp, h, fun u H1 F1 y es1 s1 rp1 r1 z => ?_⟩
  cases he : es1[n]? with
  | none => rw [he] at z; exact z.elim
  | some s =>
    rw [he] at z
    cases s with
    | own l =>
      obtain ⟨i, d, rfl, hd, z⟩ := z
      cases r1.int_inv
      obtain ⟨p, h1, o⟩ := rp1.own he
      rw [hv] at h1
      cases h1
      obtain ⟨vs, h2, k2⟩ := o.ex
      obtain ⟨w, hw, rw⟩ := ra_atI k2 hd
      exact .inl ⟨p, vs, i, w, rfl, rfl, SqL.of h2, hw, q _ _ _ _ _ s1 rp1 rw z⟩
    | val d =>
      obtain ⟨w, h1, k⟩ := rp1.val he
      rw [hv] at h1
      cases h1
      exact hK ▸ o_ix c F1 H1 σ es1 d y v u Q Qd rp1 k r1 z fun v' H' F' d' es' s2 r2 k2 z2 => q _ _ _ _ _ (s1.trans s2) r2 k2 z2
    | any => exact z.elim
    | stt => exact z.elim
/-- len(x), x a list of one's own or data -/
def dNLen (n : Nat) : DE := fun es Q => match es[n]? with
  | some (.own l) => Q (.int l.length) es
  | some (.val x) => kLen [x] es Q
  | _ => False
theorem de_nlen {n : Nat} {x : Str} {px p : Pos} (hK : Z.K = X.K) (hg : Gl X "len") (hm : X.mg "len" = none) (hN : X.N[n]? = some x) (hv : Vis X.env.scope x) (hd : (x == ("__debug__" : Str)) = false := by decide) (hcd : (x == ("__classdict__" : Str)) = false := by decide)
    (hs : starEach [Expr.Name x px] X.env = (false, eval (.Name x px) X.env) :: starEach [] X.env := by rfl) (hpl : (backTo pos (starEach [] X.env)).any (·.1) = false := by rfl) :
    PE X (.Call (.Name "len" p) [.Name x px] [] pos) (lE Z (dNLen n)) := (pe_callB call_len hg hm PySem.boot_len (pa_cons (pe_var hN hv hd hcd) pa_nil hs) (by decide) (by decide) hs hpl).mono fun σ H Q ⟨c, F, es, Qd, rp, h, q⟩ => by
  unfold dNLen at h
  cases he : es[n]? with
  | none => rw [he] at h; exact h.elim
  | some s =>
    rw [he] at h
    cases s with
    | own l =>
      obtain ⟨p, h1, o⟩ := rp.own he
      obtain ⟨vs, h2, k2⟩ := o.ex
      exact ⟨_, h1, _, vs.length, rfl, .inl ⟨vs, SqL.of h2, rfl⟩, by rw [k2.len]; exact q _ _ _ _ _ (Same.refl F) rp (.int _) h⟩
    | val d =>
      obtain ⟨w, h1, k⟩ := rp.val he
      exact ⟨_, h1, hK ▸ c_len c F H σ es [d] [w] Q Qd rp (.cons k .nil) h q⟩
    | any => exact h.elim
    | stt => exact h.elim
/-- slices -/
abbrev DO := List Sl → (Option Int → List Sl → Prop) → Prop
def lO (Z : Zx) (t : DO) : TO := fun σ H Q => ∃ c F es Qd, Rep Z c H F σ es ∧ t es Qd ∧ ∀ b H' F' es', Same F F' → Rep Z c H' F' σ es' → Qd b es' → Q b H'
def dNoPart : DO := fun es Q => Q none es
def dPart (t : DE) : DO := fun es Q => t es fun x es1 => ∃ i, x = .int i ∧ Q (some i) es1
theorem PO_mono {o : Option Expr} {t t' : TO} (p : PO X o t) (h : ∀ σ H Q, t' σ H Q → t σ H Q) : PO X o t' := ⟨fun pins s σ H Q I z => p.run pins s σ H Q I (h σ H Q z)⟩
theorem do_none : PO X none (lO Z dNoPart) := PO_mono po_none fun σ H Q ⟨c, F, es, Qd, rp, h, q⟩ => q _ _ _ _ (Same.refl F) rp h
theorem do_some (h : PE X e (lE Z te)) : PO X (some e) (lO Z (dPart te)) := PO_mono (po_some h) fun σ H Q ⟨c, F, es, Qd, rp, h, q⟩ => ⟨c, F, es, _, rp, h, fun v H1 F1 d es1 s1 rp1 r1 ⟨i, e, z⟩ => by
  subst e
  exact ⟨i, r1.int_inv, q _ _ _ _ s1 rp1 z⟩⟩
def cutD (xs : List Dv) (lo hi : Option Int) : List Dv := (xs.drop (HT.sIx xs.length 0 lo)).take (HT.sIx xs.length xs.length hi - HT.sIx xs.length 0 lo)
theorem ra_cut {K : PySem.W.Frag} {LP : Nat → Addr → Hp → Prop} {F : Hp} {xs : List V} {l : List Dv} (k : RpA K LP F xs l) (lo hi : Option Int) : RpA K LP F (cutV xs lo hi) (cutD l lo hi) := by
  unfold cutV cutD
  rw [k.len]
  exact k.drop.take
/-- e[lo:hi] of a list: a new list -/
def dSlN (te : DE) (tl th : DO) : DA := fun es Q => te es fun x es1 => tl es1 fun l es2 => th es2 fun u es3 => ∃ xs, x = .lst xs ∧ Q (cutD xs l u) es3
theorem dn_slice {lo hi : Option Expr} {p2 : Pos} {tl th : DO} (hK : Z.K = X.K) (he : PE X e (lE Z te)) (hl : PO X lo (lO Z tl)) (hu : PO X hi (lO Z th)) : PE X (.Subscript e (.Slice lo hi none p2) pos) (lN Z (dSlN te tl th)) := (pe_slice sl_list he hl hu).mono fun σ H Q ⟨c, F, es, Qd, rp, h, q⟩ =>
  ⟨c, F, es, _, rp, h, fun v H1 F1 d es1 s1 rp1 r1 z0 => ⟨c, F1, es1, _, rp1, z0, fun l H2 F2 es2 s2 rp2 z1 => ⟨c, F2, es2, _, rp2, z1, fun u H3 F3 es3 s3 rp3 ⟨xs, e, z⟩ => by
    subst e
    obtain ⟨p, ys, rfl, h1, k1⟩ := (r1.ext Z.lp (s2.trans s3)).lst_inv
    refine ⟨p, ys, rfl, SqL.of (rp3.bas.sm _ _ h1), fun t ht => ?_⟩
    obtain ⟨rp4, n4⟩ := rp3.new ht (ra_cut k1 l u)
    exact q _ _ _ _ _ ((s1.trans s2).trans s3) rp4 n4 z⟩⟩⟩
/-- e[lo:hi] of a tuple (not the whole), of a text -/
def dSlT (te : DE) (tl th : DO) : DE := fun es Q => te es fun x es1 => tl es1 fun l es2 => th es2 fun u es3 => ∃ xs, x = .tup xs ∧ ¬ (HT.sIx xs.length 0 l = 0 ∧ HT.sIx xs.length xs.length u = xs.length) ∧ Q (.tup (cutD xs l u)) es3
theorem de_sliceT {lo hi : Option Expr} {p2 : Pos} {tl th : DO} (hK : Z.K = X.K) (he : PE X e (lE Z te)) (hl : PO X lo (lO Z tl)) (hu : PO X hi (lO Z th)) : PE X (.Subscript e (.Slice lo hi none p2) pos) (lE Z (dSlT te tl th)) := (pe_slice sl_tup he hl hu).mono fun σ H Q ⟨c, F, es, Qd, rp, h, q⟩ =>
  ⟨c, F, es, _, rp, h, fun v H1 F1 d es1 s1 rp1 r1 z0 => ⟨c, F1, es1, _, rp1, z0, fun l H2 F2 es2 s2 rp2 z1 => ⟨c, F2, es2, _, rp2, z1, fun u H3 F3 es3 s3 rp3 ⟨xs, e, hn, z⟩ => by
    subst e
    obtain ⟨p, ys, rfl, h1, k1⟩ := (r1.ext Z.lp (s2.trans s3)).tup_inv
    refine ⟨p, ys, rfl, hK ▸ seqT_same rp3.bas.sm h1, by rw [k1.len]; exact hn, fun t ht => ?_⟩
    have s4 := same_upd (o := HO.tup (cutV ys l u)) (F_none rp3 ht)
    exact q _ _ _ _ _ (((s1.trans s2).trans s3).trans s4) (rp3.frz (o := .tup (cutV ys l u)) ht (fun _ z => by cases z)) (.tup (SqT.of upd_same) ((ra_cut k1 l u).ext Z.lp s4)) z⟩⟩⟩
def dSlS (te : DE) (tl th : DO) : DE := fun es Q => te es fun x es1 => tl es1 fun l es2 => th es2 fun u es3 => ∃ z, x = .str z ∧ z.length ≤ sizeLine ∧ Q (.str (cutS z l u)) es3
theorem de_sliceS {lo hi : Option Expr} {p2 : Pos} {tl th : DO} (he : PE X e (lE Z te)) (hl : PO X lo (lO Z tl)) (hu : PO X hi (lO Z th)) : PE X (.Subscript e (.Slice lo hi none p2) pos) (lE Z (dSlS te tl th)) := (pe_slice sl_str he hl hu).mono fun σ H Q ⟨c, F, es, Qd, rp, h, q⟩ =>
  ⟨c, F, es, _, rp, h, fun v H1 F1 d es1 s1 rp1 r1 z0 => ⟨c, F1, es1, _, rp1, z0, fun l H2 F2 es2 s2 rp2 z1 => ⟨c, F2, es2, _, rp2, z1, fun u H3 F3 es3 s3 rp3 ⟨xs, e, hn, z⟩ => by
    subst e
    cases r1.str_inv
    exact ⟨_, rfl, hn, q _ _ _ _ _ ((s1.trans s2).trans s3) rp3 (.str _) z⟩⟩⟩⟩
/-- e[::-1] -/
def dRevN (te : DE) : DA := fun es Q => te es fun x es1 => ∃ xs, x = .lst xs ∧ Q xs.reverse es1
theorem dn_rev {k : Nat} {p1 p2 p3 : Pos} (hK : Z.K = X.K) (he : PE X e (lE Z te)) : PE X (.Subscript e (.Slice none none (some (.UnaryOp .USub (.Constant (.int 1) k p1) p2)) p3) pos) (lN Z (dRevN te)) := (pe_revL he).mono fun σ H Q ⟨c, F, es, Qd, rp, h, q⟩ =>
  ⟨c, F, es, _, rp, h, fun v H1 F1 d es1 s1 rp1 r1 ⟨xs, e, z⟩ => by
    subst e
    obtain ⟨p, ys, rfl, h1, k1⟩ := r1.lst_inv
    refine ⟨p, ys, rfl, SqL.of (rp1.bas.sm _ _ h1), fun t ht => ?_⟩
    obtain ⟨rp4, n4⟩ := rp1.new ht k1.rev
    exact q _ _ _ _ _ s1 rp4 n4 z⟩
/-! ### lists of one's own are changed -/
/-- x.append(e) -/
def dApp (n : Nat) (te : DE) : DS := fun D es => (∃ l, es[n]? = some (.own l)) ∧ te es fun d es1 => ∃ l, es1[n]? = some (.own l) ∧ l.length < 1000000 ∧ D.nx (es1.set n (.own (l ++ [d])))
theorem ds_app {n : Nat} {x : Str} {px p pos2 : Pos} (hN : X.N[n]? = some x) (hv : Vis X.env.scope x) (he : PE X e (lE Z te)) (hd : (x == ("__debug__" : Str)) = false := by decide) (hcd : (x == ("__classdict__" : Str)) = false := by decide)
    (hs1 : starEach [e] X.env = (false, eval e X.env) :: starEach [] X.env := by rfl)
    (hcall : ∀ {t : TA}, PA X [e] t → PE X (.Call (.Attribute (.Name x px) "append" p) [e] [] pos2) (tBM X.K "list" rAppend (tVar n) t)) (hs : swapsWith (.Call (.Attribute (.Name x px) "append" p) [e] [] pos2) none pos.line X.env = pure false := by rfl) :
    PS X (.Expr (.Call (.Attribute (.Name x px) "append" p) [e] [] pos2) pos) (lS Z (dApp n te)) := (ps_expr (hcall (pa_cons he pa_nil hs1)) hs).mono fun D σ H ⟨c, F, es, Dn, rp, ⟨⟨l0, h0⟩, h⟩, nx, _⟩ => by
  obtain ⟨p, h1, o⟩ := rp.own h0
  obtain ⟨vs, h2, k2⟩ := o.ex
  refine ⟨_, h1, .inl ⟨rfl, _, SqL.of h2⟩, c, F, es, _, rp, h, fun v H1 F1 d es1 s1 rp1 r1 ⟨l, g1, hl, z⟩ => ?_⟩
  obtain ⟨p', g2, o'⟩ := rp1.own g1
  rw [h1] at g2
  cases g2
  obtain ⟨ws, g3, k3⟩ := o'.ex
  exact ⟨p, ws, v, rfl, rfl, g3, szl (by rw [k3.len]; exact hl), nx _ _ _ _ _ s1 (rp1.updOwn g1 h1 (k3.snoc r1)) z⟩
/-- x.extend(e) -/
def dExt (n : Nat) (te : DE) : DS := fun D es => (∃ l, es[n]? = some (.own l)) ∧ te es fun d es1 => ∃ l m, es1[n]? = some (.own l) ∧ d = .lst m ∧ l.length + m.length < 1000000 ∧ D.nx (es1.set n (.own (l ++ m)))
theorem ds_ext {n : Nat} {x : Str} {px p pos2 : Pos} (hN : X.N[n]? = some x) (hv : Vis X.env.scope x) (he : PE X e (lE Z te)) (hd : (x == ("__debug__" : Str)) = false := by decide) (hcd : (x == ("__classdict__" : Str)) = false := by decide)
    (hs1 : starEach [e] X.env = (false, eval e X.env) :: starEach [] X.env := by rfl)
    (hcall : ∀ {t : TA}, PA X [e] t → PE X (.Call (.Attribute (.Name x px) "extend" p) [e] [] pos2) (tBM X.K "list" rExtend (tVar n) t)) (hs : swapsWith (.Call (.Attribute (.Name x px) "extend" p) [e] [] pos2) none pos.line X.env = pure false := by rfl) :
    PS X (.Expr (.Call (.Attribute (.Name x px) "extend" p) [e] [] pos2) pos) (lS Z (dExt n te)) := (ps_expr (hcall (pa_cons he pa_nil hs1)) hs).mono fun D σ H ⟨c, F, es, Dn, rp, ⟨⟨l0, h0⟩, h⟩, nx, _⟩ => by
  obtain ⟨p, h1, o⟩ := rp.own h0
  obtain ⟨vs, h2, k2⟩ := o.ex
  refine ⟨_, h1, .inl ⟨rfl, _, SqL.of h2⟩, c, F, es, _, rp, h, fun v H1 F1 d es1 s1 rp1 r1 ⟨l, m, g1, e, hl, z⟩ => ?_⟩
  subst e
  obtain ⟨p', g2, o'⟩ := rp1.own g1
  rw [h1] at g2
  cases g2
  obtain ⟨ws, g3, k3⟩ := o'.ex
  obtain ⟨q, ys, rfl, h4, k4⟩ := r1.lst_inv
  exact ⟨p, q, ws, ys, rfl, rfl, g3, rp1.bas.sm _ _ h4, sz (by rw [k3.len, k4.len]; omega), nx _ _ _ _ _ s1 (rp1.updOwn g1 h1 (k3.app k4)) z⟩
/-- x[i] = e -/
def dSub (n : Nat) (ti te : DE) : DS := fun D es => te es fun d es1 => (∃ l, es1[n]? = some (.own l)) ∧ ti es1 fun y es2 => ∃ i l j, y = .int i ∧ es2[n]? = some (.own l) ∧ ixN l.length i = some j ∧ D.nx (es2.set n (.own (l.set j d)))
theorem ds_sub {i : Expr} {ti : DE} {n : Nat} {x : Str} {px p : Pos} (hN : X.N[n]? = some x) (hv : Vis X.env.scope x) (he : PE X e (lE Z te)) (hi : PE X i (lE Z ti)) (hd : (x == ("__debug__" : Str)) = false := by decide) (hcd : (x == ("__classdict__" : Str)) = false := by decide)
    (ha : ∀ v, assign (.Subscript (.Name x px) i p) X.env v = (do
      let ov ← holding [v] (eval (.Name x px) X.env)
      let iv ← holding [v, ov] (eval i X.env)
      standAt p
      holding [v, ov, iv] (setItem ov iv v)
      release [v, ov, iv] []) := by intro _; rfl)
    (hs : swapsWithSole [.Subscript (.Name x px) i p] e pos.line X.env = pure false := by rfl) (hw : swappedStores [.Subscript (.Name x px) i p] e X.env = pure none := by rfl)
    (h1 : (assignEach [.Subscript (.Name x px) i p] X.env).map (·.2) = [assign (.Subscript (.Name x px) i p) X.env] := by rfl) : PS X (.Assign [.Subscript (.Name x px) i p] e pos) (lS Z (dSub n ti te)) := (ps_asg he (pg_sub (pe_var hN hv hd hcd) hi set_list ha) hs hw h1).mono fun D σ H ⟨c, F, es, Dn, rp, h, nx, _⟩ =>
  ⟨c, F, es, _, rp, h, fun v H1 F1 d es1 s1 rp1 r1 ⟨⟨l0, h0⟩, h⟩ => by
    obtain ⟨p, h1, o⟩ := rp1.own h0
    refine ⟨_, h1, c, F1, es1, _, rp1, h, fun u H2 F2 y es2 s2 rp2 r2 ⟨i, l, j, e, g1, hj, z⟩ => ?_⟩
    subst e
    cases r2.int_inv
    obtain ⟨p', g2, o'⟩ := rp2.own g1
    rw [h1] at g2
    cases g2
    obtain ⟨ws, g3, k3⟩ := o'.ex
    exact ⟨p, ws, i, j, rfl, rfl, g3, by rw [k3.len]; exact hj, nx _ _ _ _ _ (s1.trans s2) (rp2.updOwn g1 h1 (RpA.set (r1.ext Z.lp s2) k3)) z⟩⟩
/-- x.reverse() -/
def dRevS (n : Nat) : DS := fun D es => ∃ l, es[n]? = some (.own l) ∧ D.nx (es.set n (.own l.reverse))
theorem ds_rev {n : Nat} {x : Str} {px p pos2 : Pos} (hcall : PE X (.Call (.Attribute (.Name x px) "reverse" p) [] [] pos2) (tBM0 X.K "list" rReverse (tVar n))) (hs : swapsWith (.Call (.Attribute (.Name x px) "reverse" p) [] [] pos2) none pos.line X.env = pure false := by rfl) :
    PS X (.Expr (.Call (.Attribute (.Name x px) "reverse" p) [] [] pos2) pos) (lS Z (dRevS n)) := (ps_expr hcall hs).mono fun D σ H ⟨c, F, es, Dn, rp, ⟨l, h0, z⟩, nx, _⟩ => by
  obtain ⟨p, h1, o⟩ := rp.own h0
  obtain ⟨vs, h2, k2⟩ := o.ex
  exact ⟨_, h1, .inl ⟨rfl, _, SqL.of h2⟩, p, vs, rfl, rfl, h2, nx _ _ _ _ _ (Same.refl F) (rp.updOwn h0 h1 k2.rev) z⟩
/-- x.pop(), as a value -/
def dPop (n : Nat) : DE := fun es Q => ∃ l d, es[n]? = some (.own (l ++ [d])) ∧ Q d (es.set n (.own l))
theorem de_pop {n : Nat} {x : Str} {px p pos2 : Pos} (hcall : PE X (.Call (.Attribute (.Name x px) "pop" p) [] [] pos2) (tBM0 X.K "list" rPop (tVar n))) :
    PE X (.Call (.Attribute (.Name x px) "pop" p) [] [] pos2) (lE Z (dPop n)) := hcall.mono fun σ H Q ⟨c, F, es, Qd, rp, ⟨l, d, h0, z⟩, q⟩ => by
  obtain ⟨p, h1, o⟩ := rp.own h0
  obtain ⟨vs, h2, k2⟩ := o.ex
  obtain ⟨v, hv, rv⟩ := k2.get (i := l.length) (d := d) (by simp)
  have hl : vs.length = l.length + 1 := by rw [k2.len]; simp
  have k3 := k2.dropLast
  rw [List.dropLast_concat] at k3
  exact ⟨_, h1, .inl ⟨rfl, _, SqL.of h2⟩, p, vs, v, rfl, rfl, h2, by rw [hl]; exact hv, q _ _ _ _ _ (Same.refl F) (rp.updOwn h0 h1 k3) rv z⟩
end
end My

end
section
set_option maxRecDepth 100000
set_option maxHeartbeats 1000000
open PySem L2 LamX
namespace My
/-! ### while -/
def dWhile (c : DT) (tb : DS) : DS := fun D es => ∃ W : Nat → List Sl → Prop, (∃ m, W m es) ∧ ∀ m es, W m es →
  c es fun b es1 => if b = true then tb { D with nx := fun es' => ∃ m', m' < m ∧ W m' es', ct := fun es' => ∃ m', m' < m ∧ W m' es', bk := D.nx } es1 else D.nx es1
section
variable {X : Cx} {Z : Zx} {pos : Pos}
theorem ds_while {cn : Expr} {body : List Stmt} {tc : DT} {tb : DS} (hp : PassesOwn (model X.prog X.w) X.A X.env X.xe) (hc : PT X cn (lT Z tc)) (hb : PSs X body (lS Z tb)) : PS X (.While cn body [] pos) (lS Z (dWhile tc tb)) := (ps_while hp hc hb).mono fun D σ H ⟨c, F, es, Dn, rp, ⟨W, ⟨m0, w0⟩, turn⟩, nx, bk, ct, rt⟩ => by
  refine ⟨fun m σ H => ∃ c F' es, Rep Z c H F' σ es ∧ Same F F' ∧ W m es, ⟨m0, c, F, es, rp, Same.refl F, w0⟩, ?_⟩
  rintro m σ1 H1 ⟨c1, F1, es1, rp1, s1, w1⟩
  refine ⟨c1, F1, es1, _, rp1, turn m es1 w1, fun b H2 F2 es2 s2 rp2 z => ?_⟩
  cases b with
  | true =>
    rw [if_pos rfl] at z ⊢
    refine ⟨fun σ' H' => ∃ m', m' < m ∧ ∃ c F' es, Rep Z c H' F' σ' es ∧ Same F F' ∧ W m' es, fun σ' H' h => h, ?_⟩
    refine ⟨c1, F2, es2, _, rp2, z, fun _ _ _ _ _ s' r ⟨m', hm, w⟩ => ⟨m', hm, _, _, _, r, (s1.trans s2).trans s', w⟩, fun _ _ _ _ _ s' r q => nx _ _ _ _ _ ((s1.trans s2).trans s') r q,
      fun _ _ _ _ _ s' r ⟨m', hm, w⟩ => ⟨m', hm, _, _, _, r, (s1.trans s2).trans s', w⟩, fun _ _ _ _ _ _ _ s' r k q => rt _ _ _ _ _ _ _ ((s1.trans s2).trans s') r k q⟩
  | false =>
    rw [if_neg Bool.false_ne_true] at z ⊢
    exact nx _ _ _ _ _ (s1.trans s2) rp2 z
end
/-! ### what a for walks -/
structure Itd (Z : Zx) (J : It) (F : Hp) (l : List Dv) : Prop where
  stop : ∀ H' F', Same F F' → Same F' H' → J.stop l.length H'
  go : ∀ i d H' F', l[i]? = some d → Same F F' → Same F' H' → J.go i H' ∧ ∀ x H'', J.yld i H' x H'' → (H'' = H' ∧ Z.R F' x d) ∨ (∃ p o, H' p = none ∧ (∀ ps, o ≠ .tbl ps) ∧ H'' = upd H' p o ∧ Z.R (upd F' p o) x d)
theorem Itd.ext {Z : Zx} {J : It} {F F1 : Hp} {l : List Dv} (h : Itd Z J F l) (s : Same F F1) : Itd Z J F1 l := ⟨fun H' F' s1 s2 => h.stop H' F' (s.trans s1) s2, fun i d H' F' e s1 s2 => h.go i d H' F' e (s.trans s1) s2⟩
/-- one step of it -/
theorem Itd.yld {Z : Zx} {J : It} {F F1 : Hp} {l : List Dv} (h : Itd Z J F l) {c : Option Addr} {H : Hp} {σ : L2.St} {es : List Sl} (rp : Rep Z c H F1 σ es) (s : Same F F1) {i : Nat} {d : Dv} (e : l[i]? = some d) :
    J.go i H ∧ ∀ x H'', J.yld i H x H'' → ∃ F2, Same F1 F2 ∧ Rep Z c H'' F2 σ es ∧ Z.R F2 x d ∧ Same H H'' ∧ ∀ b o, H b = some o → F1 b = none → F2 b = none := by
  obtain ⟨g, y⟩ := h.go i d H F1 e s rp.bas.sm
  refine ⟨g, fun x H'' q => ?_⟩
  rcases y x H'' q with ⟨rfl, r⟩ | ⟨p, o, hp, ho, rfl, r⟩
  · exact ⟨F1, Same.refl _, rp, r, Same.refl _, fun _ _ _ z => z⟩
  · exact ⟨_, same_upd (F_none rp hp), rp.frz hp ho, r, same_upd hp, fun b o q n => by rw [upd_ne (ne_of_none q hp)]; exact n⟩
def lI (Z : Zx) (t : DA) : TI := fun σ H R => ∃ c F es Qd, Rep Z c H F σ es ∧ t es Qd ∧ ∀ J H' F' l es', Same F F' → Rep Z c H' F' σ es' → Itd Z J F' l → Qd l es' → R J H'
theorem SqL.get_eq {K : PySem.W.Frag} {F H : Hp} {p : Addr} {xs : List V} (h : F p = some (.lst xs)) (s : Same F H) {ys : List V} (hK : K.lookup p = none ∨ True) : H p = some (.lst xs) := s _ _ h
def diL (te : DE) : DA := fun es Q => te es fun d es1 => ∃ l, d = .lst l ∧ Q l es1
def diT (te : DE) : DA := fun es Q => te es fun d es1 => ∃ l, d = .tup l ∧ Q l es1
/-- lo, lo + 1, .. -/
def rng (lo : Int) (n : Nat) : List Dv := (List.range n).map fun i => Dv.int (lo + (i : Nat))
def diR1 (ta : DA) : DA := fun es Q => ta es fun ds es1 => ∃ j : Int, ds = [.int j] ∧ -(2 ^ 62) ≤ j ∧ j < 2 ^ 62 ∧ Q (rng 0 j.toNat) es1
def diR2 (ta : DA) : DA := fun es Q => ta es fun ds es1 => ∃ i j : Int, ds = [.int i, .int j] ∧ (-(2 ^ 62) ≤ i ∧ i < 2 ^ 62 ∧ -(2 ^ 62) ≤ j ∧ j < 2 ^ 62) ∧ Q (rng i (j - i).toNat) es1
/-- a text, sign by sign -/
def signs (x : Str) : List Dv := x.cps.toList.map fun c => Dv.str ⟨#[c]⟩
def diS (te : DE) : DA := fun es Q => te es fun d es1 => ∃ x, d = .str x ∧ Q (signs x) es1
def zipD (l m : List Dv) : List Dv := (l.zip m).map fun p => Dv.tup [p.1, p.2]
def diZ (ta : DA) : DA := fun es Q => ta es fun ds es1 => ∃ l m, (ds = [.lst l, .lst m] ∨ ds = [.tup l, .tup m]) ∧ Q (zipD l m) es1
section
variable {X : Cx} {Z : Zx} {tg e : Expr} {te : DE} {pos : Pos}
theorem di_list (hK : Z.K = X.K) (he : PE X e (lE Z te)) : PI X tg e (lI Z (diL te)) := (pi_list he).mono fun σ H R ⟨c, F, es, Qd, rp, h, q⟩ =>
  ⟨c, F, es, _, rp, h, fun v H1 F1 d es1 s1 rp1 r1 ⟨l, e, z⟩ => by
    subst e
    obtain ⟨p, xs, rfl, h1, k1⟩ := r1.lst_inv
    refine ⟨p, rfl, ⟨xs, SqL.of (rp1.bas.sm _ _ h1)⟩, q _ _ _ _ _ s1 rp1 ⟨fun H' F' s2 s3 => ⟨xs, SqL.of (s3 _ _ (s2 _ _ h1)), by rw [k1.len]; exact Nat.le_refl _⟩, fun i d H' F' hd s2 s3 => ?_⟩ z⟩
    obtain ⟨v, hv, rv⟩ := k1.get hd
    refine ⟨⟨xs, v, SqL.of (s3 _ _ (s2 _ _ h1)), hv⟩, fun x H'' ⟨e1, e2⟩ => .inl ⟨e1, ?_⟩⟩
    have := e2 xs (SqL.of (s3 _ _ (s2 _ _ h1)))
    rw [hv] at this
    cases this
    exact rv.ext Z.lp s2⟩
theorem di_tup (hK : Z.K = X.K) (he : PE X e (lE Z te)) : PI X tg e (lI Z (diT te)) := (pi_tup he).mono fun σ H R ⟨c, F, es, Qd, rp, h, q⟩ =>
  ⟨c, F, es, _, rp, h, fun v H1 F1 d es1 s1 rp1 r1 ⟨l, e, z⟩ => by
    subst e
    obtain ⟨p, xs, rfl, h1, k1⟩ := r1.tup_inv
    have at_ : ∀ H' F', Same F1 F' → Same F' H' → SqT X.K H' p xs := fun H' F' s2 s3 => hK ▸ seqT_same (s2.trans s3) h1
    refine ⟨p, rfl, ⟨xs, at_ _ _ (Same.refl _) rp1.bas.sm⟩, q _ _ _ _ _ s1 rp1 ⟨fun H' F' s2 s3 => ⟨xs, at_ _ _ s2 s3, by rw [k1.len]; exact Nat.le_refl _⟩, fun i d H' F' hd s2 s3 => ?_⟩ z⟩
    obtain ⟨v, hv, rv⟩ := k1.get hd
    refine ⟨⟨xs, v, at_ _ _ s2 s3, hv⟩, fun x H'' ⟨e1, e2⟩ => .inl ⟨e1, ?_⟩⟩
    have := e2 xs (at_ _ _ s2 s3)
    rw [hv] at this
    cases this
    exact rv.ext Z.lp s2⟩
theorem rng_len (lo : Int) (n : Nat) : (rng lo n).length = n := by simp [rng]
theorem rng_get {lo : Int} {n i : Nat} {d : Dv} (h : (rng lo n)[i]? = some d) : i < n ∧ d = .int (lo + i) := by
  have hi := (List.getElem?_eq_some_iff.mp h).1
  rw [rng_len] at hi
  refine ⟨hi, ?_⟩
  simp only [rng, List.getElem?_map, List.getElem?_range hi, Option.map_some, Option.some.injEq] at h
  exact h.symm
theorem itd_rng {F : Hp} (lo : Int) (n : Nat) : Itd Z (Itr lo n) F (rng lo n) := ⟨fun H' F' _ _ => Nat.le_of_eq (rng_len lo n).symm, fun i d H' F' hd _ _ => by
  obtain ⟨h1, rfl⟩ := rng_get hd
  exact ⟨h1, fun x H'' ⟨e1, e2⟩ => .inl ⟨e1, e2 ▸ .int _⟩⟩⟩
theorem di_range1 {ta : DA} {p : Pos} {a : Expr} (hg : Gl X "range") (hm : X.mg "range" = none) (ha : PA X [a] (lA Z ta)) (hs : starEach [a] X.env = [(false, eval a X.env)] := by rfl) :
    PI X tg (.Call (.Name "range" p) [a] [] pos) (lI Z (diR1 ta)) := (pi_range1 hg hm ha hs).mono fun σ H R ⟨c, F, es, Qd, rp, h, q⟩ =>
  ⟨c, F, es, _, rp, h, fun vs H1 F1 ds es1 s1 rp1 r1 ⟨j, e, b1, b2, z⟩ => by
    subst e
    obtain ⟨v, rfl, r⟩ := ra1 r1
    cases r.int_inv
    exact ⟨j, rfl, b1, b2, q _ _ _ _ _ s1 rp1 (itd_rng _ _) z⟩⟩
theorem di_range2 {ta : DA} {p : Pos} {a b : Expr} (hg : Gl X "range") (hm : X.mg "range" = none) (ha : PA X [a, b] (lA Z ta)) (hs : starEach [a, b] X.env = [(false, eval a X.env), (false, eval b X.env)] := by rfl) (hs2 : starEach [b] X.env = [(false, eval b X.env)] := by rfl) :
    PI X tg (.Call (.Name "range" p) [a, b] [] pos) (lI Z (diR2 ta)) := (pi_range2 hg hm ha hs hs2).mono fun σ H R ⟨c, F, es, Qd, rp, h, q⟩ =>
  ⟨c, F, es, _, rp, h, fun vs H1 F1 ds es1 s1 rp1 r1 ⟨i, j, e, b, z⟩ => by
    subst e
    obtain ⟨v, v', rfl, r, r'⟩ := ra2 r1
    cases r.int_inv; cases r'.int_inv
    exact ⟨i, j, rfl, b, q _ _ _ _ _ s1 rp1 (itd_rng _ _) z⟩⟩
theorem di_str (he : PE X e (lE Z te)) : PI X tg e (lI Z (diS te)) := (pi_str he).mono fun σ H R ⟨c, F, es, Qd, rp, h, q⟩ =>
  ⟨c, F, es, _, rp, h, fun v H1 F1 d es1 s1 rp1 r1 ⟨x, e, z⟩ => by
    subst e
    refine ⟨x, r1.str_inv, q _ _ _ _ _ s1 rp1 ⟨fun H' F' _ _ => ?_, fun i d H' F' hd _ _ => ?_⟩ z⟩
    · show x.cps.size ≤ _
      simp [signs]
    · have hi := (List.getElem?_eq_some_iff.mp hd).1
      have hi2 : i < x.cps.size := by simpa [signs] using hi
      refine ⟨hi2, fun y H'' ⟨e1, c2, e2, e3⟩ => .inl ⟨e1, ?_⟩⟩
      simp only [signs, List.getElem?_map, Array.getElem?_toList, e2, Option.map_some, Option.some.injEq] at hd
      rw [e3, ← hd]
      exact .str _⟩
theorem zipD_get {l m : List Dv} {i : Nat} {d : Dv} (h : (zipD l m)[i]? = some d) : ∃ x y, l[i]? = some x ∧ m[i]? = some y ∧ d = .tup [x, y] := by
  simp only [zipD, List.getElem?_map, Option.map_eq_some_iff] at h
  obtain ⟨⟨x, y⟩, h1, h2⟩ := h
  obtain ⟨e1, e2⟩ := List.getElem?_zip_eq_some.mp h1
  exact ⟨x, y, e1, e2, h2.symm⟩
theorem di_zip {ta : DA} {p tpos : Pos} {a b : Expr} {elts : List Expr} {kk : Nat} (hK : Z.K = X.K) (hg : Gl X "zip") (hm : X.mg "zip" = none) (ha : PA X [a, b] (lA Z ta)) (hs : starEach [a, b] X.env = (false, eval a X.env) :: starEach [b] X.env := by rfl) (hpl : (backTo pos (starEach [b] X.env)).any (·.1) = false := by rfl) :
    PI X (.Tuple elts kk tpos) (.Call (.Name "zip" p) [a, b] [] pos) (lI Z (diZ ta)) := (RZ.pi_zipA hg hm ha hs hpl).mono fun σ H R ⟨c, F, es, Qd, rp, h, q⟩ =>
  ⟨c, F, es, _, rp, h, fun vs H1 F1 ds es1 s1 rp1 r1 ⟨l, m, e, z⟩ => by
    rcases e with rfl | rfl
    · obtain ⟨v, v', rfl, r, r'⟩ := ra2 r1
      obtain ⟨p, xs, rfl, h1, k1⟩ := r.lst_inv
      obtain ⟨p', ys, rfl, h2, k2⟩ := r'.lst_inv
      have at1 : ∀ H' F', Same F1 F' → Same F' H' → SqL X.K H' p xs := fun H' F' s2 s3 => SqL.of (s3 _ _ (s2 _ _ h1))
      have at2 : ∀ H' F', Same F1 F' → Same F' H' → SqL X.K H' p' ys := fun H' F' s2 s3 => SqL.of (s3 _ _ (s2 _ _ h2))
      refine ⟨p, p', xs, ys, rfl, .inl ⟨at1 _ _ (Same.refl _) rp1.bas.sm, at2 _ _ (Same.refl _) rp1.bas.sm, q _ _ _ _ _ s1 rp1 ⟨fun H' F' s2 s3 => ⟨xs, ys, at1 _ _ s2 s3, at2 _ _ s2 s3, ?_⟩, fun i d H' F' hd s2 s3 => ?_⟩ z⟩⟩
      · rw [k1.len, k2.len]
        simp only [zipD, List.length_map, List.length_zip]
        omega
      · obtain ⟨x, y, hx, hy, rfl⟩ := zipD_get hd
        obtain ⟨v, hv, rv⟩ := k1.get hx
        obtain ⟨w, hw, rw⟩ := k2.get hy
        refine ⟨⟨xs, ys, v, w, at1 _ _ s2 s3, at2 _ _ s2 s3, hv, hw⟩, fun u H'' ⟨T, x', y', e1, hT, e2, e3, e4⟩ => .inr ⟨T, _, hT, (fun _ z => by cases z), e2, ?_⟩⟩
        have f1 := e3 xs (at1 _ _ s2 s3)
        have f2 := e4 ys (at2 _ _ s2 s3)
        rw [hv] at f1; rw [hw] at f2
        cases f1; cases f2
        have nF : F' T = none := by
          cases g : F' T with
          | none => rfl
          | some o => rw [s3 _ _ g] at hT; cases hT
        have s4 := same_upd (o := HO.tup [v, w]) nF
        rw [e1]
        exact .tup (SqT.of upd_same) (.cons (rv.ext Z.lp (s2.trans s4)) (.cons (rw.ext Z.lp (s2.trans s4)) .nil))
    · obtain ⟨v, v', rfl, r, r'⟩ := ra2 r1
      obtain ⟨p, xs, rfl, h1, k1⟩ := r.tup_inv
      obtain ⟨p', ys, rfl, h2, k2⟩ := r'.tup_inv
      have at1 : ∀ H' F', Same F1 F' → Same F' H' → SqT X.K H' p xs := fun H' F' s2 s3 => hK ▸ seqT_same (s2.trans s3) h1
      have at2 : ∀ H' F', Same F1 F' → Same F' H' → SqT X.K H' p' ys := fun H' F' s2 s3 => hK ▸ seqT_same (s2.trans s3) h2
      refine ⟨p, p', xs, ys, rfl, .inr ⟨at1 _ _ (Same.refl _) rp1.bas.sm, at2 _ _ (Same.refl _) rp1.bas.sm, q _ _ _ _ _ s1 rp1 ⟨fun H' F' s2 s3 => ⟨xs, ys, at1 _ _ s2 s3, at2 _ _ s2 s3, ?_⟩, fun i d H' F' hd s2 s3 => ?_⟩ z⟩⟩
      · rw [k1.len, k2.len]
        simp only [zipD, List.length_map, List.length_zip]
        omega
      · obtain ⟨x, y, hx, hy, rfl⟩ := zipD_get hd
        obtain ⟨v, hv, rv⟩ := k1.get hx
        obtain ⟨w, hw, rw⟩ := k2.get hy
        refine ⟨⟨xs, ys, v, w, at1 _ _ s2 s3, at2 _ _ s2 s3, hv, hw⟩, fun u H'' ⟨T, x', y', e1, hT, e2, e3, e4⟩ => .inr ⟨T, _, hT, (fun _ z => by cases z), e2, ?_⟩⟩
        have f1 := e3 xs (at1 _ _ s2 s3)
        have f2 := e4 ys (at2 _ _ s2 s3)
        rw [hv] at f1; rw [hw] at f2
        cases f1; cases f2
        have nF : F' T = none := by
          cases g : F' T with
          | none => rfl
          | some o => rw [s3 _ _ g] at hT; cases hT
        have s4 := same_upd (o := HO.tup [v, w]) nF
        rw [e1]
        exact .tup (SqT.of upd_same) (.cons (rv.ext Z.lp (s2.trans s4)) (.cons (rw.ext Z.lp (s2.trans s4)) .nil))⟩
/-! ### for -/
def dFor (g : DG) (tb : DS) (l : List Dv) : DS := fun D es => ∃ W : List Dv → List Sl → Prop, W l es ∧ (∀ d r es, W (d :: r) es → g d es fun es1 => tb { D with nx := W r, ct := W r, bk := D.nx } es1) ∧ ∀ es, W [] es → D.nx es
def dForS (ti : DA) (g : DG) (tb : DS) : DS := fun D es => ti es fun l es1 => dFor g tb l D es1
theorem ds_for {iter : Expr} {body : List Stmt} {ti : DA} {g : DG} {tb : DS} (hp : PassesOwn (model X.prog X.w) X.A X.env X.xe) (hc : X.calm = true) (hi : PI X tg iter (lI Z ti)) (hg : PG X tg (lG Z g)) (hb : PSs X body (lS Z tb)) (hs : ∀ x, foldedSetIterable iter X.env x = pure x := by intro _; rfl) :
    PS X (.For tg iter body [] pos) (lS Z (dForS ti g tb)) := (ps_for hp hc hi hg hb hs).mono fun D σ H ⟨c, F, es, Dn, rp, h, nx, bk, ct, rt⟩ => by
  refine ⟨c, F, es, _, rp, h, fun J H1 F1 l es1 s1 rp1 it ⟨Wd, w0, step, fin⟩ => ?_⟩
  refine ⟨fun i m σ H => m = l.length - i ∧ i ≤ l.length ∧ ∃ c F2 es, Rep Z c H F2 σ es ∧ Same F1 F2 ∧ Wd (l.drop i) es, ⟨l.length, by simp, Nat.zero_le _, c, F1, es1, rp1, Same.refl _, w0⟩, ?_⟩
  rintro i m σ2 H2 ⟨rfl, hi, c2, F2, es2, rp2, s2, w2⟩
  by_cases hlt : i < l.length
  · have hd : l[i]? = some l[i] := List.getElem?_eq_getElem hlt
    obtain ⟨go, yl⟩ := it.yld rp2 s2 hd
    have e : l.drop i = l[i] :: l.drop (i + 1) := List.drop_eq_getElem_cons hlt
    rw [e] at w2
    refine .inr ⟨go, fun σ' H' => ∃ c F' es, Rep Z c H' F' σ' es ∧ Same F1 F' ∧ Wd (l.drop (i + 1)) es, fun σ' H' ⟨c3, F3, es3, r3, s3, w3⟩ => ⟨l.length - (i + 1), by omega, rfl, hlt, c3, F3, es3, r3, s3, w3⟩, fun x H3 hy => ?_⟩
    obtain ⟨F3, s3, rp3, r3, _, _⟩ := yl x H3 hy
    refine ⟨c2, F3, es2, _, _, rp3, r3, step _ _ _ w2, fun σ4 H4 F4 es4 s4 rp4 z4 => ?_⟩
    have s14 := (s2.trans s3).trans s4
    refine ⟨c2, F4, es4, _, rp4, z4, fun _ _ _ _ _ s' r q => ⟨_, _, _, r, s14.trans s', q⟩, fun _ _ _ _ _ s' r q => nx _ _ _ _ _ (s1.trans (s14.trans s')) r q,
      fun _ _ _ _ _ s' r q => ⟨_, _, _, r, s14.trans s', q⟩, fun _ _ _ _ _ _ _ s' r k q => rt _ _ _ _ _ _ _ (s1.trans (s14.trans s')) r k q⟩
  · have e : i = l.length := by omega
    subst e
    rw [List.drop_length] at w2
    exact .inl ⟨it.stop _ _ s2 rp2.bas.sm, nx _ _ _ _ _ (s1.trans s2) rp2 (fin _ w2)⟩
end
/-- unrolled -/
def dForR (g : DG) (tb : DS) : List Dv → DS
  | [], D, es => D.nx es
  | d :: r, D, es => g d es fun es1 => tb { D with nx := dForR g tb r D, ct := dForR g tb r D, bk := D.nx } es1
theorem dFor_R {g : DG} {tb : DS} {l : List Dv} {D : DEnds} {es : List Sl} (h : dForR g tb l D es) : dFor g tb l D es := ⟨fun l es => dForR g tb l D es, h, fun d r es w => w, fun es w => w⟩
/-- by an invariant over the turn's number -/
theorem dFor_P {g : DG} {tb : DS} {l : List Dv} {D : DEnds} {es : List Sl} (Pv : Nat → List Sl → Prop) (h0 : Pv 0 es) (hs : ∀ i d es, l[i]? = some d → Pv i es → g d es fun es1 => tb { D with nx := Pv (i + 1), ct := Pv (i + 1), bk := D.nx } es1) (hd : ∀ es, Pv l.length es → D.nx es) : dFor g tb l D es := by
  refine ⟨fun r es => l.drop (l.length - r.length) = r ∧ Pv (l.length - r.length) es, ⟨by simp, by simpa using h0⟩, fun d r es ⟨e, p⟩ => ?_, fun es ⟨e, p⟩ => hd es (by simpa using p)⟩
  have hle : r.length + 1 ≤ l.length := by
    have := congrArg List.length e
    simp only [List.length_drop, List.length_cons] at this
    omega
  generalize hi : l.length - (d :: r).length = i at e p
  have hi' : i + (r.length + 1) = l.length := by simp only [List.length_cons] at hi; omega
  have hr : l.length - r.length = i + 1 := by omega
  have hget : l[i]? = some d := by
    have := congrArg (fun z => z[0]?) e
    simpa using this
  have hdr : l.drop (i + 1) = r := by
    have := congrArg List.tail e
    simpa using this
  have eW : (fun es' => l.drop (l.length - r.length) = r ∧ Pv (l.length - r.length) es') = Pv (i + 1) := by
    funext es'
    rw [hr, hdr]
    exact propext ⟨fun z => z.2, fun z => ⟨rfl, z⟩⟩
  have := hs i d es hget p
  rw [← eW] at this
  exact this
end My

end
section
set_option maxRecDepth 100000
set_option maxHeartbeats 1000000
open PySem PySem.Spec PyProof.Rows L2 LamX
namespace My
/-! ### comprehensions -/
def wipeD (es : List Sl) : List Nat → List Sl
  | [] => es
  | v :: vs => (wipeD es vs).set v .any
theorem wipe_get {τ : L2.St} {k : Nat} : ∀ {vs : List Nat}, (wipe τ vs)[k]? = if k ∈ vs ∧ k < τ.length then some none else τ[k]?
  | [] => by simp [wipe]
  | v :: vs => by
    unfold wipe
    by_cases e : v = k
    · subst e
      by_cases h : v < τ.length
      · rw [List.getElem?_set_self (by rw [wipe_length]; exact h), if_pos ⟨List.mem_cons_self, h⟩]
      · rw [List.getElem?_eq_none (by rw [List.length_set, wipe_length]; omega), if_neg (fun z => h z.2), List.getElem?_eq_none (by omega)]
    · rw [List.getElem?_set_ne e, wipe_get]
      have : k ∈ v :: vs ↔ k ∈ vs := by simp only [List.mem_cons]; exact ⟨fun z => z.elim (fun y => absurd y.symm e) _root_.id, .inr⟩
      simp only [this]
theorem wipe_set {τ : L2.St} {i : Nat} {x : Option V} {vs : List Nat} (h : i ∈ vs) : wipe (τ.set i x) vs = wipe τ vs := by
  apply List.ext_getElem?
  intro k
  rw [wipe_get, wipe_get, List.length_set]
  by_cases e : i = k
  · subst e
    by_cases hl : i < τ.length
    · rw [if_pos ⟨h, hl⟩, if_pos ⟨h, hl⟩]
    · rw [if_neg (fun z => hl z.2), if_neg (fun z => hl z.2), List.getElem?_eq_none (by rw [List.length_set]; omega), List.getElem?_eq_none (by omega)]
  · rw [List.getElem?_set_ne e]
theorem wipe_wipe {τ : L2.St} {vs : List Nat} : wipe (wipe τ vs) vs = wipe τ vs := by
  apply List.ext_getElem?
  intro k
  rw [wipe_get, wipe_length]
  by_cases h : k ∈ vs ∧ k < τ.length
  · rw [if_pos h, wipe_get, if_pos h]
  · rw [if_neg h]
theorem wipeD_len {es : List Sl} : ∀ {vs : List Nat}, (wipeD es vs).length = es.length
  | [] => rfl
  | v :: vs => by unfold wipeD; rw [List.length_set, wipeD_len]
theorem wipeD_get {τ : List Sl} {k : Nat} : ∀ {vs : List Nat}, (wipeD τ vs)[k]? = if k ∈ vs ∧ k < τ.length then some .any else τ[k]?
  | [] => by simp [wipeD]
  | v :: vs => by
    unfold wipeD
    by_cases e : v = k
    · subst e
      by_cases h : v < τ.length
      · rw [List.getElem?_set_self (by rw [wipeD_len]; exact h), if_pos ⟨List.mem_cons_self, h⟩]
      · rw [List.getElem?_eq_none (by rw [List.length_set, wipeD_len]; omega), if_neg (fun z => h z.2), List.getElem?_eq_none (by omega)]
    · rw [List.getElem?_set_ne e, wipeD_get]
      have : k ∈ v :: vs ↔ k ∈ vs := by simp only [List.mem_cons]; exact ⟨fun z => z.elim (fun y => absurd y.symm e) _root_.id, .inr⟩
      simp only [this]
theorem wipeD_wipeD {τ : List Sl} {vs : List Nat} : wipeD (wipeD τ vs) vs = wipeD τ vs := by
  apply List.ext_getElem?
  intro k
  rw [wipeD_get, wipeD_len]
  by_cases h : k ∈ vs ∧ k < τ.length
  · rw [if_pos h, wipeD_get, if_pos h]
  · rw [if_neg h]
section
variable {Z : Zx} {c : Option Addr} {H F : Hp} {σ : L2.St} {es : List Sl}
theorem Rep.wiped (r : Rep Z c H F σ es) : ∀ vs : List Nat, Rep Z c H F (wipe σ vs) (wipeD es vs)
  | [] => r
  | v :: vs => (r.wiped vs).setAny
theorem Rep.unwiped {vs : List Nat} (r : Rep Z c H F (wipe σ vs) es) (h : wipeD es vs = es) : Rep Z c H F σ es := by
  have hl : σ.length = es.length := by rw [← r.len, wipe_length]
  have any : ∀ {k : Nat} {e : Sl}, es[k]? = some e → k ∈ vs → e = .any := fun {k e} h1 h2 => by
    have hk : k < es.length := (List.getElem?_eq_some_iff.mp h1).1
    rw [← h, wipeD_get, if_pos ⟨h2, hk⟩] at h1
    exact (Option.some.inj h1).symm
  have nw : ∀ {k : Nat}, k ∉ vs → (wipe σ vs)[k]? = σ[k]? := fun {k} h => by rw [wipe_get, if_neg (fun z => h z.1)]
  refine ⟨r.bas, r.ext, r.cn, hl, fun i e o h1 h2 => ?_, fun i j p l l' n h1 h2 h3 h4 => ?_⟩
  · by_cases hi : i ∈ vs
    · rw [any h1 hi]; trivial
    · exact r.sl i e o h1 (by rw [nw hi]; exact h2)
  · have hi : i ∉ vs := fun z => by cases any h1 z
    have hj : j ∉ vs := fun z => by cases any h2 z
    exact r.ds i j p l l' n h1 h2 (by rw [nw hi]; exact h3) (by rw [nw hj]; exact h4)
/-- a new list is held while other things are done -/
abbrev Zx.hold (Z : Zx) (D : Addr) (vs : List V) : Zx := { Z with B := upd Z.B D (.lst vs) }
theorem Rep.hold (r : Rep Z c H F σ es) {D : Addr} {l : List Dv} (n : New Z c H F σ es D l) {vs : List V} (hD : H D = some (.lst vs)) : Rep (Z.hold D vs) c H F σ es := by
  have at_ : ∀ {b : Addr} {o : HO}, upd Z.B D (.lst vs) b = some o → (b = D ∧ o = .lst vs) ∨ (b ≠ D ∧ Z.B b = some o) := fun {b o} h => by
    by_cases e : b = D
    · subst e; rw [upd_same] at h; exact .inl ⟨rfl, (Option.some.inj h).symm⟩
    · rw [upd_ne e] at h; exact .inr ⟨e, h⟩
  refine ⟨r.bas, ⟨r.ext.sm, fun b o h m na nF => ?_, fun b o h na nt => ?_, fun b o h => ?_⟩, ?_, r.len, fun i e o h1 h2 => ?_, r.ds⟩
  · rcases at_ h with ⟨rfl, rfl⟩ | ⟨_, h⟩
    · exact n.own.nf
    · exact r.ext.nw b o h m na nF
  · rcases at_ h with ⟨rfl, rfl⟩ | ⟨_, h⟩
    · exact hD
    · exact r.ext.fr b o h na nt
  · rcases at_ h with ⟨rfl, rfl⟩ | ⟨_, h⟩
    · exact ⟨_, hD⟩
    · exact r.ext.tb b o h
  · rcases r.cn with e | ⟨e1, e2⟩
    · exact .inl e
    · refine .inr ⟨e1, fun p hp => ?_⟩
      show upd Z.B D (.lst vs) p = none
      rw [upd_ne (fun (z : p = D) => n.own.nc (z ▸ hp))]
      exact e2 p hp
  · have h := r.sl i e o h1 h2
    cases e with
    | any => trivial
    | val d => exact h
    | stt => exact h
    | own l' =>
      obtain ⟨p, e, k1, k2, k3, k4⟩ := h
      refine ⟨p, e, k1, k2, ?_, k4⟩
      show upd Z.B D (.lst vs) p = none
      rw [upd_ne (fun (z : p = D) => n.df i l' h1 (by rw [h2, e, z]))]
      exact k3
theorem Rep.unhold {D : Addr} {vs : List V} {l : List Dv} (r : Rep (Z.hold D vs) c H F σ es) (hB : Z.B D = none) (hF : Z.F0 D = none) (hc : c ≠ some D) (k : Z.RA F vs l) : Rep Z c H F σ es ∧ New Z c H F σ es D l ∧ H D = some (.lst vs) := by
  have hBD : upd Z.B D (.lst vs) D = some (.lst vs) := upd_same
  have up : ∀ {b : Addr} {o : HO}, Z.B b = some o → upd Z.B D (.lst vs) b = some o := fun {b o} h => by rw [upd_ne (ne_of_none h hB)]; exact h
  have hna : Z.a ≠ some D := fun z => by
    rcases r.cn with e | ⟨e, _⟩
    · exact hc (e.trans z)
    · have : Z.a = none := e
      rw [this] at z; cases z
  have hH : H D = some (.lst vs) := r.ext.fr D _ hBD hna (fun _ z => by cases z)
  have hFD : F D = none := r.ext.nw D _ hBD rfl hna hF
  refine ⟨⟨r.bas, ⟨r.ext.sm, fun b o h m na nF => r.ext.nw b o (up h) m na nF, fun b o h na nt => r.ext.fr b o (up h) na nt, fun b o h => r.ext.tb b o (up h)⟩, ?_, r.len, fun i e o h1 h2 => ?_, r.ds⟩, ⟨⟨⟨vs, hH, k⟩, hFD, hB, hc⟩, fun i l' h1 h2 => ?_⟩, hH⟩
  · rcases r.cn with e | ⟨e1, e2⟩
    · exact .inl e
    · refine .inr ⟨e1, fun p hp => ?_⟩
      have z : upd Z.B D (.lst vs) p = none := e2 p hp
      rwa [upd_ne (fun (z : p = D) => hc (z ▸ hp))] at z
  · have h := r.sl i e o h1 h2
    cases e with
    | any => trivial
    | val d => exact h
    | stt => exact h
    | own l' =>
      obtain ⟨p, e, k1, k2, k3, k4⟩ := h
      refine ⟨p, e, k1, k2, ?_, k4⟩
      have z : upd Z.B D (.lst vs) p = none := k3
      by_cases e : p = D
      · rw [e, upd_same] at z; cases z
      · rwa [upd_ne e] at z
  · obtain ⟨p, e, o⟩ := r.own h1
    rw [h2] at e
    cases e
    have z : upd Z.B D (.lst vs) D = none := o.nb
    rw [upd_same] at z; cases z
theorem Rep.updNew (r : Rep Z c H F σ es) {D : Addr} {l l2 : List Dv} {vs : List V} (n : New Z c H F σ es D l) (k : Z.RA F vs l2) : Rep Z c (upd H D (.lst vs)) F σ es ∧ New Z c (upd H D (.lst vs)) F σ es D l2 := by
  obtain ⟨o, df⟩ := n
  have up : ∀ b, b ≠ D → upd H D (.lst vs) b = H b := fun b n => upd_ne n
  have ne : ∀ {b : Addr} {u : HO}, F b = some u → b ≠ D := fun q => ne_of_none q o.nf
  refine ⟨⟨⟨fun b u q => by rw [up b (ne q)]; exact r.bas.sm b u q, r.bas.nt, fun q e => ?_, ?_⟩, ⟨r.ext.sm, r.ext.nw, fun b u q n t => ?_, fun b u q => ?_⟩, r.cn, r.len, fun j e o' h1 h2 => ?_, r.ds⟩, ⟨⟨vs, upd_same, k⟩, o.nf, o.nb, o.nc⟩, df⟩
  · obtain ⟨⟨x, y, z, w⟩, nf⟩ := r.bas.st q e
    have n : q ≠ D := fun z => o.nc (z ▸ e)
    exact ⟨⟨x, y, by rw [up q n]; exact z, w⟩, nf⟩
  · obtain ⟨ws, e3, _⟩ := o.ex
    exact tabs_nl r.bas.tb (NL.lst e3 _)
  · rw [up b (ne_of_none q o.nb)]; exact r.ext.fr b u q n t
  · obtain ⟨o', z⟩ := r.ext.tb b u q
    exact ⟨o', by rw [up b (ne_of_none q o.nb)]; exact z⟩
  · have h := r.sl j e o' h1 h2
    cases e with
    | own l3 =>
      obtain ⟨q, e1, o2⟩ := h
      obtain ⟨ws, z1, z2⟩ := o2.ex
      have n2 : q ≠ D := fun z => df j l3 h1 (by rw [h2, e1, z])
      exact ⟨q, e1, ⟨ws, by rw [up q n2]; exact z1, z2⟩, o2.nf, o2.nb, o2.nc⟩
    | any => trivial
    | val d => exact h
    | stt => exact h
theorem New.wiped (n : New Z c H F σ es D l) (vs : List Nat) : New Z c H F (wipe σ vs) (wipeD es vs) D l := ⟨n.own, fun i l' h1 h2 => by
  rw [wipeD_get] at h1
  rw [wipe_get] at h2
  split at h2
  · cases h2
  · split at h1
    · cases h1
    · exact n.df i l' h1 h2⟩
end
/-- a comprehension's target -/
def GW (Z : Zx) (vs : List Nat) (g : TG) (gd : DG) : Prop := ∀ (c : Option Addr) (v : V) (σ : L2.St) (H F : Hp) (es : List Sl) (d : Dv) (Qd : List Sl → Prop) (Q : L2.St → Hp → Prop), Rep Z c H F (wipe σ vs) es → Z.R F v d → gd d es Qd →
  (∀ σ2 es2, Rep Z c H F σ2 es2 → wipe σ2 vs = wipe σ vs → Qd es2 → Q σ2 H) → g v (wipe σ vs) H Q
theorem gw_name {Z : Zx} {i : Nat} : GW Z [i] (gName i) (dgName i) := fun c v σ H F es d Qd Q rp r h q => q _ _ (rp.setVal r) (by rw [wipe_set (by simp), wipe_wipe]) h
theorem gw_tup2 {Z : Zx} {K : PySem.W.Frag} {i j : Nat} (hK : Z.K = K) : GW Z [i, j] (gTup K 2 (gCons (gName i) (gCons (gName j) gNil))) (dgTup 2 (dgCons (dgName i) (dgCons (dgName j) dgNil))) := fun c v σ H F es d Qd Q rp r h q => by
  obtain ⟨l, rfl, hl, d1, r1, rfl, d2, r2, rfl, rfl, h⟩ := h
  obtain ⟨p, xs, rfl, h1, k1⟩ := r.tup_inv
  obtain ⟨v1, v2, rfl, q1, q2⟩ := ra2 k1
  exact ⟨p, _, rfl, hK ▸ seqT_same rp.bas.sm h1, rfl, _, _, rfl, _, _, rfl, rfl, q _ _ ((rp.setVal q1).setVal q2) (by rw [wipe_set (by simp), wipe_set (by simp), wipe_wipe]) h⟩
theorem ra3 {K : PySem.W.Frag} {LP : Nat → Addr → Hp → Prop} {F : Hp} {vs : List V} {d d' d'' : Dv} (h : RpA K LP F vs [d, d', d'']) : ∃ v v' v'', vs = [v, v', v''] ∧ Rp K LP F v d ∧ Rp K LP F v' d' ∧ Rp K LP F v'' d'' := by
  cases h with | cons h k => obtain ⟨v, v', rfl, a, b⟩ := ra2 k; exact ⟨_, _, _, rfl, h, a, b⟩
theorem gw_tup3 {Z : Zx} {K : PySem.W.Frag} {i j m : Nat} (hK : Z.K = K) : GW Z [i, j, m] (gTup K 3 (gCons (gName i) (gCons (gName j) (gCons (gName m) gNil)))) (dgTup 3 (dgCons (dgName i) (dgCons (dgName j) (dgCons (dgName m) dgNil)))) := fun c v σ H F es d Qd Q rp r h q => by
  obtain ⟨l, rfl, hl, d1, r1, rfl, d2, r2, rfl, d3, r3, rfl, rfl, h⟩ := h
  obtain ⟨p, xs, rfl, h1, k1⟩ := r.tup_inv
  obtain ⟨v1, v2, v3, rfl, q1, q2, q3⟩ := ra3 k1
  exact ⟨p, _, rfl, hK ▸ seqT_same rp.bas.sm h1, rfl, _, _, rfl, _, _, rfl, _, _, rfl, rfl, q _ _ (((rp.setVal q1).setVal q2).setVal q3) (by rw [wipe_set (by simp), wipe_set (by simp), wipe_set (by simp), wipe_wipe]) h⟩
def dLcW (gd : DG) (dt : DT) (te : DE) (vs : List Nat) (l : List Dv) (es0 : List Sl) (Q : List Dv → List Sl → Prop) : Prop := ∃ W : List Dv → List Dv → List Sl → Prop, W l [] es0 ∧
  (∀ d r acc es, W (d :: r) acc es → gd d es fun es2 => dt es2 fun b es3 => if b = true then te es3 fun y es4 => acc.length < 1000000 ∧ W r (acc ++ [y]) (wipeD es4 vs) else W r acc (wipeD es3 vs)) ∧ ∀ acc es, W [] acc es → Q acc es
def dLc (ti : DA) (gd : DG) (dt : DT) (te : DE) (vs : List Nat) : DA := fun es Q => ti es fun l es1 => dLcW gd dt te vs l (wipeD es1 vs) Q
/-- unrolled -/
def dLcR (gd : DG) (dt : DT) (te : DE) (vs : List Nat) : List Dv → List Dv → List Sl → (List Dv → List Sl → Prop) → Prop
  | [], acc, es, Q => Q acc es
  | d :: r, acc, es, Q => gd d es fun es2 => dt es2 fun b es3 => if b = true then te es3 fun y es4 => acc.length < 1000000 ∧ dLcR gd dt te vs r (acc ++ [y]) (wipeD es4 vs) Q else dLcR gd dt te vs r acc (wipeD es3 vs) Q
theorem dLcW_R {gd : DG} {dt : DT} {te : DE} {vs : List Nat} {l : List Dv} {es0 : List Sl} {Q : List Dv → List Sl → Prop} (h : dLcR gd dt te vs l [] es0 Q) : dLcW gd dt te vs l es0 Q :=
  ⟨fun l acc es => dLcR gd dt te vs l acc es Q, h, fun _ _ _ _ w => w, fun _ _ w => w⟩
def dYes : DT := fun es Q => Q true es
section
variable {X : Cx} {Z : Zx} {pos : Pos}
theorem lc_lift {ti : DA} {g : TG} {gd : DG} {dt : DT} {te : DE} {vs : List Nat} (hG : ∀ B', GW { Z with B := B' } vs g gd) :
    ∀ σ H Q, lN Z (dLc ti gd dt te vs) σ H Q → tLc (lI Z ti) g (fun σ H Q => ∃ B', lT { Z with B := B' } dt σ H Q) (fun σ H Q => ∃ B', lE { Z with B := B' } te σ H Q) vs σ H Q := fun σ H Q ⟨c, F, es, Qd, rp, h, q⟩ => by
  refine ⟨c, F, es, _, rp, h, fun J H1 F1 l es1 s1 rp1 it ⟨Wd, w0, step, fin⟩ D hD => ?_⟩
  have hB := B_none rp1 hD
  have hF0 : Z.F0 D = none := by
    cases e : Z.F0 D with
    | none => rfl
    | some o => have := F_none rp1 hD; rw [rp1.ext.sm _ _ e] at this; cases this
  have hc := c_ne rp1 hD
  obtain ⟨rp2, n2⟩ := rp1.new hD (vs := []) (l := []) .nil
  have rp3 := rp2.wiped vs
  have n3 := n2.wiped vs
  refine ⟨fun i m H => m = l.length - i ∧ i ≤ l.length ∧ ∃ F2 acc es, Rep Z c H F2 (wipe σ vs) es ∧ Same F1 F2 ∧ New Z c H F2 (wipe σ vs) es D acc ∧ wipeD es vs = es ∧ Wd (l.drop i) acc es,
    ⟨l.length, by simp, Nat.zero_le _, F1, [], _, rp3, Same.refl _, n3, wipeD_wipeD, w0⟩, ?_⟩
  rintro i m H2 ⟨rfl, hi, F2, acc, es2, rp2, s2, n2, hw, w2⟩
  by_cases hlt : i < l.length
  · have hd : l[i]? = some l[i] := List.getElem?_eq_getElem hlt
    obtain ⟨go, yl⟩ := it.yld rp2 s2 hd
    have e : l.drop i = l[i] :: l.drop (i + 1) := List.drop_eq_getElem_cons hlt
    rw [e] at w2
    refine .inr ⟨go, fun H' => ∃ F' acc es, Rep Z c H' F' (wipe σ vs) es ∧ Same F1 F' ∧ New Z c H' F' (wipe σ vs) es D acc ∧ wipeD es vs = es ∧ Wd (l.drop (i + 1)) acc es, fun H' ⟨F3, acc3, es3, r3, s3, m3, g3, w3⟩ => ⟨l.length - (i + 1), by omega, rfl, hlt, F3, acc3, es3, r3, s3, m3, g3, w3⟩, fun x H3 hy => ?_⟩
    obtain ⟨ws, hDw, kw⟩ := n2.own.ex
    have rpH := rp2.hold n2 hDw
    obtain ⟨F3, s3, rp3, r3, sH, nw⟩ := yl x H3 hy
    have n3 : New Z c H3 F3 (wipe σ vs) es2 D acc := ⟨⟨⟨ws, sH _ _ hDw, kw.ext Z.lp s3⟩, nw _ _ hDw n2.own.nf, n2.own.nb, n2.own.nc⟩, n2.df⟩
    have rp3H := rp3.hold n3 (sH _ _ hDw)
    refine hG _ c x σ H3 F3 es2 l[i] _ _ rp3H r3 (step _ _ _ _ w2) fun σ4 es4 rp4 hw4 z4 => ⟨hw4, _, c, F3, es4, _, rp4, z4, fun b H5 F5 es5 s5 rp5 z5 => ?_⟩
    have s15 := (s2.trans s3).trans s5
    cases b with
    | false =>
      rw [if_neg Bool.false_ne_true] at z5
      refine iteF ?_
      obtain ⟨rp6, n6, hD6⟩ := rp5.unhold hB hF0 hc (kw.ext Z.lp (s3.trans s5))
      have rp7 := rp6.wiped vs
      rw [hw4] at rp7
      have n7 := n6.wiped vs
      rw [hw4] at n7
      exact ⟨F5, acc, _, rp7, s15, n7, wipeD_wipeD, z5⟩
    | true =>
      rw [if_pos rfl] at z5
      refine iteT ?_
      refine ⟨_, c, F5, es5, _, rp5, z5, fun y H6 F6 d6 es6 s6 rp6 r6 ⟨hlen, z6⟩ => ?_⟩
      obtain ⟨rp7, n7, hD7⟩ := rp6.unhold hB hF0 hc (kw.ext Z.lp ((s3.trans s5).trans s6))
      have rp8 := rp7.wiped vs
      rw [hw4] at rp8
      have n8 := n7.wiped vs
      rw [hw4] at n8
      obtain ⟨rp9, n9⟩ := rp8.updNew n8 ((kw.ext Z.lp ((s3.trans s5).trans s6)).snoc r6)
      exact ⟨ws, hD7, szl (by rw [kw.len]; exact hlen), F6, acc ++ [d6], _, rp9, s15.trans s6, n9, wipeD_wipeD, z6⟩
  · have e : i = l.length := by omega
    subst e
    rw [List.drop_length] at w2
    have rpu := rp2.unwiped hw
    have nu : New Z c H2 F2 σ es2 D acc := ⟨n2.own, fun i l' h1 h2 => by
      refine n2.df i l' h1 ?_
      rw [wipe_get, if_neg ?_]
      · exact h2
      · rintro ⟨z1, z2⟩
        rw [← hw, wipeD_get, if_pos ⟨z1, by rw [← rpu.len]; exact z2⟩] at h1
        cases h1⟩
    exact .inl ⟨it.stop _ _ s2 rp2.bas.sm, q _ _ _ _ _ (s1.trans s2) rpu nu (fin _ _ w2)⟩
theorem PE_ex {e : Expr} {α : Type} {t : α → TE} (h : ∀ x, PE X e (t x)) : PE X e (fun σ H Q => ∃ x, t x σ H Q) := ⟨fun pins s σ H Q I ⟨x, z⟩ => (h x).run pins s σ H Q I z⟩
theorem PTs_ex {e : List Expr} {α : Type} {t : α → TT} (h : ∀ x, PTs X e (t x)) : PTs X e (fun σ H Q => ∃ x, t x σ H Q) := ⟨fun pins s σ H Q I ⟨x, z⟩ => (h x).run pins s σ H Q I z⟩
theorem dts_nil : PTs X [] (lT Z dYes) := pts_nil.mono fun σ H Q ⟨c, F, es, Qd, rp, h, q⟩ => q _ _ _ _ (Same.refl F) rp h
theorem dts_one {e : Expr} {t : DT} (h : PT X e (lT Z t)) : PTs X [e] (lT Z t) := pts_one h
variable {elt tg iter : Expr} {ifs : List Expr} {scope : Scope} {own : List (Str × Nat)} {ti : DA} {g : TG} {gd : DG} {dt : DT} {te : DE}
theorem dn_lc (hc : X.calm = true) (hN : X.N.Nodup) (hi : PI X tg iter (lI Z ti)) (ok : BlkOk X.N X.env.scope scope own) (hG : ∀ B', GW { Z with B := B' } (own.map (·.2)) g gd)
    (hg : ∀ (s : Shared) (H : Hp) (C : Addr) (cl : List (Str × Addr)) (fp : List Addr), PG (X.blk s H scope (compEnvC scope cl C X.env) fp) tg g) (ht : ∀ (B' : Hp) (s : Shared) (H : Hp) (C : Addr) (cl : List (Str × Addr)) (fp : List Addr), PTs (X.blk s H scope (compEnvC scope cl C X.env) fp) ifs (lT { Z with B := B' } dt))
    (he : ∀ (B' : Hp) (s : Shared) (H : Hp) (C : Addr) (cl : List (Str × Addr)) (fp : List Addr), PE (X.blk s H scope (compEnvC scope cl C X.env) fp) elt (lE { Z with B := B' } te)) (hs : ∀ x, foldedSetIterable iter X.env x = pure x := by intro _; rfl) :
    PE X (.ListComp elt [⟨tg, iter, ifs, 0⟩] scope pos) (lN Z (dLc ti gd dt te (own.map (·.2)))) :=
  (pe_lc hc hN hi ok hg (fun s H C cl fp => PTs_ex fun B' => ht B' s H C cl fp) (fun s H C cl fp => PE_ex fun B' => he B' s H C cl fp) hs).mono (lc_lift hG)
theorem ds_setLcN {i : Nat} {y : Str} {py spos : Pos} (hc : X.calm = true) (hN : X.N.Nodup) (hy : X.N[i]? = some y) (hyl : X.env.scope.names.lookup y = some .local)
    (hsw : swapsWith (.ListComp elt [⟨tg, iter, ifs, 0⟩] scope pos) (some (.Name y py)) spos.line X.env = pure true) (hi : PI X tg iter (lI Z ti)) (ok : BlkOk X.N X.env.scope scope own) (hG : ∀ B', GW { Z with B := B' } (own.map (·.2)) g gd)
    (hg : ∀ (s : Shared) (H : Hp) (C : Addr) (cl : List (Str × Addr)) (fp : List Addr), PG (X.blk s H scope (compEnvC scope cl C X.env) fp) tg g) (ht : ∀ (B' : Hp) (s : Shared) (H : Hp) (C : Addr) (cl : List (Str × Addr)) (fp : List Addr), PTs (X.blk s H scope (compEnvC scope cl C X.env) fp) ifs (lT { Z with B := B' } dt))
    (he : ∀ (B' : Hp) (s : Shared) (H : Hp) (C : Addr) (cl : List (Str × Addr)) (fp : List Addr), PE (X.blk s H scope (compEnvC scope cl C X.env) fp) elt (lE { Z with B := B' } te)) (hs : ∀ x, foldedSetIterable iter X.env x = pure x := by intro _; rfl) :
    PS X (.Assign [.Name y py] (.ListComp elt [⟨tg, iter, ifs, 0⟩] scope pos) spos) (lS Z (dSetN i (dLc ti gd dt te (own.map (·.2))))) :=
  (ps_setLc hc hN hy hyl hsw hi ok hg (fun s H C cl fp => PTs_ex fun B' => ht B' s H C cl fp) (fun s H C cl fp => PE_ex fun B' => he B' s H C cl fp) hs).mono fun D σ H ⟨c, F, es, Dn, rp, h, nx, _⟩ =>
    lc_lift hG _ _ _ ⟨c, F, es, _, rp, h, fun p H1 F1 l es1 s1 rp1 n1 z => nx _ _ _ _ _ s1 (rp1.setOwn n1) z⟩
theorem ds_setLc {i : Nat} {y : Str} {py spos : Pos} (hc : X.calm = true) (hN : X.N.Nodup) (hy : X.N[i]? = some y) (hyl : X.env.scope.names.lookup y = some .local)
    (hsw : swapsWith (.ListComp elt [⟨tg, iter, ifs, 0⟩] scope pos) (some (.Name y py)) spos.line X.env = pure true) (hi : PI X tg iter (lI Z ti)) (ok : BlkOk X.N X.env.scope scope own) (hG : ∀ B', GW { Z with B := B' } (own.map (·.2)) g gd)
    (hg : ∀ (s : Shared) (H : Hp) (C : Addr) (cl : List (Str × Addr)) (fp : List Addr), PG (X.blk s H scope (compEnvC scope cl C X.env) fp) tg g) (ht : ∀ (B' : Hp) (s : Shared) (H : Hp) (C : Addr) (cl : List (Str × Addr)) (fp : List Addr), PTs (X.blk s H scope (compEnvC scope cl C X.env) fp) ifs (lT { Z with B := B' } dt))
    (he : ∀ (B' : Hp) (s : Shared) (H : Hp) (C : Addr) (cl : List (Str × Addr)) (fp : List Addr), PE (X.blk s H scope (compEnvC scope cl C X.env) fp) elt (lE { Z with B := B' } te)) (hs : ∀ x, foldedSetIterable iter X.env x = pure x := by intro _; rfl) :
    PS X (.Assign [.Name y py] (.ListComp elt [⟨tg, iter, ifs, 0⟩] scope pos) spos) (lS Z (dSet i (dOf (dLc ti gd dt te (own.map (·.2)))))) :=
  (ps_setLc hc hN hy hyl hsw hi ok hg (fun s H C cl fp => PTs_ex fun B' => ht B' s H C cl fp) (fun s H C cl fp => PE_ex fun B' => he B' s H C cl fp) hs).mono fun D σ H ⟨c, F, es, Dn, rp, h, nx, _⟩ =>
    lc_lift hG _ _ _ ⟨c, F, es, _, rp, h, fun p H1 F1 l es1 s1 rp1 n1 z => by
      obtain ⟨F2, s2, rp2, r2⟩ := rp1.freezeNew n1
      exact nx _ _ _ _ _ (s1.trans s2) (rp2.setVal r2) z⟩
end
/-- a comprehension by an invariant over the turn's number -/
theorem dLc_P {gd : DG} {dt : DT} {te : DE} {vs : List Nat} {l : List Dv} {es0 : List Sl} {Q : List Dv → List Sl → Prop} (Pv : Nat → List Dv → List Sl → Prop) (h0 : Pv 0 [] es0)
    (hs : ∀ i d acc es, l[i]? = some d → Pv i acc es → gd d es fun es2 => dt es2 fun b es3 => if b = true then te es3 fun y es4 => acc.length < 1000000 ∧ Pv (i + 1) (acc ++ [y]) (wipeD es4 vs) else Pv (i + 1) acc (wipeD es3 vs)) (hd : ∀ acc es, Pv l.length acc es → Q acc es) :
    dLcW gd dt te vs l es0 Q := by
  refine ⟨fun r acc es => l.drop (l.length - r.length) = r ∧ Pv (l.length - r.length) acc es, ⟨by simp, by simpa using h0⟩, fun d r acc es ⟨e, p⟩ => ?_, fun acc es ⟨e, p⟩ => hd acc es (by simpa using p)⟩
  have hle : r.length + 1 ≤ l.length := by
    have := congrArg List.length e
    simp only [List.length_drop, List.length_cons] at this
    omega
  generalize hi : l.length - (d :: r).length = i at e p
  have hi' : i + (r.length + 1) = l.length := by simp only [List.length_cons] at hi; omega
  have hr : l.length - r.length = i + 1 := by omega
  have hget : l[i]? = some d := by
    have := congrArg (fun z => z[0]?) e
    simpa using this
  have hdr : l.drop (i + 1) = r := by
    have := congrArg List.tail e
    simpa using this
  have eW : (fun acc' es' => l.drop (l.length - r.length) = r ∧ Pv (l.length - r.length) acc' es') = Pv (i + 1) := by
    funext acc' es'
    rw [hr, hdr]
    exact propext ⟨fun z => z.2, fun z => ⟨rfl, z⟩⟩
  have := hs i d acc es hget p
  rw [← eW] at this
  exact this
end My

end
section
set_option maxRecDepth 100000
set_option maxHeartbeats 1000000
open PySem PySem.Spec PyProof.Rows L2 LamX
namespace My
theorem Rep.bas0 {Z : Zx} {c : Option Addr} {H F : Hp} {σ : L2.St} {es : List Sl} (r : Rep Z c H F σ es) : Bas Z.T Z.a H F := by
  refine ⟨r.bas.sm, r.bas.nt, fun q e => ?_, r.bas.tb⟩
  rcases r.cn with e1 | ⟨e1, _⟩
  · exact r.bas.st q (e1.trans e)
  · rw [e1] at e
    cases e
/-! ### defs by data -/
abbrev DSp := List Ar → (Dv → Prop) → (Er → Prop) → Prop
/-- an exception, as it leaves -/
def ErV (er : String → Addr) (E : XK) (H : Hp) : Er → Prop
  | .pl n => E (.ref (er n)) none H
  | .great a b => ∀ d, H d = some (.xd [("many", .int a), ("most", .int b)]) → E (.ref (er "TooGreat")) (some d) H
def lSp (K : PySem.W.Frag) (er : String → Addr) (T : List (Addr × Str)) (sp : DSp) : Sp := fun vs H Q E => ∃ (LP : Nat → Addr → Hp → Prop) (a : Option Addr) (F : Hp) (as : List Ar) (Qd : Dv → Prop) (Ed : Er → Prop), LPs LP ∧ Bas T a H F ∧ RAr K LP a F vs as ∧ sp as Qd Ed ∧
  (∀ v H' F' d, Bas T a H' F' → Ext a H F H' F' → Rp K LP F' v d → Qd d → Q v H') ∧ ∀ x H' F', Bas T a H' F' → Ext a H F H' F' → Ed x → ErV er E H' x
/-- no exception -/
def Ed0 : Er → Prop := fun _ => False
/-- what a def's own wish of exceptions is by data -/
def Wx (Z : Zx) (er : String → Addr) (Ed : Er → Prop) (E : XK) : Prop := ∀ x H' F', Bas Z.T Z.a H' F' → Ext Z.a Z.B Z.F0 H' F' → Ed x → ErV er E H' x
def dStart (N : List Str) (as : List Ar) : List Sl := (as.map fun
  | .st => Sl.stt
  | .d x => Sl.val x) ++ List.replicate (N.length - as.length) Sl.any
theorem rep_start {K : PySem.W.Frag} {LP : Nat → Addr → Hp → Prop} (lp : LPs LP) {T : List (Addr × Str)} {a : Option Addr} {H F : Hp} {vs : List V} {as : List Ar} {N : List Str} (b : Bas T a H F) (r : RAr K LP a F vs as) :
    Rep ⟨K, LP, T, a, H, F, lp⟩ a H F (L2.start N vs) (dStart N as) := by
  have key : ∀ {vs : List V} {as : List Ar}, RAr K LP a F vs as → ∀ (i : Nat) (e : Sl) (o : Option V), (as.map fun
      | .st => Sl.stt
      | .d x => Sl.val x)[i]? = some e → (vs.map some)[i]? = some o → SlR ⟨K, LP, T, a, H, F, lp⟩ a H F o e := by
    intro vs as r
    induction r with
    | nil => intro i e o h; simp at h
    | st h k ih =>
      intro i e o h1 h2
      cases i with
      | zero =>
        simp only [List.map_cons, List.getElem?_cons_zero, Option.some.injEq] at h1 h2
        subst h1 h2
        exact ⟨_, rfl, h⟩
      | succ i =>
        simp only [List.map_cons, List.getElem?_cons_succ] at h1 h2
        exact ih i e o h1 h2
    | d h k ih =>
      intro i e o h1 h2
      cases i with
      | zero =>
        simp only [List.map_cons, List.getElem?_cons_zero, Option.some.injEq] at h1 h2
        subst h1 h2
        exact ⟨_, rfl, h⟩
      | succ i =>
        simp only [List.map_cons, List.getElem?_cons_succ] at h1 h2
        exact ih i e o h1 h2
  have own : ∀ {i : Nat} {l : List Dv}, (dStart N as)[i]? ≠ some (.own l) := fun {i l} h => by
    unfold dStart at h
    rw [List.getElem?_append] at h
    split at h
    · rw [List.getElem?_map] at h
      cases e : as[i]? with
      | none => rw [e] at h; cases h
      | some x => rw [e] at h; cases x <;> cases h
    · have := List.eq_of_mem_replicate (List.mem_of_getElem? h)
      cases this
  refine ⟨b, Ext.refl _ _ _, .inl rfl, ?_, fun i e o h1 h2 => ?_, fun i j p l l' n h1 h2 => (own h1).elim⟩
  · unfold L2.start dStart
    simp only [List.length_append, List.length_map, List.length_replicate, r.len]
  · unfold L2.start at h2
    unfold dStart at h1
    rw [List.getElem?_append] at h1 h2
    rw [List.length_map] at h1 h2
    rw [r.len] at h2
    split at h1
    · rename_i hl
      rw [if_pos hl] at h2
      exact key r i e o h1 h2
    · have := List.eq_of_mem_replicate (List.mem_of_getElem? h1)
      subst this
      trivial
section
variable {P : Program} {w : World} {K : PySem.W.Frag} {mg : Str → Option Value} {base : Heap} {er : String → Addr} {T : List (Addr × Str)}
/-- a def's body gives its promise: no exception leaves -/
theorem fnD0 {x qual : Str} {st : Stmt} {f : Addr} {fd : FuncData} {N ps : List Str} {k : Nat} {sp : DSp} (F : Fun K x qual st f fd) (S : FnScope N ps (defScope st)) (len : ∀ as Q E, sp as Q E → as.length = ps.length)
    (hb : ∀ (cdv : Value) (A : Around) (out : List Env) (s : Shared) (h : Hp) (e : XK), fd.code = cdv → Room k (A.deeper (envOfC qual (defScope st) s.heap.objs.size f cdv)) → A.guards = some [] → ∀ (LP : Nat → Addr → Hp → Prop) (a : Option Addr) (F : Hp) (lp : LPs LP) (as : List Ar) (Q : Dv → Prop) (Ed : Er → Prop), sp as Q Ed →
      ∃ t, PSs (cxOf CX0 P w K mg base N qual (defScope st) f cdv A out s h e).nox (defBody st) (lS ⟨K, LP, T, a, h, F, lp⟩ t) ∧ t { nx := fun _ => Q .non, rt := Q } (dStart N as)) : FnG P w K mg base CX0 (k + 1) f fd ps (lSp K er T sp) := by
  refine fnG0c F S (fun vs H Q E ⟨LP, a, F, as, Qd, Ed, lp, b, r, h, _⟩ => r.len.trans (len as Qd Ed h)) (fun cdv A out s H vs Q E hc hr hg ⟨LP, a, F, as, Qd, Ed, lp, b, r, h, q, _⟩ => ?_)
  obtain ⟨t, p, z⟩ := hb cdv A out s H E hc hr hg LP a F lp as Qd Ed h
  refine ⟨_, p, a, F, _, _, rep_start lp b r, z, fun c σ H' F' es' s r z => ?_, fun _ _ _ _ _ _ _ z => z.elim, fun _ _ _ _ _ _ _ z => z.elim, fun c v σ H' F' es' d s r k z => ?_⟩
  · exact q _ _ _ _ r.bas0 r.ext .non z
  · exact q _ _ _ _ r.bas0 r.ext k z
/-- .. that may raise -/
theorem fnDx {x qual : Str} {st : Stmt} {f : Addr} {fd : FuncData} {N ps : List Str} {k : Nat} {sp : DSp} (F : Fun K x qual st f fd) (S : FnScope N ps (defScope st)) (len : ∀ as Q E, sp as Q E → as.length = ps.length)
    (hb : ∀ (cdv : Value) (A : Around) (out : List Env) (s : Shared) (h : Hp) (e : XK), fd.code = cdv → Room k (A.deeper (envOfC qual (defScope st) s.heap.objs.size f cdv)) → A.guards = some [] → ∀ (LP : Nat → Addr → Hp → Prop) (a : Option Addr) (F : Hp) (lp : LPs LP) (as : List Ar) (Q : Dv → Prop) (Ed : Er → Prop), Wx ⟨K, LP, T, a, h, F, lp⟩ er Ed e → sp as Q Ed →
      ∃ t, PSs (cxOf (L2.CX P w) P w K mg base N qual (defScope st) f cdv A out s h e) (defBody st) (lS ⟨K, LP, T, a, h, F, lp⟩ t) ∧ t { nx := fun _ => Q .non, rt := Q } (dStart N as)) : FnG P w K mg base (L2.CX P w) (k + 1) f fd ps (lSp K er T sp) := by
  refine fnGc F S (fun vs H Q E ⟨LP, a, F, as, Qd, Ed, lp, b, r, h, _⟩ => r.len.trans (len as Qd Ed h)) (fun cdv A out s H vs Q E hc hr hg ⟨LP, a, F, as, Qd, Ed, lp, b, r, h, q, x⟩ => ?_)
  obtain ⟨t, p, z⟩ := hb cdv A out s H E hc hr hg LP a F lp as Qd Ed x h
  refine ⟨_, p, a, F, _, _, rep_start lp b r, z, fun c σ H' F' es' s r z => ?_, fun _ _ _ _ _ _ _ z => z.elim, fun _ _ _ _ _ _ _ z => z.elim, fun c v σ H' F' es' d s r k z => ?_⟩
  · exact q _ _ _ _ r.bas0 r.ext .non z
  · exact q _ _ _ _ r.bas0 r.ext k z
end
/-! ### calls by data -/
def dCl (sp : DSp) (Ed : Er → Prop) (t : DC) : DE := fun es Q => t es fun as es1 => sp as (fun d => Q d es1) Ed
section
variable {X : Cx} {Z : Zx} {er : String → Addr} {CX : CXT} {k j : Nat} {x : Str} {sp : DSp} {p pos : Pos} {e : Expr} {es' : List Expr} {t : DC} {E : XK} {Ed : Er → Prop}
theorem l_cl (wx : Wx Z er Ed E) : ∀ σ H Q, lE Z (dCl sp Ed t) σ H Q → tCl (lSp Z.K er Z.T sp) E (lC Z t) σ H Q := fun σ H Q ⟨c, F, es, Qd, rp, h, q⟩ =>
  ⟨c, F, es, _, rp, h, fun vs H1 F1 as es1 s1 rp1 r1 z => ⟨Z.LP, c, F1, as, _, Ed, Z.lp, rp1.bas, r1, z, fun v H' F' d b x r y => q _ _ _ _ _ (s1.trans x.sm) (rp1.step b x) r y, fun y H' F' b x z => by
    have r2 := rp1.step b x
    exact wx y H' F' r2.bas0 r2.ext z⟩⟩
theorem wx0 : Wx Z er Ed0 E0 := fun x H' F' _ _ z => z.elim
/-- a def that raises nothing is called -/
theorem de_cl (hK : Z.K = X.K) (c : Cl X.prog X.w X.K X.mg X.base CX0 k x (lSp X.K er Z.T sp)) (hr : Room j X.A) (hgd : X.A.guards = some []) (hk : k ≤ j) (hg : Gl X x) (ha : PA X (e :: es') (lC Z t))
    (hdb : (x == ("__debug__" : Str)) = false := by decide) (he : starEach (e :: es') X.env = (false, eval e X.env) :: starEach es' X.env := by rfl) (hpl : (backTo pos (starEach es' X.env)).any (·.1) = false := by rfl) :
    PE X (.Call (.Name x p) (e :: es') [] pos) (lE Z (dCl sp Ed0 t)) := (pe_cl c hr hgd hk hg ha hdb he hpl).mono (hK ▸ l_cl wx0)
/-- a def that may raise is called where nothing is let out -/
theorem de_cln (hK : Z.K = X.K) (c : Cl X.prog X.w X.K X.mg X.base (L2.CX X.prog X.w) k x (lSp X.K er Z.T sp)) (hr : Room j X.A) (hgd : X.A.guards = some []) (hk : k ≤ j) (hg : Gl X x) (ha : PA X (e :: es') (lC Z t))
    (hdb : (x == ("__debug__" : Str)) = false := by decide) (he : starEach (e :: es') X.env = (false, eval e X.env) :: starEach es' X.env := by rfl) (hpl : (backTo pos (starEach es' X.env)).any (·.1) = false := by rfl) :
    PE X (.Call (.Name x p) (e :: es') [] pos) (lE Z (dCl sp Ed0 t)) := (pe_cln c hr hgd hk hg ha hdb he hpl).mono (hK ▸ l_cl wx0)
/-- .. in a def that lets the same out -/
theorem de_clx {W : WX} (tk : Takes X W) (hW : ∀ cls d σ H, E cls d H → W cls d σ H) (wx : Wx Z er Ed E) (hK : Z.K = X.K) (c : Cl X.prog X.w X.K X.mg X.base (L2.CX X.prog X.w) k x (lSp X.K er Z.T sp)) (hr : Room j X.A) (hgd : X.A.guards = some []) (hk : k ≤ j) (hg : Gl X x) (ha : PA X (e :: es') (lC Z t))
    (hdb : (x == ("__debug__" : Str)) = false := by decide) (he : starEach (e :: es') X.env = (false, eval e X.env) :: starEach es' X.env := by rfl) (hpl : (backTo pos (starEach es' X.env)).any (·.1) = false := by rfl) :
    PE X (.Call (.Name x p) (e :: es') [] pos) (lE Z (dCl sp Ed t)) := (pe_clx tk hW c hr hgd hk hg ha hdb he hpl).mono (hK ▸ l_cl wx)
/-- raise X("..") -/
def dRaise (Ed : Er → Prop) (n : String) : DS := fun _ _ => Ed (.pl n)
theorem ds_raise {n : String} {x m : Str} {j : Nat} {p2 pos2 : Pos} (wx : Wx Z er Ed E) (hc : X.calm = true) (tk : Takes X (fun cls d _ H => E cls d H)) (ec : EC X.K X.mg x (er n)) (hg : Gl X x) (hdb : (x == ("__debug__" : Str)) = false := by decide) :
    PS X (.Raise (some (.Call (.Name x p) [.Constant (.str m) j p2] [] pos2)) none pos) (lS Z (dRaise Ed n)) := (ps_raise hc tk (pmk_own PySem.F.excBase_ValueError ec.q ec.g ec.k (raises_own ec.b ec.t) hg hdb)).mono fun D σ H ⟨c, F, es, Dn, rp, z, _⟩ =>
  wx (.pl n) H F rp.bas0 rp.ext z
/-! ### the state of a law's draws -/
def noStt : Sl → Sl
  | .stt => .any
  | s => s
/-- state = _law_state(script, k) -/
def dState (i j l : Nat) : DS := fun D es => ∃ ns k, es[j]? = some (.val (.scr ns)) ∧ es[l]? = some (.val (.int k)) ∧ 0 ≤ k ∧ D.nx ((es.map noStt).set i .stt)
theorem ds_state {i j l : Nat} {a : Str} {ex : Expr} {pos' : Pos} (hZ : Z.a = none) (hK : Z.K = X.K) (hN : X.N.Nodup) (hi : X.N[i]? = some a) (hx : Loc X.env.scope a) (he : PE X ex (tCl (spState X.K) E0 (tCons (tVar j) (tCons (tVar l) tNil))))
    (hs : swapsWith ex (some (.Name a pos')) pos.line X.env = pure false := by rfl) (hf : X.fn a = true ∨ X.env.scope.names.lookup a = some .local := by first | exact .inl rfl | exact .inr rfl | assumption) :
    PS X (.Assign [.Name a pos'] ex pos) (lS Z (dState i j l)) := (ps_set hN hi hx he hs hf).mono fun D σ H ⟨c, F, es, Dn, rp, ⟨ns, k, h1, h2, h0, z⟩, nx, _⟩ => by
  obtain ⟨v, g1, r1⟩ := rp.val h1
  obtain ⟨u, g2, r2⟩ := rp.val h2
  obtain ⟨p, rfl, sq⟩ := r1.scr_inv
  cases r2.int_inv
  obtain ⟨k, rfl⟩ := Int.eq_ofNat_of_zero_le h0
  refine ⟨_, g1, _, g2, p, ns, k, rfl, hK ▸ rp.bas.sm.seq sq, fun q H' nq s st => ?_⟩
  refine nx (some q) _ _ F _ (Same.refl F) ?_ z
  have r := rp.same s
  have nF := F_none rp nq
  have nB := B_none rp nq
  have nst : ∀ {e : Sl} {d : List Dv}, noStt e = .own d → e = .own d := fun {e d} h => by cases e <;> first | exact h | cases h
  refine ⟨⟨r.bas.sm, r.bas.nt, fun p e => ?_, r.bas.tb⟩, r.ext, .inr ⟨hZ, fun p e => ?_⟩, by rw [List.length_set, List.length_set, List.length_map]; exact r.len, fun m e o e1 e2 => ?_, fun m n p l1 l2 hn e1 e2 e3 e4 => ?_⟩
  · cases e; exact ⟨st, nF⟩
  · cases e; exact nB
  · rcases getset e1 with ⟨rfl, rfl⟩ | ⟨hn, e1⟩
    · rcases getset e2 with ⟨_, rfl⟩ | ⟨n, _⟩
      · exact ⟨q, rfl, rfl⟩
      · exact absurd rfl n
    · rcases getset e2 with ⟨e, _⟩ | ⟨_, e2⟩
      · exact absurd e hn
      · rw [List.getElem?_map] at e1
        cases e3 : es[m]? with
        | none => rw [e3] at e1; cases e1
        | some e' =>
          rw [e3] at e1
          cases e1
          have h := r.sl m e' o e3 e2
          cases e' with
          | any => trivial
          | val d => exact h
          | stt => trivial
          | own l' =>
            obtain ⟨p', e, ⟨vs, k1, k2⟩, k3, k4, k5⟩ := rp.sl m _ o e3 e2
            exact ⟨p', e, ⟨vs, s _ _ k1, k2⟩, k3, k4, fun z => by cases z; rw [nq] at k1; cases k1⟩
  · rcases getset e1 with ⟨_, z⟩ | ⟨n1, e1⟩
    · cases z
    rcases getset e2 with ⟨_, z⟩ | ⟨n2, e2⟩
    · cases z
    rw [List.getElem?_set_ne (Ne.symm n1)] at e3
    rw [List.getElem?_set_ne (Ne.symm n2)] at e4
    rw [List.getElem?_map] at e1 e2
    cases f1 : es[m]? with
    | none => rw [f1] at e1; cases e1
    | some a1 =>
      cases f2 : es[n]? with
      | none => rw [f2] at e2; cases e2
      | some a2 =>
        rw [f1] at e1
        rw [f2] at e2
        have g1 := nst (Option.some.inj e1)
        have g2 := nst (Option.some.inj e2)
        exact r.ds m n p l1 l2 hn (f1.trans (congrArg some g1)) (f2.trans (congrArg some g2)) e3 e4
/-- what stands in the kit of session 1, by data: a draw -/
def dsTake : DSp := fun as Q _ => ∃ m, as = [.st, .d (.int m)] ∧ 0 < m ∧ m < 2 ^ 200 ∧ ∀ r : Int, 0 ≤ r → r < m → Q (.int r)
theorem take_data {K : PySem.W.Frag} {er : String → Addr} {T : List (Addr × Str)} : ∀ as H q e, lSp K er T dsTake as H q e → spTake as H q e := by
  rintro vs H Q E ⟨LP, a, F, as, Qd, Ed, lp, b, r, ⟨m, rfl, h1, h2, h3⟩, q, _⟩
  cases r with
  | @st p vs' as' ha k =>
    cases k with
    | d h k =>
      cases k
      cases h.int_inv
      subst ha
      obtain ⟨st, nF⟩ := b.st _ rfl
      refine ⟨_, m, rfl, st, h1, h2, fun r H' r0 r1 D => ?_⟩
      have stl : ∃ x y, H p = some (.lst [.int x, .int y]) := by obtain ⟨x, y, z, _⟩ := st; exact ⟨x, y, z⟩
      obtain ⟨x, y, stl⟩ := stl
      refine q _ H' F _ ⟨fun b' u z => D.2 b' u (b.sm _ _ z) (ne_of_none z nF), b.nt, fun p' e => ?_, tabs_nl b.tb (NL.draw D st)⟩ ⟨Same.refl F, fun _ _ _ _ _ z => z, fun b' u z n _ => D.2 b' u z (fun e => n (by rw [e])), fun b' u z => ?_⟩ (.int r) (h3 r r0 r1)
      · cases e; exact ⟨D.1, nF⟩
      · by_cases e : b' = p
        · obtain ⟨x, y, z, _⟩ := D.1
          exact ⟨_, e ▸ z⟩
        · exact ⟨u, D.2 b' u z e⟩
end
end My

end
section
set_option maxRecDepth 100000
set_option maxHeartbeats 2000000
open PySem PySem.Spec PyProof.Rows L2 LamX
namespace My
/-! ### lambdas by data -/
section
variable {X : Cx} {pins : List (Addr × Obj)} {σ : L2.St} {H : Hp} {s : Shared}
/-- a new lambda is tracked -/
theorem lam_newD {T : List (Addr × Str)} {c P : Addr} {d : LamD} {pos : Pos} {E : Value → Shared → Prop} {Q : Value → Shared → Prop} (I : Inv X pins σ H s) (TB : TabB X.base X.mg c P) (hcode : X.env.code = .ref c)
    (hm : (P, X.env.qual ++ "<lambda>") ∈ T) (hu : ∀ p ∈ T, p.1 = P → p.2 = X.env.qual ++ "<lambda>") (hT : Tabs T H) (hdef : defaultsOf d.params X.env = ([], [])) (L : LamS X.env.scope d.scope)
    (h : ∀ (f : Addr) (H1 : Hp) (s' : Shared), Inv X pins σ H1 s' → ExtN H H1 → Tabs T H1 → IsLam X d f H1 → H f = none → (∀ b o, H b = some o → ∃ o', H1 b = some o') → Q (.ref f) s') :
    wpAny (model X.prog X.w) X.A (eval (.Lambda d.params d.body d.scope pos) X.env) Q E s := by
  obtain ⟨ps, hP, ht, ha⟩ := hT _ hm
  have bP : s.heap.BuiltinsAt X.mg P := TB.bm.keeps I.bk
  have hP' : s.heap.get? P = some { cls := .none, data := .fields ps } := I.hok P _ hP
  have lay : ∀ {H1 : Hp} {h' : Heap} {tk : Nat} (c' : Addr) (ctv : Value), Inv X pins σ H1 { s with heap := h', toks := tk } → ExtN H H1 → Tabs T H1 → H1 c' = some (CodeO c' (X.env.qual ++ "<lambda>")) → (∀ b o, H b = some o → ∃ o', H1 b = some o') →
      Q (.ref h'.objs.size) { s with heap := h'.push (lamObj X d ((X.mg "__name__").getD .none) c' ctv), toks := tk } := by
    intro H1 h' tk c' ctv I1 eN T1 hc dm
    have nF : H1 h'.objs.size = none := I1.hok.fresh (Nat.le_refl _)
    have I2 := I1.laid (h' := h'.push (lamObj X d ((X.mg "__name__").getD .none) c' ctv)) (t' := tk) (o := LamO h'.objs.size (lamObj X d ((X.mg "__name__").getD .none) c' ctv)) (a := h'.objs.size) (fun b u e => Heap.get?_push_of_some _ e) (Nat.le_refl _) (lamO_ok (Heap.get?_push_size _ rfl))
    have sm : Same H1 (upd H1 h'.objs.size (LamO h'.objs.size (lamObj X d ((X.mg "__name__").getD .none) c' ctv))) := same_new nF _
    refine h _ _ _ I2 (eN.trans (.of fun _ _ q => sm _ _ q)) (T1.ext fun _ _ q => sm _ _ q) ⟨_, ctv, c', upd_same, sm _ _ hc⟩ ?_ fun b o q => ?_
    · cases e : H h'.objs.size with
      | none => rfl
      | some o => obtain ⟨o', z⟩ := dm _ _ e; rw [nF] at z; cases z
    · obtain ⟨o', z⟩ := dm b o q
      exact ⟨o', sm _ _ z⟩
  refine PySem.W.kla_eval hdef ?_
  cases hc : codeAmong pos ps.toList with
  | some cv =>
    obtain ⟨c', e, hco⟩ := ha pos cv hc
    subst e
    refine PySem.W.kla_makeFunctionHit (mg := X.mg) (c := c) (P := P) (ps := ps) (closure_ok (L.has I.ok)) I.ok.glob (I.mod.glob.keeps I.bk) hcode (TB.code.keeps I.bk) hP' ht hc bP fun ctv h' tk hx hsz => ?_
    exact lay c' ctv (I.kept (h' := h') (t' := tk) hx) (ExtN.refl H) hT hco fun b o q => ⟨o, q⟩
  | none =>
    refine PySem.W.kla_makeFunction (mg := X.mg) (c := c) (P := P) (ps := ps) (closure_ok (L.has I.ok)) I.ok.glob (I.mod.glob.keeps I.bk) hcode (TB.code.keeps I.bk) hP' ht hc TB.gP bP fun c' ctv h' tk hx hge hlt hrec htb => ?_
    obtain ⟨c2, oc, vs, t, e2, hoc, hd, hv⟩ := hrec
    cases e2
    have nC : H c' = none := I.hok.fresh hge
    have I1 := inv_table (t' := tk) (more := #[rawInt pos.line, rawInt pos.col, .ref c']) (h' := h') I hP hx htb hge ⟨oc, vs, t, hoc, hd, hv⟩
    generalize hH1 : upd (upd H P (.tbl (ps ++ #[rawInt pos.line, rawInt pos.col, .ref c']))) c' (CodeO c' (X.env.qual ++ "<lambda>")) = H1 at I1
    have new : H1 c' = some (CodeO c' (X.env.qual ++ "<lambda>")) := by rw [← hH1]; exact upd_same
    have eN : ExtN H H1 := fun b o e n => by
      have n1 : b ≠ c' := ne_of_none e nC
      have n2 : b ≠ P := fun z => n ps (Option.some.inj (e.symm.trans (z ▸ hP)))
      rw [← hH1, upd_ne n1, upd_ne n2]
      exact e
    have atP : H1 P = some (.tbl (ps ++ #[rawInt pos.line, rawInt pos.col, .ref c'])) := by rw [← hH1, upd_ne (ne_of_none hP nC), upd_same]
    refine lay c' ctv I1 eN (fun p hp => ?_) new fun b o q => ?_
    · obtain ⟨ps', a1, a2, a3⟩ := hT p hp
      by_cases hb : p.1 = P
      · rw [hb] at a1 ⊢
        rw [hP] at a1
        cases a1
        have eL : (ps ++ #[rawInt pos.line, rawInt pos.col, .ref c']).toList = ps.toList ++ [rawInt pos.line, rawInt pos.col, .ref c'] := by simp
        refine ⟨_, atP, by rw [eL]; exact PySem.TriplesOk_snoc _ _ _ _ ht, fun p' cv hcv => ?_⟩
        rw [eL] at hcv
        rcases among_app _ ht hcv with z | z
        · obtain ⟨c0, e1, e2⟩ := a3 p' cv z
          exact ⟨c0, e1, eN _ _ e2 codeO_ne⟩
        · exact ⟨c', z, by rw [hu p hp hb]; exact new⟩
      · refine ⟨ps', ?_, a2, fun p' cv hcv => ?_⟩
        · rw [← hH1, upd_ne (ne_of_none a1 nC), upd_ne hb]; exact a1
        · obtain ⟨c0, e1, e2⟩ := a3 p' cv hcv
          exact ⟨c0, e1, eN _ _ e2 codeO_ne⟩
    · by_cases n2 : b = P
      · exact ⟨_, n2 ▸ atP⟩
      · exact ⟨o, by rw [← hH1, upd_ne (ne_of_none q nC), upd_ne n2]; exact q⟩
end
/-- the lambdas of a def's text -/
def LPl (X : Cx) (st : Stmt) : Nat → Addr → Hp → Prop := fun i f F => IsLam X (lamD st i (fun _ _ _ _ => False)) f F
theorem lpl_s (X : Cx) (st : Stmt) : LPs (LPl X st) := fun i f F F' s h => h.same s
section
variable {X : Cx} {Z : Zx} {er : String → Addr} {st : Stmt}
/-- lambda: .. -/
theorem de_lam {c P : Addr} {i : Nat} {pos : Pos} (hZ : Z.LP = LPl X st) (TB : TabB X.base X.mg c P) (hcode : X.env.code = .ref c)
    (hm : (P, X.env.qual ++ "<lambda>") ∈ Z.T) (hu : ∀ p ∈ Z.T, p.1 = P → p.2 = X.env.qual ++ "<lambda>") (hdef : defaultsOf (lamP st i).1 X.env = ([], [])) (L : LamS X.env.scope (lamP st i).2.2) :
    PE X (.Lambda (lamP st i).1 (lamP st i).2.1 (lamP st i).2.2 pos) (lE Z (dC (.lam i))) := by
  refine ⟨fun pins s σ H Q I ⟨k, F, es, Qd, rp, h, q⟩ => ?_⟩
  refine lam_newD (d := lamD st i (fun _ _ _ _ => False)) I TB hcode hm hu rp.bas.tb hdef L fun f H1 s' I1 eN T1 hl nf dm => ⟨.ref f, H1, I1, rfl, ?_⟩
  obtain ⟨pm, ctv, c', h1, h2⟩ := hl
  obtain ⟨F', hF'⟩ : ∃ F' : Hp, F' = fun b => match F b with
    | some o => some o
    | none => if b = f ∨ b = c' then H1 b else none := ⟨_, rfl⟩
  have at1 : ∀ {b o}, F b = some o → F' b = some o := fun {b o} e => by rw [hF']; simp only [e]
  have at2 : ∀ {b}, F b = none → b = f ∨ b = c' → F' b = H1 b := fun {b} e n => by rw [hF']; simp only [e]; rw [if_pos n]
  have at3 : ∀ {b}, F b = none → ¬(b = f ∨ b = c') → F' b = none := fun {b} e n => by rw [hF']; simp only [e]; rw [if_neg n]
  have sF : Same F F' := fun b o e => at1 e
  have sH : Same F' H1 := fun b o e => by
    cases z : F b with
    | some u =>
      rw [at1 z] at e
      cases e
      exact eN b _ (rp.bas.sm _ _ z) (fun ps y => by subst y; exact rp.bas.nt b ps z)
    | none =>
      by_cases n : b = f ∨ b = c'
      · rw [at2 z n] at e; exact e
      · rw [at3 z n] at e; cases e
  have all : ∀ {b : Addr} {u : HO}, H1 b = some u → (b = f ∨ b = c') → F' b = some u := fun {b u} e n => by
    cases z : F b with
    | some u' =>
      have := sH b u' (at1 z)
      rw [e] at this
      cases this
      exact at1 z
    | none => rw [at2 z n]; exact e
  have f1 := all h1 (.inl rfl)
  have f2 := all h2 (.inr rfl)
  have noC : ∀ {b : Addr} {o : HO}, H b = some o → (mutO o = true) → ¬(b = f ∨ b = c') := fun {b o} e m => by
    rintro (rfl | rfl)
    · rw [nf] at e; cases e
    · have := eN b o e (mut_nt m)
      rw [h2] at this
      cases this
      cases m
  have rp2 : Rep Z k H1 F' σ es := by
    refine rp.step ⟨sH, fun b ps e => ?_, fun p e => ?_, T1⟩ ⟨sF, fun b o e m n nF => at3 nF (noC e m), fun b o e _ nt => eN b o e nt, dm⟩
    · cases z : F b with
      | some u => rw [at1 z] at e; cases e; exact rp.bas.nt b ps z
      | none =>
        by_cases n : b = f ∨ b = c'
        · rw [at2 z n] at e
          rcases n with rfl | rfl
          · rw [h1] at e; cases e
          · rw [h2] at e; cases e
        · rw [at3 z n] at e; cases e
    · obtain ⟨⟨x, y, e1, e2⟩, nF⟩ := rp.bas.st p e
      exact ⟨⟨x, y, eN _ _ e1 (fun _ z => by cases z), e2⟩, at3 nF (noC e1 rfl)⟩
  refine q _ _ _ _ _ sF rp2 (.lam ?_) h
  rw [hZ]
  exact ⟨pm, ctv, c', f1, f2⟩
/-- an expression that may raise, where the wish of exceptions is not the def's -/
def lEX (Z : Zx) (er : String → Addr) (tl : (Er → List Sl → Prop) → DE) : XK → TE := fun E σ H Q => ∃ c F es Qd EdL, Rep Z c H F σ es ∧ tl EdL es Qd ∧ (∀ v H' F' d es', Same F F' → Rep Z c H' F' σ es' → Z.R F' v d → Qd d es' → Q v H') ∧
  ∀ x H' F' es', Same F F' → Rep Z c H' F' σ es' → EdL x es' → ErV er E H' x
def dClX (sp : DSp) (t : DC) : (Er → List Sl → Prop) → DE := fun EdL es Q => t es fun as es1 => sp as (fun d => Q d es1) fun x => EdL x es1
theorem dl_cl {x : Str} {sp : DSp} {T : List (Addr × Str)} {p pos : Pos} {e : Expr} {es' : List Expr} {t : DC} {k j : Nat} {E : XK} {W : WX} (tk : Takes X W) (hW : ∀ cls d σ H, E cls d H → W cls d σ H) (hK : Z.K = X.K) (hT : Z.T = T) (c : Cl X.prog X.w X.K X.mg X.base (L2.CX X.prog X.w) k x (lSp X.K er T sp)) (hr : Room j X.A) (hgd : X.A.guards = some []) (hk : k ≤ j) (hg : Gl X x) (ha : PA X (e :: es') (lC Z t))
    (hdb : (x == ("__debug__" : Str)) = false := by decide) (he : starEach (e :: es') X.env = (false, eval e X.env) :: starEach es' X.env := by rfl) (hpl : (backTo pos (starEach es' X.env)).any (·.1) = false := by rfl) :
    PE X (.Call (.Name x p) (e :: es') [] pos) (lEX Z er (dClX sp t) E) := (pe_clx tk hW c hr hgd hk hg ha hdb he hpl).mono fun σ H Q ⟨c, F, es, Qd, EdL, rp, h, q, x⟩ =>
  ⟨c, F, es, _, rp, h, fun vs H1 F1 as es1 s1 rp1 r1 z => hT ▸ hK ▸ ⟨Z.LP, c, F1, as, _, _, Z.lp, rp1.bas, r1, z, fun v H' F' d b y r w => q _ _ _ _ _ (s1.trans y.sm) (rp1.step b y) r w, fun y H' F' b w z => x y H' F' es1 (s1.trans w.sm) (rp1.step b w) z⟩⟩
def lEXB (Z : Zx) (er : String → Addr) (tl : (Er → List Sl → Prop) → DE) : XK → TE := fun E σ H Q => ∃ B', lEX { Z with B := B' } er tl E σ H Q
/-- the word of an error -/
def erW (K : PySem.W.Frag) (er : String → Addr) (x : Er) (wd : Str) : Prop := ∃ i n, x = .pl n ∧ i < 9 ∧ Kits K er i n ∧ wordsE[i]? = some wd
def dWord (K : PySem.W.Frag) (er : String → Addr) (tl : (Er → List Sl → Prop) → DE) : DE := fun es Q => tl (fun x es1 => ∃ wd, erW K er x wd ∧ Q (.str wd) es1) es fun _ es1 => Q .non es1
abbrev TLs := List ((Er → List Sl → Prop) → DE)
/-- what is known of the lambdas -/
structure FamOk (X : Cx) (Z : Zx) (er : String → Addr) (st : Stmt) (J : Nat) (tls : TLs) : Prop where
  lp : Z.LP = LPl X st
  K : Z.K = X.K
  ok : ∀ i tl, tls[i]? = some tl → LamOk X J (lamD st i (lEXB Z er tl))
theorem l_word {tl : (Er → List Sl → Prop) → DE} {B' : Hp} {c : Option Addr} {H1 F1 : Hp} {σ : L2.St} {es1 : List Sl} {Qd : DK} {Q : VK} {f : Addr} {L : Addr → Hp → Prop} (rp : Rep { Z with B := B' } c H1 F1 σ es1) (h : dWord X.K er tl es1 Qd) (q : ∀ v H' F' d es', Same F1 F' → Rep { Z with B := B' } c H' F' σ es' → Z.R F' v d → Qd d es' → Q v H') :
    ttWord X.K er L (fun E H' Q' => lEXB Z er tl E σ H' Q') f H1 Q := fun E2 Q2 hE hN =>
  ⟨B', c, F1, es1, _, _, rp, h, fun v H' F' d es' s r _ z => hN v H' (q _ _ _ _ _ s r .non z), fun x H' F' es' s r ⟨wd, ⟨i, n, e, hi, k, hw⟩, z⟩ => by
    subst e
    exact hE i n wd H' hi k hw fun H'' s2 => q _ _ _ _ _ s (r.same s2) (.str _) z⟩
variable {k j m J : Nat} {x y : Str} {tls : TLs}
def deWord (K : PySem.W.Frag) (er : String → Addr) (tls : TLs) (te : DE) : DE := fun es Q => te es fun d es1 => ∃ i tl, d = .lam i ∧ tls[i]? = some tl ∧ dWord K er tl es1 Q
/-- _law_word(e) -/
theorem de_word {e : Expr} {te : DE} {p pos : Pos} (fam : FamOk X Z er st J tls) (c : ClG X.prog X.w X.K X.mg X.base k x (ttWord X.K er)) (hr : Room m X.A) (hgd : X.A.guards = some []) (hk : k + 1 ≤ m) (hj : J + 2 ≤ m) (hg : Gl X x) (he : PE X e (lE Z te))
    (hs : starEach [e] X.env = (false, eval e X.env) :: starEach [] X.env := by rfl) (hdb : (x == ("__debug__" : Str)) = false := by decide) (hpl : (backTo pos (starEach [] X.env)).any (·.1) = false := by rfl) :
    PE X (.Call (.Name x p) [e] [] pos) (lE Z (deWord X.K er tls te)) := by
  have hF : ∀ d ∈ ((List.range tls.length).filterMap fun i => (tls[i]?).map fun tl => lamD st i (lEXB Z er tl)), LamOk X J d := fun d hd => by
    obtain ⟨i, _, h⟩ := List.mem_filterMap.mp hd
    cases e : tls[i]? with
    | none => rw [e] at h; cases h
    | some tl => rw [e] at h; cases h; exact fam.ok i tl e
  refine (pe_giveV c hr hgd hk hj hF hg (pa_cons he pa_nil hs) hdb hs hpl).mono fun σ H Q ⟨cc, F, es, Qd, rp, h, q⟩ => ?_
  refine ⟨cc, F, es, _, rp, h, fun v H1 F1 d es1 s1 rp1 r1 ⟨i, tl, e, ht, z⟩ => ?_⟩
  subst e
  cases r1 with
  | @lam f _ hl =>
    rw [fam.lp] at hl
    refine ⟨lamD st i (lEXB Z er tl), List.mem_filterMap.mpr ⟨i, List.mem_range.mpr (List.getElem?_eq_some_iff.mp ht).1, by rw [ht]; rfl⟩, f, rfl, hl.same rp1.bas.sm, l_word (B' := Z.B) rp1 z fun v H' F' d es' s r k z => q _ _ _ _ _ (s1.trans s) r k z⟩
def dWordsW (K : PySem.W.Frag) (er : String → Addr) (tls : TLs) (l : List Dv) (es0 : List Sl) (Q : List Dv → List Sl → Prop) : Prop := ∃ W : List Dv → List Dv → List Sl → Prop, W l [] es0 ∧ (∀ d r acc es, W (d :: r) acc es → ∃ i tl, d = .lam i ∧ tls[i]? = some tl ∧ dWord K er tl es fun y es2 => acc.length < 1000000 ∧ W r (acc ++ [y]) es2) ∧ ∀ acc es, W [] acc es → Q acc es
def dWords (K : PySem.W.Frag) (er : String → Addr) (tls : TLs) (ti : DA) : DA := fun es Q => ti es fun l es1 => dWordsW K er tls l es1 Q
def dWordsR (K : PySem.W.Frag) (er : String → Addr) (tls : TLs) : List Dv → List Dv → List Sl → (List Dv → List Sl → Prop) → Prop
  | [], acc, es, Q => Q acc es
  | d :: r, acc, es, Q => ∃ i tl, d = .lam i ∧ tls[i]? = some tl ∧ dWord K er tl es fun y es2 => acc.length < 1000000 ∧ dWordsR K er tls r (acc ++ [y]) es2 Q
theorem dWordsW_R {K : PySem.W.Frag} {er : String → Addr} {tls : TLs} {l : List Dv} {es0 : List Sl} {Q : List Dv → List Sl → Prop} (h : dWordsR K er tls l [] es0 Q) : dWordsW K er tls l es0 Q :=
  ⟨fun l acc es => dWordsR K er tls l acc es Q, h, fun _ _ _ _ w => w, fun _ _ w => w⟩
/-- [_law_word(y) for y in e] -/
theorem dn_words {iy : Nat} {py p p2 p3 : Pos} {iter : Expr} {scope : Scope} {pos : Pos} {ti : DA} (fam : FamOk X Z er st J tls) (c : ClG X.prog X.w X.K X.mg X.base k x (ttWord X.K er)) (hr : Room m X.A) (hgd : X.A.guards = some []) (hk : k + 1 ≤ m) (hj : J + 2 ≤ m)
    (hc : X.calm = true) (hN : X.N.Nodup) (hi : PI X (.Name y py) iter (lI Z ti)) (ok : BlkOk X.N X.env.scope scope [(y, iy)]) (hf : scope.names.lookup y = some .local)
    (hg : ∀ (s : Shared) (H : Hp) (C : Addr) (cl : List (Str × Addr)) (fp : List Addr), Gl (X.blk s H scope (compEnvC scope cl C X.env) fp) x)
    (hdb : (x == ("__debug__" : Str)) = false := by decide) (hd : (y == ("__debug__" : Str)) = false := by decide) (hcd : (y == ("__classdict__" : Str)) = false := by decide) (hs : ∀ x, foldedSetIterable iter X.env x = pure x := by intro _; rfl) :
    PE X (.ListComp (.Call (.Name x p) [.Name y p2] [] p3) [⟨.Name y py, iter, [], 0⟩] scope pos) (lN Z (dWords X.K er tls ti)) := by
  have hF : ∀ d ∈ ((List.range tls.length).filterMap fun i => (tls[i]?).map fun tl => lamD st i (lEXB Z er tl)), LamOk X J d := fun d hd => by
    obtain ⟨i, _, h⟩ := List.mem_filterMap.mp hd
    cases e : tls[i]? with
    | none => rw [e] at h; cases h
    | some tl => rw [e] at h; cases h; exact fam.ok i tl e
  refine (pe_lcGive c hr hgd hk hj hF hc hN hi ok hf hg hdb hd hcd hs).mono fun σ H Q ⟨cc, F, es, Qd, rp, h, q⟩ => ?_
  refine ⟨cc, F, es, _, rp, h, fun J H1 F1 l es1 s1 rp1 it ⟨Wd, w0, step, fin⟩ D hD => ?_⟩
  obtain ⟨rp2, n2⟩ := rp1.new hD (vs := []) (l := []) .nil
  have hB := B_none rp1 hD
  have hF0 : Z.F0 D = none := by
    cases e : Z.F0 D with
    | none => rfl
    | some o => have := F_none rp1 hD; rw [rp1.ext.sm _ _ e] at this; cases this
  refine ⟨fun i m H => m = l.length - i ∧ i ≤ l.length ∧ ∃ F2 acc es, Rep Z cc H F2 σ es ∧ Same F1 F2 ∧ New Z cc H F2 σ es D acc ∧ Wd (l.drop i) acc es, ⟨l.length, by simp, Nat.zero_le _, F1, [], _, rp2, Same.refl _, n2, w0⟩, ?_⟩
  rintro i m H2 ⟨rfl, hi, F2, acc, es2, rp2, s2, n2, w2⟩
  by_cases hlt : i < l.length
  · have hd : l[i]? = some l[i] := List.getElem?_eq_getElem hlt
    obtain ⟨go, yl⟩ := it.yld rp2 s2 hd
    have e : l.drop i = l[i] :: l.drop (i + 1) := List.drop_eq_getElem_cons hlt
    rw [e] at w2
    refine .inr ⟨go, fun H' => ∃ F' acc es, Rep Z cc H' F' σ es ∧ Same F1 F' ∧ New Z cc H' F' σ es D acc ∧ Wd (l.drop (i + 1)) acc es, fun H' ⟨F3, acc3, es3, r3, s3, m3, w3⟩ => ⟨l.length - (i + 1), by omega, rfl, hlt, F3, acc3, es3, r3, s3, m3, w3⟩, fun x H3 hy => ?_⟩
    obtain ⟨ws, hDw, kw⟩ := n2.own.ex
    obtain ⟨F3, s3, rp3, r3, sH, nw⟩ := yl x H3 hy
    have n3 : New Z cc H3 F3 σ es2 D acc := ⟨⟨⟨ws, sH _ _ hDw, kw.ext Z.lp s3⟩, nw _ _ hDw n2.own.nf, n2.own.nb, n2.own.nc⟩, n2.df⟩
    obtain ⟨j, tl, ed, ht, z⟩ := step _ _ _ _ w2
    rw [ed] at r3
    cases r3 with
    | @lam f _ hl =>
      rw [fam.lp] at hl
      have rpH := rp3.hold n3 (sH _ _ hDw)
      refine ⟨lamD st j (lEXB Z er tl), List.mem_filterMap.mpr ⟨j, List.mem_range.mpr (List.getElem?_eq_some_iff.mp ht).1, by rw [ht]; rfl⟩, f, rfl, hl.same rp3.bas.sm, l_word (B' := (Z.hold D ws).B) rpH z fun v H' F' d es' s r k z => ?_⟩
      obtain ⟨r4, n4, hD4⟩ := r.unhold hB hF0 n2.own.nc (kw.ext Z.lp (s3.trans s))
      obtain ⟨r5, n5⟩ := r4.updNew n4 ((kw.ext Z.lp (s3.trans s)).snoc k)
      exact ⟨ws, hD4, szl (by rw [kw.len]; exact z.1), F', acc ++ [d], es', r5, (s2.trans s3).trans s, n5, z.2⟩
  · have e : i = l.length := by omega
    subst e
    rw [List.drop_length] at w2
    exact .inl ⟨it.stop _ _ s2 rp2.bas.sm, q _ _ _ _ _ (s1.trans s2) rp2 n2 (fin _ _ w2)⟩
end
end My

end
section
set_option maxRecDepth 100000
set_option maxHeartbeats 2000000
open PySem PySem.Spec PyProof.Rows L2 LamX
namespace My
/-! ### in, not in; is of bools -/
def Dv.v : Dv → V
  | .bl b => .bl b
  | .int i => .int i
  | .str x => .str x
  | _ => .non
/-- no list, no tuple -/
def Dv.sc : Dv → Bool
  | .non | .bl _ | .int _ | .str _ => true
  | _ => false
theorem Rp.sc {K : PySem.W.Frag} {LP : Nat → Addr → Hp → Prop} {F : Hp} {v : V} {d : Dv} (r : Rp K LP F v d) (h : d.sc = true) : v = d.v ∧ flatV v = true := by
  cases r <;> first | exact ⟨rfl, rfl⟩ | cases h
theorem RpA.sc {K : PySem.W.Frag} {LP : Nat → Addr → Hp → Prop} {F : Hp} : ∀ {vs : List V} {ds : List Dv}, RpA K LP F vs ds → ds.all Dv.sc = true → vs = ds.map Dv.v ∧ vs.all flatV = true
  | _, _, .nil, _ => ⟨rfl, rfl⟩
  | _, _, .cons h k, f => by
    rw [List.all_cons, Bool.and_eq_true] at f
    obtain ⟨e1, f1⟩ := h.sc f.1
    obtain ⟨e2, f2⟩ := k.sc f.2
    exact ⟨by rw [List.map_cons, ← e1, ← e2], by rw [List.all_cons, f1, f2]; rfl⟩
/-- x in l -/
def dIn (x : Dv) (l : List Dv) : Bool := inV x.v (l.map Dv.v)
def kIn (neg : Bool) : K2 := fun x y es Q => ∃ l, (y = .lst l ∨ y = .tup l) ∧ x.sc = true ∧ l.all Dv.sc = true ∧ Q (.bl (if neg then !dIn x l else dIn x l)) es
def kIsB : K2 := fun x y es Q => ∃ a b, x = .bl a ∧ y = .bl b ∧ Q (.bl (decide (a = b))) es
def kNotB : K2 := fun x y es Q => ∃ a b, x = .bl a ∧ y = .bl b ∧ Q (.bl (!decide (a = b))) es
section
variable {X : Cx} {Z : Zx}
theorem o_in {neg : Bool} : Op2 Z (rIn Z.K neg) (kIn neg) := by
  rintro c F H σ es x y v u Q Qd rp r1 r2 ⟨l, h, h1, h2, z⟩ q
  obtain ⟨e1, f1⟩ := r1.sc h1
  subst e1
  rcases h with rfl | rfl
  · obtain ⟨p, xs, rfl, g1, k1⟩ := r2.lst_inv
    obtain ⟨e2, f2⟩ := k1.sc h2
    subst e2
    exact ⟨p, _, rfl, .inl (SqL.of (rp.bas.sm _ _ g1)), f1, f2, q _ _ _ _ _ (Same.refl F) rp (.bl _) z⟩
  · obtain ⟨p, xs, rfl, g1, k1⟩ := r2.tup_inv
    obtain ⟨e2, f2⟩ := k1.sc h2
    subst e2
    exact ⟨p, _, rfl, .inr (seqT_same rp.bas.sm g1), f1, f2, q _ _ _ _ _ (Same.refl F) rp (.bl _) z⟩
theorem o_isB : Op2 Z rIsB kIsB := by
  rintro c F H σ es x y v u Q Qd rp r1 r2 ⟨a, b, rfl, rfl, z⟩ q
  exact ⟨a, b, r1.bl_inv, r2.bl_inv, q _ _ _ _ _ (Same.refl F) rp (.bl _) z⟩
theorem o_notB : Op2 Z rNotB kNotB := by
  rintro c F H σ es x y v u Q Qd rp r1 r2 ⟨a, b, rfl, rfl, z⟩ q
  exact ⟨a, b, r1.bl_inv, r2.bl_inv, q _ _ _ _ _ (Same.refl F) rp (.bl _) z⟩
theorem o_addS : Op2 Z (fun x y H Q => ∃ i j, x = .str i ∧ y = .str j ∧ i.length + j.length ≤ sizeLine ∧ Q (.str (i ++ j)) H) (fun x y es Q => ∃ i j, x = .str i ∧ y = .str j ∧ i.length + j.length ≤ sizeLine ∧ Q (.str (i ++ j)) es) := by
  rintro c F H σ es x y v u Q Qd rp r1 r2 ⟨i, j, rfl, rfl, h, z⟩ q
  exact ⟨i, j, r1.str_inv, r2.str_inv, h, q _ _ _ _ _ (Same.refl F) rp (.str _) z⟩
/-- t + u of tuples, the left one not empty -/
theorem o_catT : Op2 Z (rCatT Z.K) (fun x y es Q => ∃ l m, x = .tup l ∧ y = .tup m ∧ l ≠ [] ∧ l.length + m.length ≤ 1000000 ∧ Q (.tup (l ++ m)) es) := by
  rintro c F H σ es x y v u Q Qd rp r1 r2 ⟨l, m, rfl, rfl, hn, hl, z⟩ q
  obtain ⟨p, xs, rfl, g1, k1⟩ := r1.tup_inv
  obtain ⟨p2, ys, rfl, g2, k2⟩ := r2.tup_inv
  refine ⟨p, p2, xs, ys, rfl, rfl, seqT_same rp.bas.sm g1, seqT_same rp.bas.sm g2, ?_, by rw [k1.len, k2.len]; exact sz hl, ?_, ?_⟩
  · rintro rfl
    cases k1
    exact hn rfl
  · rintro rfl
    cases k2
    rw [List.append_nil] at z
    exact q _ _ _ _ _ (Same.refl F) rp r1 z
  · intro _ t ht
    have s2 := same_upd (o := HO.tup (xs ++ ys)) (F_none rp ht)
    exact q _ _ _ _ _ s2 (rp.frz (o := .tup (xs ++ ys)) ht (fun _ z => by cases z)) (.tup (SqT.of upd_same) ((k1.app k2).ext Z.lp s2)) z
theorem dv (i : Nat) {x : Str} {pos : Pos} (hN : X.N[i]? = some x := by rfl) (hv : Vis X.env.scope x := by first | exact Or.inl rfl | exact Or.inr (Or.inl rfl) | exact Or.inr (Or.inr rfl)) (hd : (x == ("__debug__" : Str)) = false := by decide)
    (hcd : (x == ("__classdict__" : Str)) = false := by decide) : PE X (.Name x pos) (lE Z (dVar i)) := de_var hN hv hd hcd
end
section
variable {X : Cx} {Z : Zx} {pos : Pos}
/-- {} -/
theorem de_dnew : PE X (.Dict [] [] pos) (lE Z (dC (.dct [] []))) := pe_dnewK.mono fun σ H Q ⟨c, F, es, Qd, rp, h, q⟩ p hp => by
  have s2 := same_upd (o := HO.dK []) (F_none rp hp)
  exact q _ _ _ _ _ s2 (rp.frz (o := .dK []) hp (fun _ z => by cases z)) (.dct (ks := []) (xs := []) upd_same rfl .nil) h
end
/-! ### a, b, c = [..], x, y -/
def dPar3N (i j l : Nat) (tn : DA) (tb tc : DE) : DS := fun D es => tn es fun L es1 => tb es1 fun x es2 => tc es2 fun y es3 => D.nx (((es3.set i (.own L)).set j (.val x)).set l (.val y))
section
variable {X : Cx} {Z : Zx}
theorem ds_par3 {ta : DA} {i j l : Nat} {x y z : Str} {a b c : Expr} {px py pz pt pos : Pos} {kt k2 pt2} (hc : X.calm = true) (hN : X.N.Nodup) (hi : X.N[i]? = some x) (hj : X.N[j]? = some y) (hl : X.N[l]? = some z) (hij : i ≠ j) (hil : i ≠ l) (hjl : j ≠ l)
    (hx : X.env.scope.names.lookup x = some .local) (hy : X.env.scope.names.lookup y = some .local) (hz : X.env.scope.names.lookup z = some .local) (ha : PA X [a, b, c] (lA Z ta))
    (hw : swappedStores [.Tuple [.Name x px, .Name y py, .Name z pz] kt pt] (.Tuple [a, b, c] k2 pt2) X.env = pure (some [x, y, z]))
    (hs : swapsWithSole [.Tuple [.Name x px, .Name y py, .Name z pz] kt pt] (.Tuple [a, b, c] k2 pt2) pos.line X.env = pure false := by rfl) :
    PS X (.Assign [.Tuple [.Name x px, .Name y py, .Name z pz] kt pt] (.Tuple [a, b, c] k2 pt2) pos) (lS Z (dPar3 i j l ta)) := (ps_par3 hc hN hi hj hl hij hil hjl hx hy hz ha hw hs).mono fun D σ H ⟨c, F, es, Dn, rp, h, nx, _⟩ =>
  ⟨c, F, es, _, rp, h, fun vs H1 F1 ds es1 s1 rp1 r1 ⟨v, w, u, e, z⟩ => by
    subst e
    obtain ⟨v1, v2, v3, rfl, q1, q2, q3⟩ := ra3 r1
    exact ⟨_, _, _, rfl, nx _ _ _ _ _ s1 (((rp1.setVal q1).setVal q2).setVal q3) z⟩⟩
theorem ds_par3N {tn : DA} {tb tc : DE} {i j l : Nat} {x y z : Str} {a b c : Expr} {px py pz pt pos : Pos} {kt k2 pt2} (hc : X.calm = true) (hN : X.N.Nodup) (hi : X.N[i]? = some x) (hj : X.N[j]? = some y) (hl : X.N[l]? = some z) (hij : i ≠ j) (hil : i ≠ l) (hjl : j ≠ l)
    (hx : X.env.scope.names.lookup x = some .local) (hy : X.env.scope.names.lookup y = some .local) (hz : X.env.scope.names.lookup z = some .local) (ha : PE X a (lN Z tn)) (hb : ∀ B', PE X b (lE { Z with B := B' } tb)) (hcc : ∀ B', PE X c (lE { Z with B := B' } tc))
    (hw : swappedStores [.Tuple [.Name x px, .Name y py, .Name z pz] kt pt] (.Tuple [a, b, c] k2 pt2) X.env = pure (some [x, y, z]))
    (h1 : starEach [a, b, c] X.env = (false, eval a X.env) :: starEach [b, c] X.env := by rfl) (h2 : starEach [b, c] X.env = (false, eval b X.env) :: starEach [c] X.env := by rfl) (h3 : starEach [c] X.env = (false, eval c X.env) :: starEach [] X.env := by rfl)
    (hs : swapsWithSole [.Tuple [.Name x px, .Name y py, .Name z pz] kt pt] (.Tuple [a, b, c] k2 pt2) pos.line X.env = pure false := by rfl) :
    PS X (.Assign [.Tuple [.Name x px, .Name y py, .Name z pz] kt pt] (.Tuple [a, b, c] k2 pt2) pos) (lS Z (dPar3N i j l tn tb tc)) := (ps_par3 hc hN hi hj hl hij hil hjl hx hy hz (pa_cons ha (pa_cons (PE_ex hb) (pa_cons (PE_ex hcc) pa_nil h3) h2) h1) hw hs).mono fun D σ H ⟨c, F, es, Dn, rp, h, nx, _⟩ => by
  refine ⟨c, F, es, _, rp, h, fun p H1 F1 L es1 s1 rp1 n1 z1 => ?_⟩
  obtain ⟨ws, hD, kw⟩ := n1.own.ex
  have hF0 : Z.F0 p = none := by
    cases e : Z.F0 p with
    | none => rfl
    | some o => have := n1.own.nf; rw [rp1.ext.sm _ _ e] at this; cases this
  refine ⟨_, c, F1, es1, _, rp1.hold n1 hD, z1, fun v H2 F2 d es2 s2 rp2 r2 z2 => ⟨_, c, F2, es2, _, rp2, z2, fun u H3 F3 d3 es3 s3 rp3 r3 z3 => ?_⟩⟩
  obtain ⟨rp4, n4, _⟩ := rp3.unhold n1.own.nb hF0 n1.own.nc (kw.ext Z.lp (s2.trans s3))
  exact ⟨_, _, _, rfl, nx _ _ _ _ _ ((s1.trans s2).trans s3) (((rp4.setOwn n4).setVal (r2.ext Z.lp s3)).setVal r3) z3⟩
end
/-! ### == of plain data, reckoned -/
theorem deq_ii (i j : Int) : deq (.int i) (.int j) = decide (i = j) := by
  show ((i == j) = decide (i = j))
  rw [Bool.beq_eq_decide_eq]
theorem deq_ss (i j : Str) : deq (.str i) (.str j) = decide (i = j) := by
  show ((i == j) = decide (i = j))
  rw [Bool.beq_eq_decide_eq]
theorem deq_bb (i j : Bool) : deq (.bl i) (.bl j) = decide (i = j) := by
  show ((i == j) = decide (i = j))
  rw [Bool.beq_eq_decide_eq]
theorem deq_nn : deq .non .non = true := rfl
theorem deq_ni (i : Int) : deq .non (.int i) = false := rfl
theorem deq_in (i : Int) : deq (.int i) .non = false := rfl
theorem deq_ns (i : Str) : deq .non (.str i) = false := rfl
theorem deq_sn (i : Str) : deq (.str i) .non = false := rfl
theorem deq_nb (i : Bool) : deq .non (.bl i) = false := rfl
theorem deq_bn (i : Bool) : deq (.bl i) .non = false := rfl
theorem deq_is (i : Int) (j : Str) : deq (.int i) (.str j) = false := rfl
theorem deq_si (i : Int) (j : Str) : deq (.str j) (.int i) = false := rfl
theorem deq_nt (l : List Dv) : deq .non (.tup l) = false := rfl
theorem deq_tn (l : List Dv) : deq (.tup l) .non = false := rfl
theorem deq_it (i : Int) (l : List Dv) : deq (.int i) (.tup l) = false := rfl
theorem deq_ti (i : Int) (l : List Dv) : deq (.tup l) (.int i) = false := rfl
def deqs : List Dv → List Dv → Bool
  | [], [] => true
  | x :: l, y :: m => deq x y && deqs l m
  | _, _ => false
theorem eqvAll_pys : ∀ l m : List Dv, PyData.eqvAll (Dv.pys l) (Dv.pys m) = deqs l m
  | [], [] => rfl
  | [], _ :: _ => rfl
  | _ :: _, [] => rfl
  | x :: l, y :: m => by
    show (PyData.eqv x.py y.py && PyData.eqvAll (Dv.pys l) (Dv.pys m)) = _
    rw [eqvAll_pys l m]; rfl
theorem deq_tt (l m : List Dv) : deq (.tup l) (.tup m) = deqs l m := by
  show PyData.eqv (.tuple (Dv.pys l)) (.tuple (Dv.pys m)) = _
  unfold PyData.eqv
  exact eqvAll_pys l m
theorem deq_ll (l m : List Dv) : deq (.lst l) (.lst m) = deqs l m := by
  show PyData.eqv (.list (Dv.pys l)) (.list (Dv.pys m)) = _
  unfold PyData.eqv
  exact eqvAll_pys l m
theorem deqs_nil : deqs [] [] = true := rfl
theorem deqs_nc (y : Dv) (m : List Dv) : deqs [] (y :: m) = false := rfl
theorem deqs_cn (y : Dv) (m : List Dv) : deqs (y :: m) [] = false := rfl
theorem deqs_cc (x y : Dv) (l m : List Dv) : deqs (x :: l) (y :: m) = (deq x y && deqs l m) := rfl
theorem ok_i (i : Int) : (Dv.int i).ok = true := rfl
theorem ok_s (i : Str) : (Dv.str i).ok = PyData.strOk i := by simp [Dv.ok, Dv.flat, Dv.py, SeqAt.shaped, PyData.canLay0, PyData.depth]
theorem ok_b (i : Bool) : (Dv.bl i).ok = true := rfl
theorem ok_n : Dv.non.ok = true := rfl
/-- no list, no tuple, no odd text -/
def Dv.sco : Dv → Bool
  | .non | .bl _ | .int _ => true
  | .str x => PyData.strOk x
  | _ => false
/-- flat lists of scalars are shaped -/
theorem pys_sc : ∀ {l : List Dv}, l.all Dv.sco = true → Dv.flats l = true ∧ PyData.canLayAll0 (Dv.pys l) = true ∧ PyData.depthAll (Dv.pys l) = 0
  | [], _ => ⟨rfl, rfl, rfl⟩
  | d :: l, h => by
    rw [List.all_cons, Bool.and_eq_true] at h
    obtain ⟨a, b, c⟩ := pys_sc h.2
    have hd := h.1
    cases d <;> first | (cases hd; done) | (refine ⟨?_, ?_, ?_⟩ <;> first | (simp [Dv.flats, Dv.flat, a, Dv.pys, Dv.py, PyData.canLayAll0, PyData.canLay0, b, PyData.depthAll, PyData.depth, c]; done) | (simp [Dv.flats, Dv.flat, a, Dv.pys, Dv.py, PyData.canLayAll0, PyData.canLay0, b, PyData.depthAll, PyData.depth, c]; exact hd))
theorem ok_sc {d : Dv} (h : d.sco = true) : d.ok = true := by cases d <;> first | rfl | (cases h; done) | (rw [ok_s]; exact h)
theorem ok_lsc {l : List Dv} (h : l.all Dv.sco = true) : (Dv.lst l).ok = true := by
  obtain ⟨a, b, c⟩ := pys_sc h
  simp only [Dv.ok, Dv.flat, a, Dv.py, SeqAt.shaped, PyData.canLay0, b, PyData.depth, c, Bool.true_and]
  decide
theorem ok_tsc {l : List Dv} (h : l.all Dv.sco = true) : (Dv.tup l).ok = true := by
  obtain ⟨a, b, c⟩ := pys_sc h
  simp only [Dv.ok, Dv.flat, a, Dv.py, SeqAt.shaped, PyData.canLay0, b, PyData.depth, c, Bool.true_and]
  decide
/-! ### places in written lists -/
theorem atI_0 {α : Type} (a : α) (l : List α) : atI (a :: l) 0 = some a := atI_nat (j := 0) rfl
theorem atI_1 {α : Type} (a b : α) (l : List α) : atI (a :: b :: l) 1 = some b := atI_nat (j := 1) rfl
theorem atI_2 {α : Type} (a b c : α) (l : List α) : atI (a :: b :: c :: l) 2 = some c := atI_nat (j := 2) rfl
theorem atI_3 {α : Type} (a b c d : α) (l : List α) : atI (a :: b :: c :: d :: l) 3 = some d := atI_nat (j := 3) rfl
theorem atI_4 {α : Type} (a b c d e : α) (l : List α) : atI (a :: b :: c :: d :: e :: l) 4 = some e := atI_nat (j := 4) rfl
/-- an item at a drawn place -/
theorem atI_mem {α : Type} {l : List α} {i k : Int} (h0 : 0 ≤ i) (h1' : i < k) {Q : α → Prop} (q : ∀ d ∈ l, Q d) (hk : k = (l.length : Nat) := by rfl) : ∃ d, atI l i = some d ∧ Q d := by
  have h1 : i < (l.length : Nat) := hk ▸ h1'
  obtain ⟨j, rfl⟩ := Int.eq_ofNat_of_zero_le h0
  have hj : j < l.length := by omega
  exact ⟨_, atI_nat (List.getElem?_eq_getElem hj), q _ (List.getElem_mem hj)⟩
theorem ixN_nat {n j : Nat} (h : j < n) : ixN n (j : Int) = some j := by
  unfold ixN
  rw [if_pos (by omega), if_pos (by omega)]; simp
/-! ### the law itself -/
section
variable {P : Program} {w : World} {K : PySem.W.Frag} {mg : Str → Option Value} {base : Heap} {er : String → Addr} {T : List (Addr × Str)}
theorem lawD {st : Stmt} {f : Addr} {fd : FuncData} {N : List Str} {k : Nat} {x0 : Str} (F : Fun K "law" "law" st f fd) (S : FnScope N [x0] (defScope st))
    (hb : ∀ (cdv : Value) (A : Around) (out : List Env) (s : Shared) (h : Hp) (e : XK), fd.code = cdv → Room k (A.deeper (envOfC "law" (defScope st) s.heap.objs.size f cdv)) → A.guards = some [] → ∀ (F : Hp) (ns : List Int), ns.length ≤ 63 →
      ∃ t, PSs (cxOf CX0 P w K mg base N "law" (defScope st) f cdv A out s h e).nox (defBody st) (lS ⟨K, LPl (cxOf CX0 P w K mg base N "law" (defScope st) f cdv A out s h e).nox st, T, none, h, F, lpl_s _ _⟩ t) ∧ t { nx := fun _ => False, rt := fun d => d = .bl true } (.val (.scr ns) :: List.replicate (N.length - 1) .any)) : FnG P w K mg base CX0 (k + 1) f fd [x0] (spLawT K T) := by
  refine fnG0c F S (fun vs H Q E ⟨a, ns, e, _⟩ => by subst e; rfl) (fun cdv A out s H vs Q E hc hr hg ⟨a, ns, e, hS, hl, hT, q⟩ => ?_)
  subst e
  obtain ⟨F0, hF0⟩ : ∃ F0 : Hp, F0 = fun b => match H b with
    | some (.tbl _) => none
    | o => o := ⟨_, rfl⟩
  have at1 : ∀ {b o}, F0 b = some o → H b = some o ∧ ∀ ps, o ≠ .tbl ps := fun {b o} e => by
    rw [hF0] at e
    cases z : H b with
    | none => simp only [z] at e; cases e
    | some u => cases u <;> simp only [z] at e <;> first | (cases e; done) | (cases e; exact ⟨rfl, fun _ z => by cases z⟩)
  have at2 : ∀ {b o}, H b = some o → (∀ ps, o ≠ .tbl ps) → F0 b = some o := fun {b o} e n => by
    rw [hF0]
    simp only [e]
    cases o <;> first | rfl | exact absurd rfl (n _)
  obtain ⟨t, p, z⟩ := hb cdv A out s H E hc hr hg F0 ns hl
  refine ⟨_, p, none, F0, _, _, ?_, z, fun c σ H' F' es' s r z => z.elim, fun _ _ _ _ _ _ _ z => z.elim, fun _ _ _ _ _ _ _ z => z.elim, fun c v σ H' F' es' d s r k z => ?_⟩
  · refine ⟨⟨fun b o e => (at1 e).1, fun b ps e => (at1 e).2 ps rfl, (fun p e => by cases e), hT⟩, Ext.refl _ _ _, .inl rfl, by simp [L2.start], fun i e o h1 h2 => ?_, fun i j p l l' n h1 h2 => ?_⟩
    · cases i with
      | zero =>
        simp only [List.getElem?_cons_zero, Option.some.injEq] at h1
        subst h1
        have e2 : o = some (V.ref a) := by
          simp [L2.start] at h2
          exact h2.symm
        subst e2
        refine ⟨_, rfl, .scr ?_⟩
        rcases hS with (h | ⟨o, h⟩) | h
        · exact .inl (.inl (at2 h fun _ z => by cases z))
        · exact .inl (.inr ⟨o, at2 h fun _ z => by cases z⟩)
        · exact .inr h
      | succ i =>
        simp only [List.getElem?_cons_succ] at h1
        have := List.eq_of_mem_replicate (List.mem_of_getElem? h1)
        subst this
        trivial
    · exfalso
      cases i with
      | zero => cases h1
      | succ i =>
        simp only [List.getElem?_cons_succ] at h1
        have := List.eq_of_mem_replicate (List.mem_of_getElem? h1)
        cases this
  · have e : d = .bl true := z
    subst e
    cases k.bl_inv
    exact q _
end
end My

end
section
set_option maxRecDepth 100000
namespace NT
theorem pr_31013 : Pr 31013 := pr_by (k := 177) (by decide) (by decide +kernel) (by decide)
theorem pr_967 : Pr 967 := pr_by (k := 32) (by decide) (by decide +kernel) (by decide)
theorem pr_11 : Pr 11 := pr_by (k := 4) (by decide) (by decide +kernel) (by decide)
theorem pr_1009 : Pr 1009 := pr_by (k := 32) (by decide) (by decide +kernel) (by decide)
theorem pr_5 : Pr 5 := pr_by (k := 2) (by decide) (by decide +kernel) (by decide)
theorem pr_3 : Pr 3 := pr_by (k := 1) (by decide) (by decide +kernel) (by decide)
theorem pr_2 : Pr 2 := pr_by (k := 0) (by decide) (by decide +kernel) (by decide)
theorem pr_13 : Pr 13 := pr_by (k := 4) (by decide) (by decide +kernel) (by decide)
theorem pr_101 : Pr 101 := pr_by (k := 11) (by decide) (by decide +kernel) (by decide)
theorem pr_307 : Pr 307 := pr_by (k := 17) (by decide) (by decide +kernel) (by decide)
theorem pr_31 : Pr 31 := pr_by (k := 5) (by decide) (by decide +kernel) (by decide)
theorem pr_30011 : Pr 30011 := pr_by (k := 175) (by decide) (by decide +kernel) (by decide)
theorem pr_53 : Pr 53 := pr_by (k := 7) (by decide) (by decide +kernel) (by decide)
theorem pr_5003 : Pr 5003 := pr_by (k := 70) (by decide) (by decide +kernel) (by decide)
theorem parts_360 : Parts 360 [(2, 3), (3, 2), (5, 1)] := ⟨fun q hq => by
  simp only [List.mem_cons, List.not_mem_nil, or_false] at hq
  rcases hq with rfl | rfl | rfl
  · exact ⟨pr_2, by decide⟩
  · exact ⟨pr_3, by decide⟩
  · exact ⟨pr_5, by decide⟩, by decide, by decide⟩
end NT

end
section
set_option maxRecDepth 100000
set_option maxHeartbeats 2000000
open PySem L2 NT
namespace My
def Dv.isI : Dv → Bool
  | .int _ => true
  | _ => false
def inRd (d : Dv) (lo hi : Int) : Bool := match d with
  | .int i => decide (lo ≤ i) && decide (i ≤ hi)
  | _ => false
theorem inRd_int {d : Dv} {lo hi : Int} (h : inRd d lo hi = true) : ∃ i, d = .int i ∧ lo ≤ i ∧ i ≤ hi := by
  cases d with
  | int i =>
    have h' : (decide (lo ≤ i) && decide (i ≤ hi)) = true := h
    rw [Bool.and_eq_true] at h'
    exact ⟨i, rfl, of_decide_eq_true h'.1, of_decide_eq_true h'.2⟩
  | _ => cases h
theorem inRd_ok {i lo hi : Int} (h1 : lo ≤ i) (h2 : i ≤ hi) : inRd (.int i) lo hi = true := by
  show (decide (lo ≤ i) && decide (i ≤ hi)) = true
  rw [decide_eq_true h1, decide_eq_true h2]; rfl
theorem nRd {i lo hi : Int} {p : Prop} (h1 : lo ≤ i) (h2 : i ≤ hi) : inRd (.int i) lo hi = false → p := fun z => by
  rw [inRd_ok h1 h2] at z; cases z
/-! ### the promises: rests, parts -/
def dsIsWhole : DSp := fun as Q _ => ∃ d, as = [.d d] ∧ d.plain = true ∧ Q (.bl d.isI)
def dsIsBetween : DSp := fun as Q _ => ∃ d lo hi, as = [.d d, .d (.int lo), .d (.int hi)] ∧ d.plain = true ∧ Q (.bl (inRd d lo hi))
def dsNeed : DSp := fun as Q E => ∃ d lo hi, as = [.d d, .d (.int lo), .d (.int hi)] ∧ d.plain = true ∧ (inRd d lo hi = true → Q .non) ∧ (inRd d lo hi = false → E (.pl "NoNumber"))
def dsNeed1 (lo hi : Int) : DSp := fun as Q E => ∃ d, as = [.d d] ∧ d.plain = true ∧ (inRd d lo hi = true → Q .non) ∧ (inRd d lo hi = false → E (.pl "NoNumber"))
def dsPow : DSp := fun as Q _ => ∃ b o n : Int, as = [.d (.int b), .d (.int o), .d (.int n)] ∧ 0 ≤ o ∧ 0 < n ∧ n < 2 ^ 200 ∧ Q (.int (b ^ o.toNat % n))
def dsRaised : DSp := fun as Q E => ∃ b o n, as = [.d b, .d o, .d n] ∧ b.plain = true ∧ o.plain = true ∧ n.plain = true ∧
  (∀ b' o' n' : Int, b = .int b' → o = .int o' → n = .int n' → -BIG ≤ b' → b' ≤ BIG → 0 ≤ o' → o' ≤ BIG → 1 ≤ n' → n' ≤ BIG → Q (.int (b' ^ o'.toNat % n'))) ∧
  ((inRd b (-BIG) BIG && inRd o 0 BIG && inRd n 1 BIG) = false → E (.pl "NoNumber"))
def dsCommon : DSp := fun as Q _ => ∃ a b : Int, as = [.d (.int a), .d (.int b)] ∧ Q (.int (Int.gcd a b : Nat))
def dsShared : DSp := fun as Q E => ∃ va vb, as = [.d va, .d vb] ∧ va.plain = true ∧ vb.plain = true ∧
  (∀ a b : Int, va = .int a → vb = .int b → -BIG ≤ a → a ≤ BIG → -BIG ≤ b → b ≤ BIG → Q (.int (Int.gcd a b : Nat))) ∧
  ((inRd va (-BIG) BIG && inRd vb (-BIG) BIG) = false → E (.pl "NoNumber"))
/-- what undoes a by n, or None -/
def UndD (a n : Int) (Q : Dv → Prop) : Prop := (Int.gcd a n ≠ 1 → Q .non) ∧ (Int.gcd a n = 1 → ∀ x : Int, 0 ≤ x → x < n → (x * a) % n = 1 % n → Q (.int x))
def dsUndoneBy : DSp := fun as Q _ => ∃ a n : Int, as = [.d (.int a), .d (.int n)] ∧ 1 ≤ n ∧ n < 2 ^ 200 ∧ UndD a n Q
def dsUndone : DSp := fun as Q E => ∃ va vn, as = [.d va, .d vn] ∧ va.plain = true ∧ vn.plain = true ∧
  (∀ a n : Int, va = .int a → vn = .int n → -BIG ≤ a → a ≤ BIG → 1 ≤ n → n ≤ BIG → UndD a n Q) ∧
  ((inRd va (-BIG) BIG && inRd vn 1 BIG) = false → E (.pl "NoNumber"))
/-! ### parts -/
def pairV (q : Nat × Nat) : Dv := .tup [.int q.1, .int q.2]
def partsV (l : List (Nat × Nat)) : Dv := .tup (l.map pairV)
def dsParts : DSp := fun as Q _ => ∃ n : Nat, as = [.d (.int n)] ∧ 1 ≤ n ∧ n ≤ 10 ^ 31 ∧ ∀ l, Parts n l → Q (partsV l)
def dsToldPrime : DSp := fun as Q _ => ∃ n : Nat, as = [.d (.int n)] ∧ n ≤ 10 ^ 31 ∧ ∀ b, (b = true ↔ Pr n) → Q (.bl b)
def dsIsPrime : DSp := fun as Q E => ∃ d, as = [.d d] ∧ d.plain = true ∧ (∀ n : Nat, d = .int n → n ≤ 10 ^ 9 → ∀ b, (b = true ↔ Pr n) → Q (.bl b)) ∧ (inRd d 0 (10 ^ 9) = false → E (.pl "NoNumber"))
def dsPartsOf : DSp := fun as Q E => ∃ d, as = [.d d] ∧ d.plain = true ∧ (∀ n : Nat, d = .int n → 1 ≤ n → n ≤ 10 ^ 9 → ∀ l, Parts n l → Q (partsV l)) ∧ (inRd d 1 (10 ^ 9) = false → E (.pl "NoNumber"))
/-! ### the laws' own -/
def dsDraw1 (lo hi : Int) : DSp := fun as Q _ => as = [.st] ∧ ∀ r : Int, lo ≤ r → r ≤ hi → Q (.int r)
def dsFar : DSp := fun as Q _ => ∃ m, as = [.st, .d (.int m)] ∧ 0 < m ∧ m < 2 ^ 200 ∧ ∀ r : Int, 0 ≤ r → r < m → Q (.int r)
/-- _law_none: no number between -/
def dsNone : DSp := fun as Q _ => ∃ lo hi : Int, as = [.st, .d (.int lo), .d (.int hi)] ∧ -(10 ^ 50) < lo ∧ lo ≤ hi ∧ hi < 10 ^ 50 ∧ ∀ d, d.plain = true → inRd d lo hi = false → Q d
/-- _law_same of two things that are alike -/
def dsSame : DSp := fun as Q _ => ∃ d, as = [.d d, .d d] ∧ d.sc = true ∧ Q (.bl true)
section
variable {Q : Dv → Prop} {E : Er → Prop}
theorem dRaisedOk {b o n : Int} (b1 : -BIG ≤ b) (b2 : b ≤ BIG) (o1 : 0 ≤ o) (o2 : o ≤ BIG) (n1 : 1 ≤ n) (n2 : n ≤ BIG) (q : Q (.int (b ^ o.toNat % n))) : dsRaised [.d (.int b), .d (.int o), .d (.int n)] Q E :=
  ⟨_, _, _, rfl, rfl, rfl, rfl, fun b' o' n' e1 e2 e3 _ _ _ _ _ _ => by cases e1; cases e2; cases e3; exact q, fun z => by
    rw [inRd_ok b1 b2, inRd_ok o1 o2, inRd_ok n1 n2] at z; cases z⟩
theorem dSharedOk {a b : Int} (a1 : -BIG ≤ a) (a2 : a ≤ BIG) (b1 : -BIG ≤ b) (b2 : b ≤ BIG) (q : Q (.int (Int.gcd a b : Nat))) : dsShared [.d (.int a), .d (.int b)] Q E :=
  ⟨_, _, rfl, rfl, rfl, fun a' b' e1 e2 _ _ _ _ => by cases e1; cases e2; exact q, fun z => by
    rw [inRd_ok a1 a2, inRd_ok b1 b2] at z; cases z⟩
theorem dUndoneOk {a n : Int} (a1 : -BIG ≤ a) (a2 : a ≤ BIG) (n1 : 1 ≤ n) (n2 : n ≤ BIG) (q : UndD a n Q) : dsUndone [.d (.int a), .d (.int n)] Q E :=
  ⟨_, _, rfl, rfl, rfl, fun a' b' e1 e2 _ _ _ _ => by cases e1; cases e2; exact q, fun z => by
    rw [inRd_ok a1 a2, inRd_ok n1 n2] at z; cases z⟩
theorem dIsPrimeOk {n : Nat} (h : n ≤ 10 ^ 9) (q : ∀ b, (b = true ↔ Pr n) → Q (.bl b)) : dsIsPrime [.d (.int n)] Q E :=
  ⟨_, rfl, rfl, fun m e _ => by
    have : n = m := by have := Dv.int.inj e; omega
    subst this; exact q, nRd (by omega) (by omega)⟩
theorem dPartsOfOk {n : Nat} (h1 : 1 ≤ n) (h : n ≤ 10 ^ 9) (q : ∀ l, Parts n l → Q (partsV l)) : dsPartsOf [.d (.int n)] Q E :=
  ⟨_, rfl, rfl, fun m e _ _ => by
    have : n = m := by have := Dv.int.inj e; omega
    subst this; exact q, nRd (by omega) (by omega)⟩
end
/-- while, by an invariant and a measure -/
theorem dWhile_by {c : DT} {tb : DS} {D : DEnds} {es : List Sl} (W : Nat → List Sl → Prop) {m0 : Nat} (h0 : W m0 es) (hs : ∀ m es, W m es → c es fun b es1 => if b = true then tb { D with nx := fun es' => ∃ m', m' < m ∧ W m' es', ct := fun es' => ∃ m', m' < m ∧ W m' es', bk := D.nx } es1 else D.nx es1) : dWhile c tb D es := ⟨W, ⟨m0, h0⟩, hs⟩
/-- the laws' outermost range -/
theorem lawRange {c n : Nat} {Q : List Dv → Prop} (q : ∀ k : Nat, Q (rng 0 k)) (i : Int) : Q (rng 0 i.toNat) := q _
/-! ### good data: what _law_same goes through -/
mutual
def Dv.gd : Dv → Bool
  | .non | .bl _ | .int _ => true
  | .str x => PyData.strOk x
  | .lst l | .tup l => decide (l.length ≤ 99999) && Dv.gds l
  | _ => false
def Dv.gds : List Dv → Bool
  | [] => true
  | d :: l => d.gd && Dv.gds l
end
mutual
def Dv.dep : Dv → Nat
  | .lst l | .tup l => Dv.deps l + 1
  | _ => 0
def Dv.deps : List Dv → Nat
  | [] => 0
  | d :: l => max d.dep (Dv.deps l)
end
theorem gd_lst {l : List Dv} : (Dv.lst l).gd = true ↔ l.length ≤ 99999 ∧ Dv.gds l = true := by show (decide (l.length ≤ 99999) && Dv.gds l) = true ↔ _; rw [Bool.and_eq_true, decide_eq_true_iff]
theorem gd_tup {l : List Dv} : (Dv.tup l).gd = true ↔ l.length ≤ 99999 ∧ Dv.gds l = true := by show (decide (l.length ≤ 99999) && Dv.gds l) = true ↔ _; rw [Bool.and_eq_true, decide_eq_true_iff]
theorem gds_mem : ∀ {l : List Dv} {d : Dv}, Dv.gds l = true → d ∈ l → d.gd = true ∧ d.dep ≤ Dv.deps l
  | [], _, _, h => by cases h
  | x :: l, d, h, hd => by
    have h' := Bool.and_eq_true_iff.mp h
    rcases List.mem_cons.mp hd with rfl | hd
    · exact ⟨h'.1, Nat.le_max_left _ _⟩
    · obtain ⟨a, b⟩ := gds_mem h'.2 hd
      exact ⟨a, Nat.le_trans b (Nat.le_max_right _ _)⟩
mutual
theorem gd_flat : ∀ {d : Dv}, d.gd = true → d.flat = true ∧ d.py.canLay0 = true ∧ d.py.depth = d.dep
  | .non, _ => ⟨rfl, rfl, rfl⟩
  | .bl _, _ => ⟨rfl, rfl, rfl⟩
  | .int _, _ => ⟨rfl, rfl, rfl⟩
  | .str x, h => ⟨rfl, by have h2 : PyData.strOk x = true := h; simpa [Dv.py, PyData.canLay0] using h2, rfl⟩
  | .lst l, h => by
    obtain ⟨a, b, c⟩ := gds_flat (l := l) (gd_lst.mp h).2
    exact ⟨a, by simpa [Dv.py, PyData.canLay0] using b, by simp only [Dv.py, PyData.depth, Dv.dep, c]; try omega⟩
  | .tup l, h => by
    obtain ⟨a, b, c⟩ := gds_flat (l := l) (gd_tup.mp h).2
    exact ⟨a, by simpa [Dv.py, PyData.canLay0] using b, by simp only [Dv.py, PyData.depth, Dv.dep, c]; try omega⟩
  | .dct _ _, h => by cases h
  | .scr _, h => by cases h
  | .lam _, h => by cases h
theorem gds_flat : ∀ {l : List Dv}, Dv.gds l = true → Dv.flats l = true ∧ PyData.canLayAll0 (Dv.pys l) = true ∧ PyData.depthAll (Dv.pys l) = Dv.deps l
  | [], _ => ⟨rfl, rfl, rfl⟩
  | d :: l, h => by
    have h' := Bool.and_eq_true_iff.mp h
    obtain ⟨a, b, c⟩ := gd_flat (d := d) h'.1
    obtain ⟨a2, b2, c2⟩ := gds_flat (l := l) h'.2
    refine ⟨?_, ?_, ?_⟩
    · simp only [Dv.flats, a, a2, Bool.and_self]
    · simp only [Dv.pys, PyData.canLayAll0, b, b2, Bool.and_self]
    · simp only [Dv.pys, PyData.depthAll, c, c2, Dv.deps]
end
theorem gd_ok {d : Dv} (h : d.gd = true) (h2 : d.dep ≤ 64) : d.ok = true := by
  obtain ⟨a, b, c⟩ := gd_flat h
  simp only [Dv.ok, a, SeqAt.shaped, b, c, Bool.true_and]
  exact decide_eq_true h2
mutual
theorem deq_self : ∀ {d : Dv}, d.gd = true → deq d d = true
  | .non, _ => rfl
  | .bl b, _ => by rw [deq_bb]; exact decide_eq_true rfl
  | .int b, _ => by rw [deq_ii]; exact decide_eq_true rfl
  | .str b, _ => by rw [deq_ss]; exact decide_eq_true rfl
  | .lst l, h => by rw [deq_ll]; exact deqs_self (l := l) (gd_lst.mp h).2
  | .tup l, h => by rw [deq_tt]; exact deqs_self (l := l) (gd_tup.mp h).2
  | .dct _ _, h => by cases h
  | .scr _, h => by cases h
  | .lam _, h => by cases h
theorem deqs_self : ∀ {l : List Dv}, Dv.gds l = true → deqs l l = true
  | [], _ => rfl
  | d :: l, h => by
    have h' := Bool.and_eq_true_iff.mp h
    rw [deqs_cc, deq_self (d := d) h'.1, deqs_self (l := l) h'.2]; rfl
end
/-- _law_same of two things that are alike, of depth below n -/
def dsSameN (n : Nat) : DSp := fun as Q _ => ∃ d, as = [.d d, .d d] ∧ d.gd = true ∧ d.dep < n ∧ Q (.bl true)
theorem zipD_self {l : List Dv} {i : Nat} {d : Dv} (h : (zipD l l)[i]? = some d) : ∃ x, l[i]? = some x ∧ d = .tup [x, x] := by
  obtain ⟨x, y, h1, h2, rfl⟩ := zipD_get h
  rw [h1] at h2
  cases h2
  exact ⟨x, h1, rfl⟩
theorem zipD_len (l m : List Dv) : (zipD l m).length = min l.length m.length := by simp [zipD]
theorem rep_snoc {α : Type} (n : Nat) (a : α) : List.replicate n a ++ [a] = List.replicate (n + 1) a := by rw [List.replicate_succ']
theorem rep_bl (n : Nat) (b : Bool) : List.replicate n (Dv.bl b) = (List.replicate n b).map Dv.bl := by rw [List.map_replicate]

theorem all_repId (n : Nat) : (List.replicate n true).all _root_.id = true := by simp
/-! ### parts by data -/
theorem gd_pair (q : Nat × Nat) : (pairV q).gd = true := rfl
theorem gds_pairs : ∀ l : List (Nat × Nat), Dv.gds (l.map pairV) = true
  | [] => rfl
  | q :: l => by simp only [List.map_cons, Dv.gds, gd_pair, gds_pairs l, Bool.and_self]
theorem deps_pairs : ∀ l : List (Nat × Nat), Dv.deps (l.map pairV) ≤ 1
  | [] => by simp [Dv.deps]
  | q :: l => by
    have := deps_pairs l
    simp only [List.map_cons, Dv.deps, pairV, Dv.dep]
    omega
theorem gd_parts {l : List (Nat × Nat)} (h : l.length ≤ 99999) : (partsV l).gd = true := gd_tup.mpr ⟨by rw [List.length_map]; exact h, gds_pairs l⟩
theorem dep_parts (l : List (Nat × Nat)) : (partsV l).dep ≤ 2 := by
  have := deps_pairs l
  simp only [partsV, Dv.dep]; omega
theorem ok_parts {l : List (Nat × Nat)} (h : l.length ≤ 99999) : (partsV l).ok = true := gd_ok (gd_parts h) (Nat.le_trans (dep_parts l) (by decide))
theorem deq_pair (q r : Nat × Nat) : deq (pairV q) (pairV r) = decide (q = r) := by
  simp only [pairV, deq_tt, deqs_cc, deqs_nil, deq_ii, Bool.and_true]
  rw [← Bool.decide_and]
  congr 1
  exact propext ⟨fun h => Prod.ext (by omega) (by omega), fun h => by subst h; exact ⟨rfl, rfl⟩⟩
theorem deqs_pairs : ∀ l r : List (Nat × Nat), deqs (l.map pairV) (r.map pairV) = decide (l = r)
  | [], [] => rfl
  | [], _ :: _ => rfl
  | _ :: _, [] => rfl
  | q :: l, s :: r => by
    simp only [List.map_cons, deqs_cc, deq_pair, deqs_pairs l r]
    rw [← Bool.decide_and]
    congr 1
    exact propext ⟨fun h => by rw [h.1, h.2], fun h => by injection h with a b; exact ⟨a, b⟩⟩
theorem deq_parts (l r : List (Nat × Nat)) : deq (partsV l) (partsV r) = decide (l = r) := by rw [partsV, partsV, deq_tt, deqs_pairs]
theorem get_pairs {l : List (Nat × Nat)} {i : Nat} {d : Dv} (h : (l.map pairV)[i]? = some d) : ∃ q, l[i]? = some q ∧ d = pairV q := by
  rw [List.getElem?_map] at h
  cases e : l[i]? with
  | none => rw [e] at h; cases h
  | some q => rw [e] at h; exact ⟨q, rfl, (Option.some.inj h).symm⟩
theorem lawBnd {n : Nat} {c : Int} (h : n ≤ 63) (h0 : 0 ≤ c := by decide) (hc : c ≤ 100 := by decide) : -4611686018427387904 ≤ (if (if c < (n : Int) then c else (n : Int)) > 1 then (if c < (n : Int) then c else (n : Int)) else 1) ∧ (if (if c < (n : Int) then c else (n : Int)) > 1 then (if c < (n : Int) then c else (n : Int)) else 1) < 4611686018427387904 := by
  split <;> split <;> omega
theorem gd_i (i : Int) : (Dv.int i).gd = true := rfl
theorem gd_b (i : Bool) : (Dv.bl i).gd = true := rfl
theorem gd_n : Dv.non.gd = true := rfl
theorem dep_i (i : Int) : (Dv.int i).dep = 0 := rfl
theorem dep_b (i : Bool) : (Dv.bl i).dep = 0 := rfl
theorem dep_n : Dv.non.dep = 0 := rfl
theorem dep_s (x : Str) : (Dv.str x).dep = 0 := rfl
theorem pl_i (i : Int) : (Dv.int i).plain = true := rfl
theorem pl_b (i : Bool) : (Dv.bl i).plain = true := rfl
theorem pl_s (i : Str) : (Dv.str i).plain = true := rfl
theorem pl_n : Dv.non.plain = true := rfl
theorem pl_l (l : List Dv) : (Dv.lst l).plain = true := rfl
theorem pl_t (l : List Dv) : (Dv.tup l).plain = true := rfl
theorem ns_a : noStt .any = .any := rfl
theorem ns_s : noStt .stt = .any := rfl
theorem ns_v (d : Dv) : noStt (.val d) = .val d := rfl
theorem ns_o (l : List Dv) : noStt (.own l) = .own l := rfl
/-- n words the same -/
theorem ok_words {l : List Dv} (h : l.all Dv.sco = true) : (Dv.lst l).ok = true := ok_lsc h
theorem dWordsW_same {K : PySem.W.Frag} {er : String → Addr} {tls : TLs} {l : List Dv} {es0 : List Sl} {Q : List Dv → List Sl → Prop} (wd : Str) (hl : l.length ≤ 1000) (hs : ∀ d ∈ l, ∃ i tl, d = .lam i ∧ tls[i]? = some tl ∧ ∀ R : DK, R (.str wd) es0 → dWord K er tl es0 R)
    (q : Q (List.replicate l.length (.str wd)) es0) : dWordsW K er tls l es0 Q := by
  refine ⟨fun r acc es => es = es0 ∧ (∀ d ∈ r, d ∈ l) ∧ acc = List.replicate acc.length (.str wd) ∧ acc.length + r.length = l.length, ⟨rfl, fun _ h => h, rfl, by simp⟩, ?_, ?_⟩
  · rintro d r acc es ⟨rfl, hr, ha, hlen⟩
    obtain ⟨i, tl, e, ht, z⟩ := hs d (hr d List.mem_cons_self)
    refine ⟨i, tl, e, ht, z _ ⟨?_, rfl, fun d hd => hr d (List.mem_cons_of_mem _ hd), ?_, ?_⟩⟩
    · simp only [List.length_cons] at hlen; omega
    · rw [ha, List.length_append, List.length_replicate, List.length_singleton, List.replicate_succ']
    · simp only [List.length_append, List.length_cons, List.length_nil] at hlen ⊢; omega
  · rintro acc es ⟨rfl, _, ha, hlen⟩
    rw [ha]
    simp only [List.length_nil, Nat.add_zero] at hlen
    rw [hlen]
    exact q
theorem ok_reps (n : Nat) {x : Str} (h : PyData.strOk x = true) : (Dv.lst (List.replicate n (.str x))).ok = true := ok_lsc (by
  rw [List.all_replicate]
  split
  · rfl
  · exact h)
section
variable {Q : Dv → Prop} {E : Er → Prop}
theorem dRaisedBad {b o n : Dv} (h1 : b.plain = true) (h2 : o.plain = true) (h3 : n.plain = true) (h : (inRd b (-BIG) BIG && inRd o 0 BIG && inRd n 1 BIG) = false) (e : E (.pl "NoNumber")) : dsRaised [.d b, .d o, .d n] Q E :=
  ⟨b, o, n, rfl, h1, h2, h3, fun b' o' n' e1 e2 e3 b1 b2 o1 o2 n1 n2 => (by
    rw [e1, e2, e3, inRd_ok b1 b2, inRd_ok o1 o2, inRd_ok n1 n2] at h; cases h), fun _ => e⟩
theorem dSharedBad {a b : Dv} (h1 : a.plain = true) (h2 : b.plain = true) (h : (inRd a (-BIG) BIG && inRd b (-BIG) BIG) = false) (e : E (.pl "NoNumber")) : dsShared [.d a, .d b] Q E :=
  ⟨a, b, rfl, h1, h2, fun b' o' e1 e2 b1 b2 o1 o2 => (by
    rw [e1, e2, inRd_ok b1 b2, inRd_ok o1 o2] at h; cases h), fun _ => e⟩
theorem dUndoneBad {a b : Dv} (h1 : a.plain = true) (h2 : b.plain = true) (h : (inRd a (-BIG) BIG && inRd b 1 BIG) = false) (e : E (.pl "NoNumber")) : dsUndone [.d a, .d b] Q E :=
  ⟨a, b, rfl, h1, h2, fun b' o' e1 e2 b1 b2 o1 o2 => (by
    rw [e1, e2, inRd_ok b1 b2, inRd_ok o1 o2] at h; cases h), fun _ => e⟩
end
theorem law_nil {K : PySem.W.Frag} {as : List V} {H : Hp} {q : VK} {e : XK} (h : spLaw K as H q e) : spLawT K [] as H q e := by
  obtain ⟨a, ns, rfl, hS, hl, h⟩ := h
  exact ⟨a, ns, rfl, hS, hl, (fun p hp => by cases hp), h⟩
def partsW (l : List (Nat × Nat)) : Dv := .lst (l.map pairV)
theorem gd_partsW {l : List (Nat × Nat)} (h : l.length ≤ 99999) : (partsW l).gd = true := gd_lst.mpr ⟨by rw [List.length_map]; exact h, gds_pairs l⟩
theorem ok_partsW {l : List (Nat × Nat)} (h : l.length ≤ 99999) : (partsW l).ok = true := gd_ok (gd_partsW h) (by have := deps_pairs l; simp only [partsW, Dv.dep]; omega)
theorem deq_partsW (l r : List (Nat × Nat)) : deq (partsW l) (partsW r) = decide (l = r) := by rw [partsW, partsW, deq_ll, deqs_pairs]
/-- the law's parts, a list -/
def dsPartsL : DSp := fun as Q _ => ∃ n : Nat, as = [.d (.int n)] ∧ 1 ≤ n ∧ n ≤ 10 ^ 31 ∧ ∀ l, Parts n l → Q (partsW l)
def dsPrimeL : DSp := fun as Q _ => ∃ (m : Int) (top : Nat), as = [.st, .d (.int m)] ∧ 0 < m ∧ Pr top ∧ m + 1 ≤ top ∧ top ≤ 10 ^ 10 ∧ ∀ p : Nat, Pr p → p ≤ top → Q (.int p)
def dsBits : DSp := fun as Q _ => ∃ o : Nat, as = [.d (.int o)] ∧ o < 2 ^ 200 ∧ ∀ bs : List Nat, bval bs = o → (∀ b ∈ bs, b = 0 ∨ b = 1) → bs.length ≤ 200 → Q (.lst (bs.map fun b : Nat => .int b))
def dsPowB : DSp := fun as Q _ => ∃ (b n : Int) (o : Nat), as = [.d (.int b), .d (.int o), .d (.int n)] ∧ o < 2 ^ 200 ∧ 0 < n ∧ n < 2 ^ 110 ∧ -(2 ^ 120) < b ∧ b < 2 ^ 120 ∧ Q (.int (b ^ o % n))
theorem mulN {a b : Nat} (ha : a < 2 ^ 120) (hb : b < 2 ^ 120) : CMulW (a : Int) (b : Int) := mulOk ⟨by omega, by omega⟩ ⟨by omega, by omega⟩
section
variable {Q : Dv → Prop} {E : Er → Prop}
theorem dIsPrimeBad {d : Dv} (h1 : d.plain = true) (h : inRd d 0 (10 ^ 9) = false) (e : E (.pl "NoNumber")) : dsIsPrime [.d d] Q E :=
  ⟨d, rfl, h1, fun n e1 hn => (by rw [e1, inRd_ok (by omega) (by omega)] at h; cases h), fun _ => e⟩
theorem dPartsOfBad {d : Dv} (h1 : d.plain = true) (h : inRd d 1 (10 ^ 9) = false) (e : E (.pl "NoNumber")) : dsPartsOf [.d d] Q E :=
  ⟨d, rfl, h1, fun n e1 h2 hn => (by rw [e1, inRd_ok (by omega) (by omega)] at h; cases h), fun _ => e⟩
end
end My

end
set_option Elab.async false
set_option linter.all false
set_option maxRecDepth 100000
set_option maxHeartbeats 4000000
namespace My
open PySem L2 NT LamX
local macro_rules | `(tactic| walk_at "rd") => `(tactic| simp only [tSeq, tAsg, tOp, tVar, tC, tIfS, tTest, tRet, tRetN, tNext, tDrop, tB, tAnd, tOr, tNot, tNotV, tAndV, tOrV, tIf, tUn, tPar, tPar3, tNever, tBreak, tCont, gName, gNil, gCons, gTup, gSub, L2.start, rI0, rI, rU, rEq, rNe, tCons, tNil, tCl, tCB, tBM, tBM0, tTup, tLst, rAppend, cxK, rIsB, rNotB, cp10, sizeLine_eq, Int.zero_add, Int.reduceToNat, Int.reducePow, Int.reduceNeg, Int.reduceSub, Int.reduceAdd, Int.reduceMul, Int.reduceLT, Int.reduceLE, Nat.reduceLeDiff, Nat.reduceLT, tChain, sc_ii, sc_ss, sc_bb, sc_nn, sc_ni, sc_in, sc_nb, sc_bn, sc_ns, sc_sn, List.length_cons, List.length_nil, List.length, List.replicate, List.map, List.append_nil, List.nil_append, List.cons_append, List.getElem?_cons_zero, List.getElem?_cons_succ, List.set_cons_zero, List.set_cons_succ, wipe, Option.some.injEq, V.int.injEq, V.bl.injEq, V.str.injEq, V.ref.injEq, List.cons.injEq, exists_eq_left', exists_eq_left, exists_eq_right, exists_eq_right', exists_and_left, exists_and_right, and_true, true_and, exists_const, exists_prop, Nat.reduceSub, Nat.reduceAdd, and_assoc, reduceCtorEq, false_and, and_false, exists_false, false_or, or_false, Bool.not_true, Bool.not_false, if_true, if_false, Bool.false_eq_true, decide_true, decide_false])
local macro_rules | `(tactic| walk_at "dd") => `(tactic| simp only [cxK, partsW, partsV, dsSameN, dsIsWhole, dsIsBetween, dsNeed, dsNeed1, dsPow, dsCommon, dsUndoneBy, dsTake, dsFar, dsDraw1, dsNone, dsParts, dsToldPrime, dsPartsL, dsPrimeL, dsBits, dsPowB, dSeq, dAsg, dSet, dSetN, dPar, dPar3, dPar3N, dDrop, dRet, dRetN, dNext, dIfS, dNever, dBreak, dCont, dgName, dgNil, dgCons, dgTup, dVar, dC, dOf, d2, d1, kArC, kAr, kCo, kEq, kNe, kIsN, kNotN, kIsB, kNotB, dTest, dChain, dAndT, dOrT, dNotT, dAndV, dOrV, dIf, dNil, dCons, dcNil, dcCons, dcSt, dTup, dLst, d2N, dCall, dCallN, kLen, kTuple, kIx, kIn, dIsi, dIsi2, dNIx, dNLen, dNoPart, dPart, dSlN, dSlT, dSlS, dRevN, dApp, dExt, dSub, dRevS, dPop, dCl, dRaise, dState, dYes, dStart, diL, diT, diR1, diR2, diS, diZ, deWord, dForS, dLc, dWords, dForR, dLcR, dWordsR, dWord, dClX, wipeD, Dv.isN, Dv.isi, Dv.isI, pl_i, pl_b, pl_s, pl_n, pl_l, pl_t, ns_a, ns_s, ns_v, ns_o, List.flatten_cons, List.flatten_nil, gd_i, gd_b, gd_n, dep_i, dep_b, dep_n, dep_s, Nat.zero_lt_succ, ok_i, ok_s, ok_b, ok_n, deq_ii, deq_ss, deq_bb, deq_nn, deq_ni, deq_in, deq_ns, deq_sn, deq_nb, deq_bn, deq_is, deq_si, deq_nt, deq_tn, deq_it, deq_ti, deq_tt, deq_ll, deqs_nil, deqs_nc, deqs_cn, deqs_cc, atI_0, atI_1, atI_2, atI_3, atI_4, cp10, Int.zero_add, Int.reduceToNat, Int.reducePow, Int.reduceNeg, Int.reduceSub, Int.reduceAdd, Int.reduceMul, Int.reduceLT, Int.reduceLE, Int.reduceMod, Int.reduceDiv, Int.reduceEq, Nat.reduceLeDiff, Nat.reduceLT, List.length_cons, List.length_nil, List.length, List.replicate, List.map_cons, List.map_nil, List.map, List.append_nil, List.nil_append, List.cons_append, List.getElem?_cons_zero, List.getElem?_cons_succ, List.set_cons_zero, List.set_cons_succ, Option.some.injEq, Dv.int.injEq, Dv.bl.injEq, Dv.str.injEq, Dv.lst.injEq, Dv.tup.injEq, Dv.scr.injEq, Dv.lam.injEq, Ar.d.injEq, Sl.own.injEq, Sl.val.injEq, List.cons.injEq, exists_eq_left', exists_eq_left, exists_eq_right, exists_eq_right', exists_and_left, exists_and_right, and_true, true_and, exists_const, exists_prop, exists_eq, exists_eq', Nat.reduceSub, Nat.reduceAdd, and_assoc, reduceCtorEq, false_and, and_false, exists_false, false_or, or_false, Bool.not_true, Bool.not_false, if_true, if_false, Bool.false_eq_true, Bool.true_and, Bool.false_and, Bool.and_true, Bool.and_false, Bool.true_or, Bool.false_or, decide_true, decide_false, ne_eq, not_true, not_false_iff, imp_self, String.reduceBEq, String.reduceEq, beq_self_eq_true])
local macro_rules | `(tactic| walk_at "om") => `(tactic| (simp only [BIG] at *; omega))
def top (i : Nat) : Stmt := PySem.Challenge.pw_primepapers_k03_primes_and_parts.main.body.getD i (.Pass ⟨0, 0, 0, 0⟩)
section
variable {P : Program} {w : World} {K : PySem.W.Frag} {mg : Str → Option Value} {base : Heap} {er : String → Addr}
abbrev s_is_whole : Stmt := top 13
theorem sc_is_whole : FnScope ["thing"] ["thing"] (defScope s_is_whole) := ⟨rfl, rfl, rfl, by decide +kernel, rfl, by decide +kernel, by decide +kernel⟩
theorem ok_is_whole {f : Addr} {fd : FuncData} (F : Fun K "is_whole" "is_whole" s_is_whole f fd) {Tt : List (Addr × Str)} (z_bool : mg "bool" = none) (z_int : mg "int" = none) (z_isinstance : mg "isinstance" = none) : FnG P w K mg base CX0 1 f fd ["thing"] (lSp K er Tt (dsIsWhole)) := by
  refine fnD0 F sc_is_whole (fun as Q E h => ?_) (fun cdv A out s H E hcode0 hr hgd LP a0 F0 lp as Q Ed h => ?_)
  · obtain ⟨d, rfl, _⟩ := h
    rfl
  · obtain ⟨d, rfl, hp, q⟩ := h
    have nd := sc_is_whole.nd
    refine ⟨_, (dss_one (ds_ret (de_and (de_isi rfl (by decide) (by rfl) z_isinstance (dv 0) (pe_bltn (v := .ty "int") (by rfl) z_int (by decide +kernel) rfl)) (de_one (de_not (de_isi rfl (by decide) (by rfl) z_isinstance (dv 0) (pe_bltn (v := .ty "bool") (by rfl) z_bool (by decide +kernel) rfl))))))), ?_⟩
    walk_at "dd"
    refine ⟨hp, ?_⟩
    cases d <;> first | (cases hp; done) | (simp [Dv.isi, Dv.isI, Dv.plain] at q ⊢; exact q)
abbrev s_is_between : Stmt := top 14
theorem sc_is_between : FnScope ["thing", "low", "high"] ["thing", "low", "high"] (defScope s_is_between) := ⟨rfl, rfl, rfl, by decide +kernel, rfl, by decide +kernel, by decide +kernel⟩
theorem ok_is_between {f : Addr} {fd : FuncData} (F : Fun K "is_between" "is_between" s_is_between f fd) {Tt : List (Addr × Str)} (c_is_whole : Cl P w K mg base CX0 1 "is_whole" (lSp K er Tt (dsIsWhole))) : FnG P w K mg base CX0 2 f fd ["thing", "low", "high"] (lSp K er Tt (dsIsBetween)) := by
  refine fnD0 F sc_is_between (fun as Q E h => ?_) (fun cdv A out s H E hcode0 hr hgd LP a0 F0 lp as Q Ed h => ?_)
  · obtain ⟨d, lo, hi, rfl, _⟩ := h
    rfl
  · obtain ⟨d, lo, hi, rfl, hp, q⟩ := h
    have nd := sc_is_between.nd
    refine ⟨_, (dss_one (ds_ret (de_and (de_cl rfl c_is_whole hr hgd (by decide) rfl (dc_cons (dv 0) dc_nil)) (de_one (de_chain op_le op_le o_B0 o_B0 (dv 1) (dv 0) (dv 2)))))), ?_⟩
    walk_at "dd"
    refine ⟨hp, ?_⟩
    cases d with
    | int i =>
      refine iteT ⟨i, rfl, decB (fun h => ⟨i, rfl, ?_⟩) (fun h => ?_)⟩
      · have e : inRd (.int i) lo hi = decide (i ≤ hi) := by show (decide (lo ≤ i) && decide (i ≤ hi)) = _; rw [decide_eq_true h]; rfl
        rw [e] at q; exact q
      · have e : inRd (.int i) lo hi = false := by show (decide (lo ≤ i) && decide (i ≤ hi)) = _; rw [decide_eq_false h]; rfl
        rw [e] at q; exact q
    | _ => exact iteF q
abbrev s_need_between : Stmt := top 15
theorem sc_need_between : FnScope ["thing", "low", "high"] ["thing", "low", "high"] (defScope s_need_between) := ⟨rfl, rfl, rfl, by decide +kernel, rfl, by decide +kernel, by decide +kernel⟩
theorem ok_need_between {f : Addr} {fd : FuncData} (F : Fun K "need_between" "need_between" s_need_between f fd) {Tt : List (Addr × Str)} (c_is_between : Cl P w K mg base CX0 2 "is_between" (lSp K er Tt (dsIsBetween))) (x_NoNumber : EC K mg "NoNumber" (er "NoNumber")) : FnG P w K mg base (L2.CX P w) 3 f fd ["thing", "low", "high"] (lSp K er Tt (dsNeed)) := by
  refine fnDx F sc_need_between (fun as Q E h => ?_) (fun cdv A out s H E hcode0 hr hgd LP a0 F0 lp as Q Ed wx h => ?_)
  · obtain ⟨d, lo, hi, rfl, _⟩ := h
    rfl
  · obtain ⟨d, lo, hi, rfl, hp, q1, q2⟩ := h
    have nd := sc_need_between.nd
    refine ⟨_, (dss_one (ds_if (dt_not (dt_val (de_cl rfl c_is_between hr hgd (by decide) rfl (dc_cons (dv 0) (dc_cons (dv 1) (dc_cons (dv 2) dc_nil))))))
        (dss_one (ds_raise (n := "NoNumber") wx rfl (takes_of rfl rfl rfl rfl) x_NoNumber rfl))
        dss_nil)), ?_⟩
    walk_at "dd"
    refine ⟨hp, ?_⟩
    cases e : inRd d lo hi with
    | true => exact q1 e
    | false => exact q2 e
abbrev s_prime_parts : Stmt := top 18
theorem sc_prime_parts : FnScope ["number", "found", "left", "prime", "often"] ["number"] (defScope s_prime_parts) := ⟨rfl, rfl, rfl, by decide +kernel, rfl, by decide +kernel, by decide +kernel⟩
theorem ok_prime_parts {f : Addr} {fd : FuncData} (F : Fun K "prime_parts" "prime_parts" s_prime_parts f fd) {Tt : List (Addr × Str)} (z_tuple : mg "tuple" = none) : FnG P w K mg base CX0 1 f fd ["number"] (lSp K er Tt (dsParts)) := by
  refine fnD0 F sc_prime_parts (fun as Q E h => ?_) (fun cdv A out s H E hcode0 hr hgd LP a0 F0 lp as Q Ed h => ?_)
  · obtain ⟨n, rfl, _⟩ := h
    rfl
  · obtain ⟨n, rfl, hn1, hn2, q⟩ := h
    have nd := sc_prime_parts.nd
    refine ⟨_, (dss_cons (ds_setN (i := 1) nd rfl (.inl rfl) (dn_lst da_nil))
      (dss_cons (ds_set (i := 2) nd rfl (.inl rfl) (dv 0))
      (dss_cons (ds_set (i := 3) nd rfl (.inl rfl) de_int)
      (dss_cons (ds_while PassesOwn.never (dt_cmp op_le o_B0 (de_op op_mulW o_I (dv 3) (dv 3)) (dv 2) (nomark _))
        (dss_cons (ds_set (i := 4) nd rfl (.inl rfl) de_int)
          (dss_cons (ds_while PassesOwn.never (dt_cmp (op_eqD hr.units) o_eq (de_op op_mod o_I (dv 2) (dv 3)) de_int (nomark _))
            (dss_cons (ds_set (i := 2) nd rfl (.inl rfl) (de_op op_fdivW o_I (dv 2) (dv 3)))
              (dss_one (ds_set (i := 4) nd rfl (.inl rfl) (de_op op_add o_I0 (dv 4) de_int)))))
          (dss_cons (ds_if (dt_cmp op_gt o_B0 (dv 4) de_int (nomark _))
            (dss_one (ds_app (n := 1) rfl (.inl rfl) (de_tup (da_cons (dv 3) (da_cons (dv 4) da_nil))) (hcall := fun h => pe_bm PySem.F.plainAttrs_list PySem.F.slot_list_append PySem.F.type_list_append mt_append (pv 1) h)))
            dss_nil)
          (dss_one (ds_set (i := 3) nd rfl (.inl rfl) (de_op op_add o_I0 (dv 3) de_int)))))))
      (dss_cons (ds_if (dt_cmp op_gt o_B0 (dv 2) de_int (nomark _))
        (dss_one (ds_app (n := 1) rfl (.inl rfl) (de_tup (da_cons (dv 2) (da_cons de_int da_nil))) (hcall := fun h => pe_bm PySem.F.plainAttrs_list PySem.F.slot_list_append PySem.F.type_list_append mt_append (pv 1) h)))
        dss_nil)
      (dss_one (ds_ret (de_callTy c_tuple call_tuple_of (by rfl) z_tuple (by decide +kernel) (da_cons (dv 1) da_nil))))))))), ?_⟩
    walk_at "dd"
    obtain ⟨W, hW⟩ : ∃ W : Nat → List Sl → Prop, W = fun m es => ∃ (acc : List (Nat × Nat)) (L pr : Nat) (o : Sl), m = n + 2 - pr ∧ es = [.val (.int n), .own (acc.map pairV), .val (.int L), .val (.int pr), o] ∧ pr ≤ n + 2 ∧ Tried n acc L pr := ⟨_, rfl⟩
    have mk : ∀ (acc : List (Nat × Nat)) (L pr : Nat) (o : Sl), pr ≤ n + 2 → Tried n acc L pr → W (n + 2 - pr) [.val (.int n), .own (acc.map pairV), .val (.int L), .val (.int pr), o] := fun acc L pr o h4 h5 => by rw [hW]; exact ⟨acc, L, pr, o, rfl, rfl, h4, h5⟩
    refine dWhile_by W (mk [] n 2 .any (by omega) (Tried.start hn1)) fun m es h => ?_
    rw [hW] at h
    obtain ⟨acc, L, pr, o, rfl, rfl, hle, T⟩ := h
    have Lle := T.le hn1
    have p2 := T.two
    have len := T.len (show n < 2 ^ 110 by omega)
    have snoc : ∀ a b : Nat, acc.map pairV ++ [Dv.tup [.int a, .int b]] = (acc ++ [(a, b)]).map pairV := fun a b => by rw [List.map_append]; rfl
    walk_at "dd"
    refine ⟨mulOk ⟨by omega, by omega⟩ ⟨by omega, by omega⟩, decB (fun h1 => ?_) (fun h1 => ?_)⟩
    · have hpL : pr ≤ L := by
        have h2 : pr * pr ≤ L := by exact_mod_cast h1
        exact Nat.le_trans (Nat.le_mul_of_pos_right _ (by omega)) h2
      obtain ⟨W2, hW2⟩ : ∃ W : Nat → List Sl → Prop, W = fun m es => ∃ (M e : Nat), m = M ∧ es = [.val (.int n), .own (acc.map pairV), .val (.int M), .val (.int pr), .val (.int e)] ∧ L = pr ^ e * M ∧ 1 ≤ M := ⟨_, rfl⟩
      have mk2 : ∀ (M e : Nat), L = pr ^ e * M → 1 ≤ M → W2 M [.val (.int n), .own (acc.map pairV), .val (.int M), .val (.int pr), .val (.int e)] := fun M e h1 h2 => by rw [hW2]; exact ⟨M, e, rfl, rfl, h1, h2⟩
      refine dWhile_by W2 (mk2 L 0 (by simp) T.pos) fun m es h => ?_
      rw [hW2] at h
      obtain ⟨M, e, em, rfl, hM, pos2⟩ := h
      walk_at "dd"
      refine ⟨by omega, decB (fun h2 => ?_) (fun h2 => ?_)⟩
      · refine ⟨divOk (by omega) (by omega), ?_⟩
        have h3 : M % pr = 0 := by exact_mod_cast h2
        have h4 : M = pr * (M / pr) := by have := Nat.div_add_mod M pr; omega
        have h5 : 1 ≤ M / pr := by
          rcases Nat.eq_zero_or_pos (M / pr) with z | z
          · rw [z, Nat.mul_zero] at h4; omega
          · exact z
        refine ⟨M / pr, by rw [em]; exact Nat.div_lt_self pos2 p2, mk2 (M / pr) (e + 1) ?_ h5⟩
        rw [Nat.pow_succ, Nat.mul_assoc, ← h4]
        exact hM
      · have hnd : ¬ pr ∣ M := fun z => h2 (by exact_mod_cast Nat.mod_eq_zero_of_dvd z)
        have T2 := T.next hM hnd
        refine decB (fun h3 => ?_) (fun h3 => ?_)
        · rw [if_pos (by omega)] at T2
          rw [List.length_map, snoc]
          exact ⟨by omega, _, by omega, mk _ M (pr + 1) _ (by omega) T2⟩
        · rw [if_neg (by omega)] at T2
          exact ⟨_, by omega, mk _ M (pr + 1) _ (by omega) T2⟩
    · have hlt : L < pr * pr := by
        have h2 : ¬ pr * pr ≤ L := fun z => h1 (by exact_mod_cast z)
        omega
      have E := T.last hlt
      refine decB (fun h3 => ?_) (fun h3 => ?_)
      · rw [if_pos (by omega)] at E
        have e1 := snoc L 1
        simp only [Int.natCast_one] at e1
        rw [List.length_map, e1]
        exact ⟨by omega, q _ E⟩
      · rw [if_neg (by omega)] at E
        exact q _ E
abbrev s_is_told_prime : Stmt := top 19
theorem sc_is_told_prime : FnScope ["number"] ["number"] (defScope s_is_told_prime) := ⟨rfl, rfl, rfl, by decide +kernel, rfl, by decide +kernel, by decide +kernel⟩
theorem ok_is_told_prime {f : Addr} {fd : FuncData} (F : Fun K "is_told_prime" "is_told_prime" s_is_told_prime f fd) {Tt : List (Addr × Str)} (c_prime_parts : Cl P w K mg base CX0 1 "prime_parts" (lSp K er Tt (dsParts))) : FnG P w K mg base CX0 2 f fd ["number"] (lSp K er Tt (dsToldPrime)) := by
  refine fnD0 F sc_is_told_prime (fun as Q E h => ?_) (fun cdv A out s H E hcode0 hr hgd LP a0 F0 lp as Q Ed h => ?_)
  · obtain ⟨n, rfl, _⟩ := h
    rfl
  · obtain ⟨n, rfl, hn, q⟩ := h
    have nd := sc_is_told_prime.nd
    refine ⟨_, (dss_one (ds_ret (de_and (de_cmp op_gt o_B0 (dv 0) de_int (nomark _)) (de_one (de_cmp (op_eqD hr.units) o_eq (de_cl rfl c_prime_parts hr hgd (by decide) rfl (dc_cons (dv 0) dc_nil)) (de_tup (da_cons (de_tup (da_cons (dv 0) (da_cons de_int da_nil))) da_nil)) (nomark _)))))), ?_⟩
    walk_at "dd"
    refine decB (fun h1 => ?_) (fun h1 => ?_)
    · refine ⟨n, rfl, by omega, hn, fun l hp => ?_⟩
      have len := hp.len (k := 110) (by omega)
      refine ⟨ok_parts (by omega), gd_ok (d := partsV [(n, 1)]) (gd_parts (by show 1 ≤ _; decide)) (by show 2 ≤ _; decide), ?_⟩
      have e : deqs (l.map pairV) [Dv.tup [Dv.int n, Dv.int 1]] = decide (l = [(n, 1)]) := deqs_pairs l [(n, 1)]
      exact q _ (by rw [e, decide_eq_true_iff]; exact hp.is_prime.symm)
    · exact q _ ⟨fun z => Bool.noConfusion z, fun z => absurd z.1 (by omega)⟩
abbrev s_is_prime : Stmt := top 20
theorem sc_is_prime : FnScope ["number"] ["number"] (defScope s_is_prime) := ⟨rfl, rfl, rfl, by decide +kernel, rfl, by decide +kernel, by decide +kernel⟩
theorem ok_is_prime {f : Addr} {fd : FuncData} (F : Fun K "is_prime" "is_prime" s_is_prime f fd) {Tt : List (Addr × Str)} (c_need_between : Cl P w K mg base (L2.CX P w) 3 "need_between" (lSp K er Tt (dsNeed))) (c_is_told_prime : Cl P w K mg base CX0 2 "is_told_prime" (lSp K er Tt (dsToldPrime))) {t_MOST_TRIED : Tok} (m_MOST_TRIED : mg "MOST_TRIED" = some (.int 1000000000 t_MOST_TRIED)) : FnG P w K mg base (L2.CX P w) 4 f fd ["number"] (lSp K er Tt (dsIsPrime)) := by
  refine fnDx F sc_is_prime (fun as Q E h => ?_) (fun cdv A out s H E hcode0 hr hgd LP a0 F0 lp as Q Ed wx h => ?_)
  · obtain ⟨d, rfl, _⟩ := h
    rfl
  · obtain ⟨d, rfl, hd, q1, q2⟩ := h
    have nd := sc_is_prime.nd
    refine ⟨_, (dss_cons (ds_expr (de_clx (takes_of rfl rfl rfl rfl) (fun _ _ _ _ h => h) wx rfl c_need_between hr hgd (by decide) rfl (dc_cons (dv 0) (dc_cons de_int (dc_cons (de_gi rfl m_MOST_TRIED) dc_nil)))))
      (dss_one (ds_ret (de_cl rfl c_is_told_prime hr hgd (by decide) rfl (dc_cons (dv 0) dc_nil))))), ?_⟩
    walk_at "dd"
    refine ⟨hd, fun g => ?_, q2⟩
    obtain ⟨i, rfl, i1, i2⟩ := inRd_int g
    obtain ⟨n, rfl⟩ := Int.eq_ofNat_of_zero_le i1
    exact ⟨n, rfl, by omega, q1 n rfl (by omega)⟩
abbrev s_parts_of : Stmt := top 21
theorem sc_parts_of : FnScope ["number"] ["number"] (defScope s_parts_of) := ⟨rfl, rfl, rfl, by decide +kernel, rfl, by decide +kernel, by decide +kernel⟩
theorem ok_parts_of {f : Addr} {fd : FuncData} (F : Fun K "parts_of" "parts_of" s_parts_of f fd) {Tt : List (Addr × Str)} (c_need_between : Cl P w K mg base (L2.CX P w) 3 "need_between" (lSp K er Tt (dsNeed))) (c_prime_parts : Cl P w K mg base CX0 1 "prime_parts" (lSp K er Tt (dsParts))) {t_MOST_TRIED : Tok} (m_MOST_TRIED : mg "MOST_TRIED" = some (.int 1000000000 t_MOST_TRIED)) : FnG P w K mg base (L2.CX P w) 4 f fd ["number"] (lSp K er Tt (dsPartsOf)) := by
  refine fnDx F sc_parts_of (fun as Q E h => ?_) (fun cdv A out s H E hcode0 hr hgd LP a0 F0 lp as Q Ed wx h => ?_)
  · obtain ⟨d, rfl, _⟩ := h
    rfl
  · obtain ⟨d, rfl, hd, q1, q2⟩ := h
    have nd := sc_parts_of.nd
    refine ⟨_, (dss_cons (ds_expr (de_clx (takes_of rfl rfl rfl rfl) (fun _ _ _ _ h => h) wx rfl c_need_between hr hgd (by decide) rfl (dc_cons (dv 0) (dc_cons de_int (dc_cons (de_gi rfl m_MOST_TRIED) dc_nil)))))
      (dss_one (ds_ret (de_cl rfl c_prime_parts hr hgd (by decide) rfl (dc_cons (dv 0) dc_nil))))), ?_⟩
    walk_at "dd"
    refine ⟨hd, fun g => ?_, q2⟩
    obtain ⟨i, rfl, i1, i2⟩ := inRd_int g
    obtain ⟨n, rfl⟩ := Int.eq_ofNat_of_zero_le (show 0 ≤ i by omega)
    exact ⟨n, rfl, by omega, by omega, q1 n rfl (by omega) (by omega)⟩
abbrev s__law_cell_at : Stmt := top 23
theorem sc__law_cell_at : FnScope ["_law_script", "_law_k"] ["_law_script", "_law_k"] (defScope s__law_cell_at) := ⟨rfl, rfl, rfl, by decide +kernel, rfl, by decide +kernel, by decide +kernel⟩
theorem ok__law_cell_at {f : Addr} {fd : FuncData} (F : Fun K "_law_cell_at" "_law_cell_at" s__law_cell_at f fd) (z_len : mg "len" = none) : FnG P w K mg base CX0 1 f fd ["_law_script", "_law_k"] (spCellAt K) := by
  refine fnG0 F sc__law_cell_at (fun vs H Q E h => ?_) (fun cdv A outer s H vs Q E hr hgd h => ?_)
  · obtain ⟨a, ns, k, rfl, _⟩ := h
    rfl
  · obtain ⟨a, ns, k, rfl, hS, q⟩ := h
    have nd := sc__law_cell_at.nd
    refine ⟨_, (pss_cons (ps_if (pt_cmpR op_lt (pv 1) (pe_callB call_len_seq (by rfl) z_len PySem.boot_len (pa_cons (pv 0) pa_nil)) (nomark _))
        (pss_one (ps_ret (pe_ix ix_list (pv 0) (pv 1) (fun _ _ => rfl))))
        pss_nil)
      (pss_one (ps_ret pe_int))), ?_⟩
    walk_at "rd"
    refine ⟨_, .inl hS, decB (fun h => ?_) (fun _ => q 0)⟩
    rw [List.length_map] at h
    have hk : k < ns.length := by omega
    refine ⟨a, _, k, _, rfl, rfl, hS, atI_nat (by rw [List.getElem?_map, List.getElem?_eq_getElem hk]; rfl), q _⟩
abbrev s__law_state : Stmt := top 24
theorem sc__law_state : FnScope ["_law_script", "_law_k", "_law_cell"] ["_law_script", "_law_k"] (defScope s__law_state) := ⟨rfl, rfl, rfl, by decide +kernel, rfl, by decide +kernel, by decide +kernel⟩
theorem ok__law_state {f : Addr} {fd : FuncData} (F : Fun K "_law_state" "_law_state" s__law_state f fd) (c__law_cell_at : Cl P w K mg base CX0 1 "_law_cell_at" (spCellAt K)) : FnG P w K mg base CX0 2 f fd ["_law_script", "_law_k"] (spState K) := by
  refine fnG0 F sc__law_state (fun vs H Q E h => ?_) (fun cdv A outer s H vs Q E hr hgd h => ?_)
  · obtain ⟨a, ns, k, rfl, _⟩ := h
    rfl
  · obtain ⟨a, ns, k, rfl, hS, q⟩ := h
    have nd := sc__law_state.nd
    refine ⟨_, (pss_cons (ps_set (i := 2) nd rfl (.inl rfl) (pe_cl c__law_cell_at hr hgd (by decide) rfl (pa_cons (pv 0) (pa_cons (pv 1) pa_nil))))
      (pss_cons (ps_if (pt_cmpR op_ge (pv 2) (pe_op op_pow pe_int pe_int) (nomark _))
        (pss_one (ps_ret (pe_lst (pa_cons (pe_op op_sub (pv 2) (pe_op op_pow pe_int pe_int)) (pa_cons (pe_op op_add (pe_op op_mod (pv 2) pe_int) pe_int) pa_nil)))))
        pss_nil)
      (pss_one (ps_ret (pe_lst (pa_cons pe_int (pa_cons (pe_op op_add (pe_op op_mod (pv 2) pe_int) pe_int) pa_nil))))))), ?_⟩
    walk_at "rd"
    refine ⟨a, ns, k, rfl, hS, fun z => ?_⟩
    walk_at "rd"
    refine decB (fun h => ?_) (fun _ => ?_)
    · intro p hp
      exact q p _ hp (same_new hp _) ⟨_, _, upd_same, by omega, by omega, by omega⟩
    · intro p hp
      exact q p _ hp (same_new hp _) ⟨_, _, upd_same, by omega, by omega, by omega⟩
abbrev s__law_take : Stmt := top 25
theorem sc__law_take : FnScope ["_law_state_here", "_law_many", "_law_found", "_law_stirred"] ["_law_state_here", "_law_many"] (defScope s__law_take) := ⟨rfl, rfl, rfl, by decide +kernel, rfl, by decide +kernel, by decide +kernel⟩
theorem ok__law_take {f : Addr} {fd : FuncData} (F : Fun K "_law_take" "_law_take" s__law_take f fd)  : FnG P w K mg base CX0 1 f fd ["_law_state_here", "_law_many"] (spTake) := by
  refine fnG0 F sc__law_take (fun vs H Q E h => ?_) (fun cdv A outer s H vs Q E hr hgd h => ?_)
  · obtain ⟨a, m, rfl, _⟩ := h
    rfl
  · obtain ⟨a, m, rfl, ⟨x, y, hx, x0, y0, y1⟩, hm, hm2, q⟩ := h
    have nd := sc__law_take.nd
    refine ⟨_, (pss_cons (ps_if (pt_cmpR op_gt (pe_ix ix_list (pv 0) pe_int (fun _ _ => rfl)) pe_int (nomark _))
        (pss_cons (ps_set (i := 2) nd rfl (.inl rfl) (pe_op op_mod (pe_ix ix_list (pv 0) pe_int (fun _ _ => rfl)) (pv 1)))
          (pss_cons (ps_asg (pe_op op_fdivW (pe_ix ix_list (pv 0) pe_int (fun _ _ => rfl)) (pv 1)) (pg_sub (pv 0) pe_int set_list))
          (pss_one (ps_ret (pv 2)))))
        pss_nil)
      (pss_cons (ps_asg (pe_op op_mod (pe_op op_add (pe_op op_mulW (pe_ix ix_list (pv 0) pe_int (fun _ _ => rfl)) pe_int) pe_int) pe_int) (pg_sub (pv 0) pe_int set_list))
      (pss_cons (ps_set (i := 3) nd rfl (.inl rfl) (pe_op op_mod (pe_op op_add (pe_op op_add (pe_op op_mulW (pe_ix ix_list (pv 0) pe_int (fun _ _ => rfl)) (pe_ix ix_list (pv 0) pe_int (fun _ _ => rfl))) (pe_op op_mulW pe_int (pe_ix ix_list (pv 0) pe_int (fun _ _ => rfl)))) pe_int) pe_int))
      (pss_cons (ps_set (i := 3) nd rfl (.inl rfl) (pe_op op_mod (pe_op op_add (pe_op op_mulW (pv 3) (pv 3)) (pe_op op_mulW pe_int (pv 3))) pe_int))
      (pss_one (ps_ret (pe_op op_mod (pe_op op_fdivW (pv 3) pe_int) (pv 1)))))))), ?_⟩
    walk_at "rd"
    refine ix0 hx ⟨x, rfl, decB (fun h => ?_) (fun h => ?_)⟩
    · refine ix0 hx ⟨x, rfl, hm, ix0 hx ⟨x, rfl, divOk hm (by omega), st0 hx ?_⟩⟩
      exact q _ _ (Int.emod_nonneg _ (by omega)) (Int.emod_lt_of_pos _ hm) ⟨⟨_, _, upd_same, Int.ediv_nonneg x0 (by omega), y0, y1⟩, fun b o e n => by rw [upd_ne n]; exact e⟩
    · refine ix1 hx ⟨y, rfl, mulOk ⟨by omega, by omega⟩ ⟨by omega, by omega⟩, st1 hx ?_⟩
      have hz0 : 0 ≤ (y * 48271 + 29) % 2147483647 := by omega
      have hz1 : (y * 48271 + 29) % 2147483647 < 2147483647 := by omega
      generalize (y * 48271 + 29) % 2147483647 = z at hz0 hz1 ⊢
      have hx2 : (upd H a (.lst [V.int x, V.int z])) a = some (.lst [V.int x, V.int z]) := upd_same
      refine ix1 hx2 (ix1 hx2 ⟨z, rfl, z, rfl, mulOk ⟨by omega, by omega⟩ ⟨by omega, by omega⟩, ix1 hx2 ⟨z, rfl, mulOk ⟨by omega, by omega⟩ ⟨by omega, by omega⟩, ?_⟩⟩)
      have hs0 : 0 ≤ (z * z + 39373 * z + 7) % 2147483629 := by omega
      have hs1 : (z * z + 39373 * z + 7) % 2147483629 < 2147483629 := by omega
      generalize (z * z + 39373 * z + 7) % 2147483629 = s at hs0 hs1 ⊢
      refine ⟨mulOk ⟨by omega, by omega⟩ ⟨by omega, by omega⟩, mulOk ⟨by omega, by omega⟩ ⟨by omega, by omega⟩, divOk (by omega) (by omega), hm, ?_⟩
      exact q _ _ (Int.emod_nonneg _ (by omega)) (Int.emod_lt_of_pos _ hm) ⟨⟨_, _, upd_same, x0, by omega, by omega⟩, fun b o e n => by rw [upd_ne n]; exact e⟩
abbrev s__law_same : Stmt := top 26
theorem sc__law_same : FnScope ["_law_found", "_law_due", "_law_one", "_law_other"] ["_law_found", "_law_due"] (defScope s__law_same) := ⟨rfl, rfl, rfl, by decide +kernel, rfl, by decide +kernel, by decide +kernel⟩
theorem cl__law_same {f : Addr} {fd : FuncData} (F : Fun K "_law_same" "_law_same" s__law_same f fd) (hm : mg "_law_same" = some (.ref f)) (b : Binds K fd ["_law_found", "_law_due"] []) {Tt : List (Addr × Str)} (z_all : mg "all" = none) (z_bool : mg "bool" = none) (z_isinstance : mg "isinstance" = none) (z_len : mg "len" = none) (z_list : mg "list" = none) (z_tuple : mg "tuple" = none) (z_zip : mg "zip" = none) : Cl P w K mg base CX0 6 "_law_same" (lSp K er Tt (dsSameN 6)) := by
  suffices h : ∀ n, FnG P w K mg base CX0 n f fd ["_law_found", "_law_due"] (lSp K er Tt (dsSameN n)) from Cl.mk' F hm b (h 6)
  intro n
  induction n with
  | zero => exact ⟨fun vs H Q E ⟨LP, a, F, as, Qd, Ed, lp, b, r, ⟨d, e, g, h, q⟩, _⟩ => absurd h (Nat.not_lt_zero _), fun _ _ _ _ _ _ _ _ _ _ _ _ _ _ ⟨LP, a, F, as, Qd, Ed, lp, b, r, ⟨d, e, g, h, q⟩, _⟩ => absurd h (Nat.not_lt_zero _)⟩
  | succ n ih =>
    have c__law_same := Cl.mk' F hm b ih
    refine fnD0 F sc__law_same (fun as Q E h => ?_) (fun cdv A out s H E hcode0 hr hgd LP a0 F0 lp as Q Ed h => ?_)
    · obtain ⟨d, rfl, _⟩ := h
      rfl
    · obtain ⟨d, rfl, hg, hd, q⟩ := h
      have nd := sc__law_same.nd
      refine ⟨_, (dss_cons (ds_if (dt_val (de_isi2 rfl (by decide) (by decide) (by rfl) z_isinstance (dv 1) (pe_bltn (v := .ty "tuple") (by rfl) z_tuple (by decide +kernel) rfl) (pe_bltn (v := .ty "list") (by rfl) z_list (by decide +kernel) rfl)))
        (dss_cons (ds_if (PW.pt (dw_or (dt_cmp (op_neD hr.units) o_ne (de_isi rfl (by decide) (by rfl) z_isinstance (dv 0) (pe_bltn (v := .ty "tuple") (by rfl) z_tuple (by decide +kernel) rfl)) (de_isi rfl (by decide) (by rfl) z_isinstance (dv 1) (pe_bltn (v := .ty "tuple") (by rfl) z_tuple (by decide +kernel) rfl)) (nomark _)) (dw_or1 (dt_cmp (op_neD hr.units) o_ne (de_isi rfl (by decide) (by rfl) z_isinstance (dv 0) (pe_bltn (v := .ty "list") (by rfl) z_list (by decide +kernel) rfl)) (de_isi rfl (by decide) (by rfl) z_isinstance (dv 1) (pe_bltn (v := .ty "list") (by rfl) z_list (by decide +kernel) rfl)) (nomark _)))))
            (dss_one (ds_ret de_bl))
            dss_nil)
          (dss_cons (ds_if (dt_cmp (op_neD hr.units) o_ne (de_callB c_len call_len (by rfl) z_len PySem.boot_len (da_cons (dv 0) da_nil)) (de_callB c_len call_len (by rfl) z_len PySem.boot_len (da_cons (dv 1) da_nil)) (nomark _))
            (dss_one (ds_ret de_bl))
            dss_nil)
          (dss_one (ds_ret (de_callB c_all (cr_all rfl) (by rfl) z_all (by decide +kernel) (da_cons (de_new (dn_lc rfl nd (di_zip rfl (by rfl) z_zip (da_cons (dv 0) (da_cons (dv 1) da_nil))) (own := [("_law_one", 2), ("_law_other", 3)]) (g := gTup _ 2 (gCons (gName 2) (gCons (gName 3) gNil))) (gd := dgTup 2 (dgCons (dgName 2) (dgCons (dgName 3) dgNil))) (blkOk_by (N := ["_law_found", "_law_due", "_law_one", "_law_other"]) (sc := defScope s__law_same) (by decide +kernel)) (fun _ => gw_tup2 rfl) (fun _ _ _ _ _ => pg_tup rfl (pgs_cons (pg_name (i := 2) nd rfl (Or.inl rfl)) (pgs_cons (pg_name (i := 3) nd rfl (Or.inl rfl)) pgs_nil))) (fun _ _ _ _ _ _ => dts_nil) (fun _ _ _ _ _ _ => (de_cl rfl c__law_same hr hgd (Nat.le_refl _) rfl (dc_cons (dv 2) (dc_cons (dv 3) dc_nil)))))) da_nil))))))
        dss_nil)
      (dss_one (ds_ret (de_and (de_cmp (op_eqD hr.units) o_eq (dv 0) (dv 1) (nomark _)) (de_one (de_cmp (op_eqD hr.units) o_eq (de_isi rfl (by decide) (by rfl) z_isinstance (dv 0) (pe_bltn (v := .ty "bool") (by rfl) z_bool (by decide +kernel) rfl)) (de_isi rfl (by decide) (by rfl) z_isinstance (dv 1) (pe_bltn (v := .ty "bool") (by rfl) z_bool (by decide +kernel) rfl)) (nomark _))))))), ?_⟩
      have run : ∀ (l : List Dv) (d : Dv) (R : List Dv → List Sl → Prop), l.length ≤ 99999 → Dv.gds l = true → Dv.deps l + 1 < n + 1 → R ((List.replicate l.length true).map Dv.bl) [.val d, .val d, .any, .any] →
          dLcW (dgTup 2 (dgCons (dgName 2) (dgCons (dgName 3) dgNil))) dYes (dCl (dsSameN n) Ed0 (dcCons (dVar 2) (dcCons (dVar 3) dcNil))) [2, 3] (zipD l l) [.val d, .val d, .any, .any] R := fun l d R hl0 hg hd h => by
        obtain ⟨Pv, hP⟩ : ∃ Pv : Nat → List Dv → List Sl → Prop, Pv = fun i acc es => acc = List.replicate i (Dv.bl true) ∧ es = [.val d, .val d, .any, .any] := ⟨_, rfl⟩
        refine dLc_P Pv (by rw [hP]; exact ⟨rfl, rfl⟩) (fun i x acc es hx h => ?_) (fun acc es h2 => ?_)
        · rw [hP] at h
          obtain ⟨rfl, rfl⟩ := h
          obtain ⟨y, hy, rfl⟩ := zipD_self hx
          have hm := List.mem_of_getElem? hy
          have hl := (List.getElem?_eq_some_iff.mp hy).1
          obtain ⟨g1, g2⟩ := gds_mem hg hm
          walk_at "dd"
          refine ⟨g1, by omega, by rw [List.length_replicate]; omega, ?_⟩
          rw [hP]
          exact ⟨rep_snoc _ _, rfl⟩
        · rw [hP] at h2
          obtain ⟨rfl, rfl⟩ := h2
          rw [zipD_len, Nat.min_self, rep_bl]
          exact h
      cases d with
      | lst l =>
        walk_at "dd"
        exact run l _ _ (gd_lst.mp hg).1 (gd_lst.mp hg).2 hd ⟨_, rfl, by rw [all_repId]; exact q⟩
      | tup l =>
        walk_at "dd"
        exact run l _ _ (gd_tup.mp hg).1 (gd_tup.mp hg).2 hd ⟨_, rfl, by rw [all_repId]; exact q⟩
      | non => walk_at "dd"; exact q
      | bl x => walk_at "dd"; exact q
      | int x => walk_at "dd"; exact q
      | str x =>
        walk_at "dd"
        have h2 : PyData.strOk x = true := hg
        simp only [h2]
        exact ⟨trivial, trivial, q⟩
      | _ => cases hg
abbrev s__law_word : Stmt := top 27
theorem sc__law_word : FnScope ["_law_call", "_law_error", "e", "_law_marks", "_law_words"] ["_law_call"] (defScope s__law_word) := ⟨rfl, rfl, rfl, by decide +kernel, rfl, by decide +kernel, by decide +kernel⟩
theorem gv__law_word {f : Addr} (z_ValueError : mg "ValueError" = none) (z_isinstance : mg "isinstance" = none) (v_NoBases : mg "NoBases" = some (.ref (er "NoBases"))) (v_NoDeed : mg "NoDeed" = some (.ref (er "NoDeed"))) (v_NoLine : mg "NoLine" = some (.ref (er "NoLine"))) (v_NoName : mg "NoName" = some (.ref (er "NoName"))) (v_NoNumber : mg "NoNumber" = some (.ref (er "NoNumber"))) (v_NoPair : mg "NoPair" = some (.ref (er "NoPair"))) (v_NoPaper : mg "NoPaper" = some (.ref (er "NoPaper"))) (v_NoPrime : mg "NoPrime" = some (.ref (er "NoPrime"))) (v_NoText : mg "NoText" = some (.ref (er "NoText"))) (v_PrimeError : mg "PrimeError" = some (.ref (er "PrimeError"))) (v_TooGreat : mg "TooGreat" = some (.ref (er "TooGreat"))) : ∀ cdv, Gives P w K mg base 0 ["_law_call", "_law_error", "e", "_law_marks", "_law_words"] "_law_word" (defScope s__law_word) f cdv (defBody s__law_word) "_law_call" (ttWord K er) := by
  intro cdv A outer s H Q fl L tl hr hgd mono act hL h
  have nd := sc__law_word.nd
  refine ⟨_, (pss_cons (ps_set (i := 1) nd rfl (.inl rfl) pe_non)
      (pss_cons (ps_try_keep (i := 2) rfl rfl rfl nd rfl rfl ⟨rfl, by decide, .inl v_PrimeError⟩ (fun W pn xe tk => pss_one (ps_expr (act W pn xe _ _ tk))) (fun a oe pn => pss_one (ps_set (i := 1) nd rfl (.inl rfl) (pv 2))))
      (pss_cons (ps_if (pt_cmpR op_isN (pv 1) pe_non (nomark _))
        (pss_one (ps_ret pe_non))
        pss_nil)
      (pss_cons (ps_set (i := 3) nd rfl (.inl rfl) (pe_lst (pa_cons (pe_callB call_isX (by rfl) z_isinstance (by decide +kernel) (pa_cons (pv 1) (pa_cons (pe_glob (v := .ref (er "NoNumber")) rfl v_NoNumber rfl) pa_nil))) (pa_cons (pe_callB call_isX (by rfl) z_isinstance (by decide +kernel) (pa_cons (pv 1) (pa_cons (pe_glob (v := .ref (er "NoPrime")) rfl v_NoPrime rfl) pa_nil))) (pa_cons (pe_callB call_isX (by rfl) z_isinstance (by decide +kernel) (pa_cons (pv 1) (pa_cons (pe_glob (v := .ref (er "NoPair")) rfl v_NoPair rfl) pa_nil))) pa_nil)))))
      (pss_cons (ps_set (i := 3) nd rfl (.inl rfl) (pe_op op_cat (pv 3) (pe_lst (pa_cons (pe_callB call_isX (by rfl) z_isinstance (by decide +kernel) (pa_cons (pv 1) (pa_cons (pe_glob (v := .ref (er "NoPaper")) rfl v_NoPaper rfl) pa_nil))) (pa_cons (pe_callB call_isX (by rfl) z_isinstance (by decide +kernel) (pa_cons (pv 1) (pa_cons (pe_glob (v := .ref (er "NoBases")) rfl v_NoBases rfl) pa_nil))) (pa_cons (pe_callB call_isX (by rfl) z_isinstance (by decide +kernel) (pa_cons (pv 1) (pa_cons (pe_glob (v := .ref (er "NoText")) rfl v_NoText rfl) pa_nil))) pa_nil))))))
      (pss_cons (ps_set (i := 3) nd rfl (.inl rfl) (pe_op op_cat (pv 3) (pe_lst (pa_cons (pe_callB call_isX (by rfl) z_isinstance (by decide +kernel) (pa_cons (pv 1) (pa_cons (pe_glob (v := .ref (er "NoLine")) rfl v_NoLine rfl) pa_nil))) (pa_cons (pe_callB call_isX (by rfl) z_isinstance (by decide +kernel) (pa_cons (pv 1) (pa_cons (pe_glob (v := .ref (er "NoName")) rfl v_NoName rfl) pa_nil))) (pa_cons (pe_callB call_isX (by rfl) z_isinstance (by decide +kernel) (pa_cons (pv 1) (pa_cons (pe_glob (v := .ref (er "NoDeed")) rfl v_NoDeed rfl) pa_nil))) pa_nil))))))
      (pss_cons (ps_expr (pe_bm PySem.F.plainAttrs_list PySem.F.slot_list_append PySem.F.type_list_append mt_append (pv 3) (pa_cons (pe_callB call_isX (by rfl) z_isinstance (by decide +kernel) (pa_cons (pv 1) (pa_cons (pe_glob (v := .ref (er "TooGreat")) rfl v_TooGreat rfl) pa_nil))) pa_nil)))
      (pss_cons (ps_if (PW.pt (pw_or (pt_not (pt_val (pe_callB call_isX (by rfl) z_isinstance (by decide +kernel) (pa_cons (pv 1) (pa_cons (pe_bltn (v := .ty "ValueError") (by rfl) z_ValueError (by decide +kernel) rfl) pa_nil))))) (pw_or1 (pt_cmpR op_ne (pe_bm PySem.F.plainAttrs_list PySem.F.slot_list_count PySem.F.type_list_count (mt_countB hr.units) (pv 3) (pa_cons pe_bl pa_nil)) pe_int (nomark _)))))
        (pss_one (ps_ret pe_str))
        pss_nil)
      (pss_cons (ps_set (i := 4) nd rfl (.inl rfl) (pe_lst (pa_cons pe_str (pa_cons pe_str (pa_cons pe_str (pa_cons pe_str (pa_cons pe_str (pa_cons pe_str (pa_cons pe_str (pa_cons pe_str (pa_cons pe_str pa_nil)))))))))))
      (pss_one (ps_ret (pe_ifExp (pt_val (pe_ix ix_list (pv 3) pe_int (fun _ _ => rfl))) (pe_tup (pa_cons pe_str (pa_cons pe_no (pa_cons pe_no pa_nil)))) (pe_ix ix_list (pv 4) (pe_bm PySem.F.plainAttrs_list PySem.F.slot_list_index PySem.F.type_list_index mt_index (pv 3) (pa_cons pe_bl pa_nil)) (fun _ _ => rfl)))))))))))))), ?_⟩
  walk_at "rd"
  refine ⟨hL, h _ _ (fun i D wd H' hi k hw q => ?_) (fun v H' q => ?_)⟩
  · refine ⟨k.m, fun a ha => ?_⟩
    walk_at "rd"
    have s0 := same_new ha (ExK (Value.ref (er D)) none a)
    have h0 : (upd H' a (ExK (Value.ref (er D)) none a)) a = some (ExK (Value.ref (er D)) none a) := upd_same
    generalize upd H' a (ExK (Value.ref (er D)) none a) = H0 at s0 h0 ⊢
    refine isX (j := 0) k h0 rfl (isX (j := 1) k h0 rfl (isX (j := 2) k h0 rfl ?_))
    intro p1 hp1
    have s1 := same_new hp1 (.lst [V.bl (decide (i = 0)), V.bl (decide (i = 1)), V.bl (decide (i = 2))])
    have e1 : upd H0 p1 (.lst [V.bl (decide (i = 0)), V.bl (decide (i = 1)), V.bl (decide (i = 2))]) p1 = _ := upd_same
    have h1 := s1 _ _ h0
    generalize upd H0 p1 (.lst [V.bl (decide (i = 0)), V.bl (decide (i = 1)), V.bl (decide (i = 2))]) = H1 at s1 e1 h1 ⊢
    refine isX (j := 3) k h1 rfl (isX (j := 4) k h1 rfl (isX (j := 5) k h1 rfl ?_))
    intro p2 hp2
    have s2 := same_new hp2 (.lst [V.bl (decide (i = 3)), V.bl (decide (i = 4)), V.bl (decide (i = 5))])
    have e2 : upd H1 p2 (.lst [V.bl (decide (i = 3)), V.bl (decide (i = 4)), V.bl (decide (i = 5))]) p2 = _ := upd_same
    have h2 := s2 _ _ h1
    have f1 := s2 _ _ e1
    generalize upd H1 p2 (.lst [V.bl (decide (i = 3)), V.bl (decide (i = 4)), V.bl (decide (i = 5))]) = H2 at s2 e2 h2 f1 ⊢
    refine ⟨p1, p2, _, _, rfl, rfl, f1, e2, sz (by simp), fun p3 hp3 => ?_⟩
    have s3 := same_new hp3 (.lst ([V.bl (decide (i = 0)), V.bl (decide (i = 1)), V.bl (decide (i = 2))] ++ [V.bl (decide (i = 3)), V.bl (decide (i = 4)), V.bl (decide (i = 5))]))
    have e3 : upd H2 p3 (.lst ([V.bl (decide (i = 0)), V.bl (decide (i = 1)), V.bl (decide (i = 2))] ++ [V.bl (decide (i = 3)), V.bl (decide (i = 4)), V.bl (decide (i = 5))])) p3 = _ := upd_same
    have h3 := s3 _ _ h2
    generalize upd H2 p3 (.lst ([V.bl (decide (i = 0)), V.bl (decide (i = 1)), V.bl (decide (i = 2))] ++ [V.bl (decide (i = 3)), V.bl (decide (i = 4)), V.bl (decide (i = 5))])) = H3 at s3 e3 h3 ⊢
    refine isX (j := 6) k h3 rfl (isX (j := 7) k h3 rfl (isX (j := 8) k h3 rfl ?_))
    intro p4 hp4
    have s4 := same_new hp4 (.lst [V.bl (decide (i = 6)), V.bl (decide (i = 7)), V.bl (decide (i = 8))])
    have e4 : upd H3 p4 (.lst [V.bl (decide (i = 6)), V.bl (decide (i = 7)), V.bl (decide (i = 8))]) p4 = _ := upd_same
    have h4 := s4 _ _ h3
    have f3 := s4 _ _ e3
    generalize upd H3 p4 (.lst [V.bl (decide (i = 6)), V.bl (decide (i = 7)), V.bl (decide (i = 8))]) = H4 at s4 e4 h4 f3 ⊢
    refine ⟨p3, p4, _, _, rfl, rfl, f3, e4, sz (by simp), fun p5 hp5 => ?_⟩
    have sA : Same H' H4 := (((s0.trans s1).trans s2).trans s3).trans s4
    have h5 : upd H4 p5 (.lst (([V.bl (decide (i = 0)), V.bl (decide (i = 1)), V.bl (decide (i = 2))] ++ [V.bl (decide (i = 3)), V.bl (decide (i = 4)), V.bl (decide (i = 5))]) ++ [V.bl (decide (i = 6)), V.bl (decide (i = 7)), V.bl (decide (i = 8))])) a = some (ExK (Value.ref (er D)) none a) := same_new hp5 _ _ _ h4
    refine ⟨tyL upd_same, isX (j := 9) k h5 rfl ⟨p5, rfl, _, upd_same, by simp, ?_⟩⟩
    rw [upd_upd]
    have s6 := same_new hp5 (.lst ([0, 1, 2, 3, 4, 5, 6, 7, 8, 9].map fun j => V.bl (decide (i = j))))
    have e6 : upd H4 p5 (.lst ([0, 1, 2, 3, 4, 5, 6, 7, 8, 9].map fun j => V.bl (decide (i = j)))) p5 = some (.lst (([0, 1, 2, 3, 4, 5, 6, 7, 8, 9].map fun j => decide (i = j)).map V.bl)) := upd_same
    have h6 : upd H4 p5 (.lst ([0, 1, 2, 3, 4, 5, 6, 7, 8, 9].map fun j => V.bl (decide (i = j)))) a = some (ExK (Value.ref (er D)) none a) := s6 _ _ h4
    show rIsX K [V.ref a, V.ty "ValueError"] (upd H4 p5 (.lst ([0, 1, 2, 3, 4, 5, 6, 7, 8, 9].map fun j => V.bl (decide (i = j))))) _
    generalize upd H4 p5 (.lst ([0, 1, 2, 3, 4, 5, 6, 7, 8, 9].map fun j => V.bl (decide (i = j)))) = H6 at s6 e6 h6 ⊢
    have sB : Same H' H6 := sA.trans s6
    refine isXV k h6 ⟨true, rfl, ?_⟩
    walk_at "rd"
    refine ⟨tyL e6, p5, _, true, rfl, rfl, SqL.of e6, ?_⟩
    have hc : (([0, 1, 2, 3, 4, 5, 6, 7, 8, 9].map fun j => decide (i = j)).count true) = 1 := by
      have : i = 0 ∨ i = 1 ∨ i = 2 ∨ i = 3 ∨ i = 4 ∨ i = 5 ∨ i = 6 ∨ i = 7 ∨ i = 8 := by omega
      rcases this with rfl | rfl | rfl | rfl | rfl | rfl | rfl | rfl | rfl <;> decide
    rw [hc]
    refine ⟨rfl, iteNS (by decide) ?_⟩
    intro p7 hp7
    have s7 := same_new hp7 (.lst (wordsE.map V.str))
    have e7 : upd H6 p7 (.lst (wordsE.map V.str)) p7 = _ := upd_same
    show rIxL K (V.ref p5) (V.int 9) (upd H6 p7 (.lst (wordsE.map V.str))) _
    generalize upd H6 p7 (.lst (wordsE.map V.str)) = H7 at s7 e7 ⊢
    have g6 := s7 _ _ e6
    have ne9 : ¬ i = 9 := by omega
    refine ixL (SqL.of g6) (v := V.bl false) (by rw [List.map_map]; show some (V.bl (decide (i = 9))) = _; rw [decide_eq_false ne9]) ⟨false, rfl, ?_⟩
    have at_ : ∀ m : Nat, m < 10 → (([0, 1, 2, 3, 4, 5, 6, 7, 8, 9].map fun j => decide (i = j)).map V.bl)[m]? = some (V.bl (decide (i = m))) := fun m hm => by
      show (((List.range 10).map fun j => decide (i = j)).map V.bl)[m]? = _
      rw [List.getElem?_map, List.getElem?_map, List.getElem?_range hm]
      rfl
    refine iteF ⟨tyL g6, p5, _, .bl true, i, .bl true, rfl, rfl, SqL.of g6, rfl, List.all_eq_true.mpr fun z hz => ?_, ?_, rfl, fun m z' hm hz => ?_, ?_⟩
    · obtain ⟨b, _, rfl⟩ := List.mem_map.mp hz
      rfl
    · rw [at_ i (by omega), decide_eq_true rfl]
    · rw [at_ m (by omega), decide_eq_false (by omega)] at hz
      cases hz
      rfl
    · refine ixL (SqL.of e7) (v := V.str wd) (atI_nat (j := i) ?_) (q _ (sB.trans s7))
      rw [List.getElem?_map, hw]
      rfl
  · exact q
abbrev s__law_none : Stmt := top 28
theorem sc__law_none : FnScope ["_law_state_here", "_law_low", "_law_high", "_law_some"] ["_law_state_here", "_law_low", "_law_high"] (defScope s__law_none) := ⟨rfl, rfl, rfl, by decide +kernel, rfl, by decide +kernel, by decide +kernel⟩
theorem ok__law_none {f : Addr} {fd : FuncData} (F : Fun K "_law_none" "_law_none" s__law_none f fd) {Tt : List (Addr × Str)} (c__law_take : Cl P w K mg base CX0 1 "_law_take" (lSp K er Tt (dsTake))) (z_str : mg "str" = none) : FnG P w K mg base CX0 2 f fd ["_law_state_here", "_law_low", "_law_high"] (lSp K er Tt (dsNone)) := by
  refine fnD0 F sc__law_none (fun as Q E h => ?_) (fun cdv A out s H E hcode0 hr hgd LP a0 F0 lp as Q Ed h => ?_)
  · obtain ⟨lo, hi, rfl, _⟩ := h
    rfl
  · obtain ⟨lo, hi, rfl, h1, h2, h3, q⟩ := h
    have nd := sc__law_none.nd
    refine ⟨_, (dss_cons (ds_set (i := 3) nd rfl (.inl rfl) (de_new (dn_lst (da_cons (de_op op_sub o_I0 (dv 1) de_int) (da_cons (de_op op_add o_I0 (dv 2) de_int) (da_cons de_bl (da_cons de_bl (da_cons de_non (da_cons (de_callTy c_str call_str_int (by rfl) z_str (by decide +kernel) (da_cons (dv 1) da_nil)) (da_cons (de_tup (da_cons (dv 1) da_nil)) (da_cons (de_new (dn_lst (da_cons (dv 2) da_nil))) (da_cons (de_op op_pow o_I de_int de_int) (da_cons (de_op op_sub o_I0 de_int (de_op op_pow o_I de_int de_int)) (da_cons de_dnew (da_cons de_str da_nil)))))))))))))))
      (dss_one (ds_ret (de_ix ix_seq o_ix (dv 3) (de_cl rfl c__law_take hr hgd (by decide) rfl (dc_st (i := 0) rfl (.inl rfl) (dc_cons de_int dc_nil))) (fun _ _ => rfl))))), ?_⟩
    walk_at "dd"
    refine ⟨log_lt (k := 250) (pow_lt (m := 0) 250 (by omega) (by omega)) (by decide), fun r r0 r1 => ?_⟩
    have i1 : ∀ i : Int, (i < lo ∨ hi < i) → inRd (.int i) lo hi = false := fun i h => by
      show (decide (lo ≤ i) && decide (i ≤ hi)) = false
      rcases h with h | h
      · rw [decide_eq_false (show ¬ lo ≤ i by omega)]; rfl
      · rw [decide_eq_false (show ¬ i ≤ hi by omega), Bool.and_false]
    refine atI_mem r0 r1 fun d hd => ?_
    simp only [List.mem_cons, List.not_mem_nil, or_false] at hd
    rcases hd with rfl | rfl | rfl | rfl | rfl | rfl | rfl | rfl | rfl | rfl | rfl | rfl
    · exact q _ rfl (i1 _ (by omega))
    · exact q _ rfl (i1 _ (by omega))
    · exact q _ rfl rfl
    · exact q _ rfl rfl
    · exact q _ rfl rfl
    · exact q _ rfl rfl
    · exact q _ rfl rfl
    · exact q _ rfl rfl
    · exact q _ rfl (i1 _ (by omega))
    · exact q _ rfl (i1 _ (by omega))
    · exact q _ rfl rfl
    · exact q _ rfl rfl
abbrev s__law_parts : Stmt := top 29
theorem sc__law_parts : FnScope ["_law_number", "_law_found", "_law_left", "_law_prime_here", "_law_often"] ["_law_number"] (defScope s__law_parts) := ⟨rfl, rfl, rfl, by decide +kernel, rfl, by decide +kernel, by decide +kernel⟩
theorem ok__law_parts {f : Addr} {fd : FuncData} (F : Fun K "_law_parts" "_law_parts" s__law_parts f fd) {Tt : List (Addr × Str)} : FnG P w K mg base CX0 1 f fd ["_law_number"] (lSp K er Tt (dsPartsL)) := by
  refine fnD0 F sc__law_parts (fun as Q E h => ?_) (fun cdv A out s H E hcode0 hr hgd LP a0 F0 lp as Q Ed h => ?_)
  · obtain ⟨n, rfl, _⟩ := h
    rfl
  · obtain ⟨n, rfl, hn1, hn2, q⟩ := h
    have nd := sc__law_parts.nd
    refine ⟨_, (dss_cons (ds_par3N (i := 1) (j := 2) (l := 3) (by rfl) nd rfl rfl rfl (by decide) (by decide) (by decide) rfl rfl rfl (dn_lst da_nil) (fun _ => (dv 0)) (fun _ => de_int) (by rfl))
      (dss_cons (ds_while PassesOwn.never (dt_cmp op_gt o_B0 (dv 2) de_int (nomark _))
        (dss_cons (ds_if (dt_cmp op_gt o_B0 (de_op op_mulW o_I (dv 3) (dv 3)) (dv 2) (nomark _))
            (dss_one (ds_set (i := 3) nd rfl (.inl rfl) (dv 2)))
            dss_nil)
          (dss_cons (ds_set (i := 4) nd rfl (.inl rfl) de_int)
          (dss_cons (ds_while PassesOwn.never (dt_cmp (op_eqD hr.units) o_eq (de_op op_mod o_I (dv 2) (dv 3)) de_int (nomark _))
            (dss_one (ds_par (i := 2) (j := 4) (by rfl) nd rfl rfl (by decide) rfl rfl (da_cons (de_op op_fdivW o_I (dv 2) (dv 3)) (da_cons (de_op op_add o_I0 (dv 4) de_int) da_nil)) (by rfl))))
          (dss_cons (ds_if (dt_cmp op_gt o_B0 (dv 4) de_int (nomark _))
            (dss_one (ds_app (n := 1) rfl (.inl rfl) (de_tup (da_cons (dv 3) (da_cons (dv 4) da_nil))) (hcall := fun h => pe_bm PySem.F.plainAttrs_list PySem.F.slot_list_append PySem.F.type_list_append mt_append (pv 1) h)))
            dss_nil)
          (dss_one (ds_set (i := 3) nd rfl (.inl rfl) (de_op op_add o_I0 (dv 3) de_int))))))))
      (dss_one (ds_ret (dv 1))))), ?_⟩
    walk_at "dd"
    obtain ⟨W, hW⟩ : ∃ W : Nat → List Sl → Prop, W = fun m es => ∃ (acc : List (Nat × Nat)) (L pr : Nat) (o : Sl), m = n + 2 - pr ∧ es = [.val (.int n), .own (acc.map pairV), .val (.int L), .val (.int pr), o] ∧ pr ≤ n + 2 ∧ Tried n acc L pr := ⟨_, rfl⟩
    have mk : ∀ (acc : List (Nat × Nat)) (L pr : Nat) (o : Sl), pr ≤ n + 2 → Tried n acc L pr → W (n + 2 - pr) [.val (.int n), .own (acc.map pairV), .val (.int L), .val (.int pr), o] := fun acc L pr o h4 h5 => by rw [hW]; exact ⟨acc, L, pr, o, rfl, rfl, h4, h5⟩
    refine dWhile_by W (mk [] n 2 .any (by omega) (Tried.start hn1)) fun m es h => ?_
    rw [hW] at h
    obtain ⟨acc, L, pr, o, rfl, rfl, hle, T⟩ := h
    have Lle := T.le hn1
    have p2 := T.two
    have len := T.len (show n < 2 ^ 110 by omega)
    have snoc : ∀ a b : Nat, acc.map pairV ++ [Dv.tup [.int a, .int b]] = (acc ++ [(a, b)]).map pairV := fun a b => by rw [List.map_append]; rfl
    walk_at "dd"
    refine decB (fun h0 => ?_) (fun h0 => ?_)
    · have h0' : 1 < L := by omega
      have mok : CMulW (pr : Int) (pr : Int) := mulOk ⟨by omega, by omega⟩ ⟨by omega, by omega⟩
      refine ⟨mok, decB (fun h1 => ?_) (fun h1 => ?_)⟩
      · have h1' : L < pr * pr := by exact_mod_cast h1
        have TT := T.jump h0' h1'
        have hlp : pr ≤ L := by
          by_cases z : L < pr
          · exact absurd (Nat.dvd_refl L) (T.no L h0' z)
          · omega
        obtain ⟨W2, hW2⟩ : ∃ W : Nat → List Sl → Prop, W = fun m es => ∃ (M e : Nat), m = M ∧ es = [.val (.int n), .own (acc.map pairV), .val (.int M), .val (.int L), .val (.int e)] ∧ L = L ^ e * M ∧ 1 ≤ M := ⟨_, rfl⟩
        have mk2 : ∀ (M e : Nat), L = L ^ e * M → 1 ≤ M → W2 M [.val (.int n), .own (acc.map pairV), .val (.int M), .val (.int L), .val (.int e)] := fun M e h1 h2 => by rw [hW2]; exact ⟨M, e, rfl, rfl, h1, h2⟩
        refine dWhile_by W2 (mk2 L 0 (by simp) T.pos) fun m es h => ?_
        rw [hW2] at h
        obtain ⟨M, e, em, rfl, hM, pos2⟩ := h
        walk_at "dd"
        refine ⟨by omega, decB (fun h2 => ?_) (fun h2 => ?_)⟩
        · refine ⟨divOk (by omega) (by omega), ?_⟩
          have h3 : M % L = 0 := by exact_mod_cast h2
          have h4 : M = L * (M / L) := by have := Nat.div_add_mod M L; omega
          have h5 : 1 ≤ M / L := by
            rcases Nat.eq_zero_or_pos (M / L) with z | z
            · rw [z, Nat.mul_zero] at h4; omega
            · exact z
          refine ⟨M / L, by rw [em]; exact Nat.div_lt_self pos2 (by omega), mk2 (M / L) (e + 1) ?_ h5⟩
          rw [Nat.pow_succ, Nat.mul_assoc, ← h4]
          exact hM
        · have hnd : ¬ L ∣ M := fun z => h2 (by exact_mod_cast Nat.mod_eq_zero_of_dvd z)
          have T2 := TT.next hM hnd
          refine decB (fun h3 => ?_) (fun h3 => ?_)
          · rw [if_pos (by omega)] at T2
            rw [List.length_map, snoc]
            exact ⟨by omega, _, by omega, mk _ M (L + 1) _ (by omega) T2⟩
          · rw [if_neg (by omega)] at T2
            exact ⟨_, by omega, mk _ M (L + 1) _ (by omega) T2⟩
      · have h1' : pr * pr ≤ L := by
          have z : ¬ L < pr * pr := fun z => h1 (by exact_mod_cast z)
          omega
        have TT := T
        have hlp : pr ≤ L := Nat.le_trans (Nat.le_mul_of_pos_right _ (by omega)) h1'
        obtain ⟨W2, hW2⟩ : ∃ W : Nat → List Sl → Prop, W = fun m es => ∃ (M e : Nat), m = M ∧ es = [.val (.int n), .own (acc.map pairV), .val (.int M), .val (.int pr), .val (.int e)] ∧ L = pr ^ e * M ∧ 1 ≤ M := ⟨_, rfl⟩
        have mk2 : ∀ (M e : Nat), L = pr ^ e * M → 1 ≤ M → W2 M [.val (.int n), .own (acc.map pairV), .val (.int M), .val (.int pr), .val (.int e)] := fun M e h1 h2 => by rw [hW2]; exact ⟨M, e, rfl, rfl, h1, h2⟩
        refine dWhile_by W2 (mk2 L 0 (by simp) T.pos) fun m es h => ?_
        rw [hW2] at h
        obtain ⟨M, e, em, rfl, hM, pos2⟩ := h
        walk_at "dd"
        refine ⟨by omega, decB (fun h2 => ?_) (fun h2 => ?_)⟩
        · refine ⟨divOk (by omega) (by omega), ?_⟩
          have h3 : M % pr = 0 := by exact_mod_cast h2
          have h4 : M = pr * (M / pr) := by have := Nat.div_add_mod M pr; omega
          have h5 : 1 ≤ M / pr := by
            rcases Nat.eq_zero_or_pos (M / pr) with z | z
            · rw [z, Nat.mul_zero] at h4; omega
            · exact z
          refine ⟨M / pr, by rw [em]; exact Nat.div_lt_self pos2 (by omega), mk2 (M / pr) (e + 1) ?_ h5⟩
          rw [Nat.pow_succ, Nat.mul_assoc, ← h4]
          exact hM
        · have hnd : ¬ pr ∣ M := fun z => h2 (by exact_mod_cast Nat.mod_eq_zero_of_dvd z)
          have T2 := TT.next hM hnd
          refine decB (fun h3 => ?_) (fun h3 => ?_)
          · rw [if_pos (by omega)] at T2
            rw [List.length_map, snoc]
            exact ⟨by omega, _, by omega, mk _ M (pr + 1) _ (by omega) T2⟩
          · rw [if_neg (by omega)] at T2
            exact ⟨_, by omega, mk _ M (pr + 1) _ (by omega) T2⟩
    · have e1 : L = 1 := by have := T.pos; omega
      subst e1
      exact q _ T.done
abbrev s__law_is_prime : Stmt := top 30
theorem sc__law_is_prime : FnScope ["_law_number"] ["_law_number"] (defScope s__law_is_prime) := ⟨rfl, rfl, rfl, by decide +kernel, rfl, by decide +kernel, by decide +kernel⟩
theorem ok__law_is_prime {f : Addr} {fd : FuncData} (F : Fun K "_law_is_prime" "_law_is_prime" s__law_is_prime f fd) {Tt : List (Addr × Str)} (c__law_parts : Cl P w K mg base CX0 1 "_law_parts" (lSp K er Tt (dsPartsL))) : FnG P w K mg base CX0 2 f fd ["_law_number"] (lSp K er Tt (dsToldPrime)) := by
  refine fnD0 F sc__law_is_prime (fun as Q E h => ?_) (fun cdv A out s H E hcode0 hr hgd LP a0 F0 lp as Q Ed h => ?_)
  · obtain ⟨n, rfl, _⟩ := h
    rfl
  · obtain ⟨n, rfl, hn, q⟩ := h
    have nd := sc__law_is_prime.nd
    refine ⟨_, (dss_one (ds_ret (de_and (de_cmp op_gt o_B0 (dv 0) de_int (nomark _)) (de_one (de_cmp (op_eqD hr.units) o_eq (de_cl rfl c__law_parts hr hgd (by decide) rfl (dc_cons (dv 0) dc_nil)) (de_new (dn_lst (da_cons (de_tup (da_cons (dv 0) (da_cons de_int da_nil))) da_nil))) (nomark _)))))), ?_⟩
    walk_at "dd"
    refine decB (fun h1 => ?_) (fun h1 => ?_)
    · refine ⟨n, rfl, by omega, hn, fun l hp => ?_⟩
      have len := hp.len (k := 110) (by omega)
      refine ⟨ok_partsW (by omega), gd_ok (d := partsW [(n, 1)]) (gd_partsW (by show 1 ≤ _; decide)) (by show 2 ≤ _; decide), ?_⟩
      have e : deqs (l.map pairV) [Dv.tup [Dv.int n, Dv.int 1]] = decide (l = [(n, 1)]) := deqs_pairs l [(n, 1)]
      exact q _ (by rw [e, decide_eq_true_iff]; exact hp.is_prime.symm)
    · exact q _ ⟨fun z => Bool.noConfusion z, fun z => absurd z.1 (by omega)⟩
abbrev s__law_prime : Stmt := top 31
theorem sc__law_prime : FnScope ["_law_state_here", "_law_most", "_law_number"] ["_law_state_here", "_law_most"] (defScope s__law_prime) := ⟨rfl, rfl, rfl, by decide +kernel, rfl, by decide +kernel, by decide +kernel⟩
theorem ok__law_prime {f : Addr} {fd : FuncData} (F : Fun K "_law_prime" "_law_prime" s__law_prime f fd) {Tt : List (Addr × Str)} (c__law_take : Cl P w K mg base CX0 1 "_law_take" (lSp K er Tt (dsTake))) (c__law_is_prime : Cl P w K mg base CX0 2 "_law_is_prime" (lSp K er Tt (dsToldPrime))) : FnG P w K mg base CX0 3 f fd ["_law_state_here", "_law_most"] (lSp K er Tt (dsPrimeL)) := by
  refine fnD0 F sc__law_prime (fun as Q E h => ?_) (fun cdv A out s H E hcode0 hr hgd LP a0 F0 lp as Q Ed h => ?_)
  · obtain ⟨m, top, rfl, _⟩ := h
    rfl
  · obtain ⟨m, top, rfl, hm, pt, ht, ht2, q⟩ := h
    have nd := sc__law_prime.nd
    refine ⟨_, (dss_cons (ds_set (i := 2) nd rfl (.inl rfl) (de_op op_add o_I0 de_int (de_cl rfl c__law_take hr hgd (by decide) rfl (dc_st (i := 0) rfl (.inl rfl) (dc_cons (dv 1) dc_nil)))))
      (dss_cons (ds_while PassesOwn.never (dt_not (dt_val (de_cl rfl c__law_is_prime hr hgd (by decide) rfl (dc_cons (dv 2) dc_nil))))
        (dss_one (ds_set (i := 2) nd rfl (.inl rfl) (de_op op_add o_I0 (dv 2) de_int))))
      (dss_one (ds_ret (dv 2))))), ?_⟩
    walk_at "dd"
    refine ⟨hm, by omega, fun r r0 r1 => ?_⟩
    obtain ⟨W, hW⟩ : ∃ W : Nat → List Sl → Prop, W = fun k es => ∃ n : Nat, k = top - n ∧ es = [.stt, .val (.int m), .val (.int n)] ∧ n ≤ top := ⟨_, rfl⟩
    have mk : ∀ (n : Nat) (z : Int), z = n → n ≤ top → W (top - n) [.stt, .val (.int m), .val (.int z)] := fun n z h0 h2 => by rw [hW]; exact ⟨n, rfl, by rw [h0], h2⟩
    refine dWhile_by W (mk (2 + r).toNat _ (by omega) (by omega)) fun k es h => ?_
    rw [hW] at h
    obtain ⟨n, rfl, rfl, hn⟩ := h
    walk_at "dd"
    refine ⟨n, rfl, by omega, fun b hb => ?_⟩
    cases b with
    | false =>
      refine iteT ?_
      have : n ≠ top := fun z => by subst z; exact absurd (hb.mpr pt) Bool.false_ne_true
      exact ⟨_, by omega, mk (n + 1) _ (by omega) (by omega)⟩
    | true =>
      refine iteF ?_
      exact q n (hb.mp rfl) hn
abbrev s_law : Stmt := top 32
theorem sc_law : FnScope ["_law_script", "_law_k", "_law_state_here", "_law_prime_here", "_law_lesser", "_law_other", "_law_some", "_law_many", "_law_turn", "_law_more", "_law_number", "_law_due", "_law_far", "_law_none_here"] ["_law_script"] (defScope s_law) := ⟨rfl, rfl, rfl, by decide +kernel, rfl, by decide +kernel, by decide +kernel⟩
def lm_law_0 {Tt : List (Addr × Str)} (c_is_prime : Cl P w K mg base (L2.CX P w) 4 "is_prime" (lSp K er Tt (dsIsPrime))) : { tl : (Er → List Sl → Prop) → DE // ∀ (g : Addr) (cdv : Value) (A : Around) (outer : List Env) (s : Shared) (H : Hp) (E : XK) (Z : Zx), Z.K = K → Z.T = Tt → LamOk (cxOf CX0 P w K mg base ["_law_script", "_law_k", "_law_state_here", "_law_prime_here", "_law_lesser", "_law_other", "_law_some", "_law_many", "_law_turn", "_law_more", "_law_number", "_law_due", "_law_far", "_law_none_here"] "law" (defScope s_law) g cdv A outer s H E).nox 4 (lamD s_law 0 (lEXB Z er tl)) } :=
  ⟨_, fun g cdv A outer s H E Z hK hT => ⟨lamS_by (sc := defScope s_law) (scope := (lamP s_law 0).2.2) (by decide +kernel), fun _ _ _ _ _ => rfl, fun A outer s H E f c hr hgd => by
    change PE _ (.Call _ _ _ _) _
    exact PE_ex fun B2 => (dl_cl (takes_of rfl rfl rfl rfl) (fun _ _ _ _ h => h) hK hT c_is_prime hr hgd (by decide) rfl (dc_cons (dv 12) dc_nil))⟩⟩
def lm_law_1 {Tt : List (Addr × Str)} (c_parts_of : Cl P w K mg base (L2.CX P w) 4 "parts_of" (lSp K er Tt (dsPartsOf))) : { tl : (Er → List Sl → Prop) → DE // ∀ (g : Addr) (cdv : Value) (A : Around) (outer : List Env) (s : Shared) (H : Hp) (E : XK) (Z : Zx), Z.K = K → Z.T = Tt → LamOk (cxOf CX0 P w K mg base ["_law_script", "_law_k", "_law_state_here", "_law_prime_here", "_law_lesser", "_law_other", "_law_some", "_law_many", "_law_turn", "_law_more", "_law_number", "_law_due", "_law_far", "_law_none_here"] "law" (defScope s_law) g cdv A outer s H E).nox 4 (lamD s_law 1 (lEXB Z er tl)) } :=
  ⟨_, fun g cdv A outer s H E Z hK hT => ⟨lamS_by (sc := defScope s_law) (scope := (lamP s_law 1).2.2) (by decide +kernel), fun _ _ _ _ _ => rfl, fun A outer s H E f c hr hgd => by
    change PE _ (.Call _ _ _ _) _
    exact PE_ex fun B2 => (dl_cl (takes_of rfl rfl rfl rfl) (fun _ _ _ _ h => h) hK hT c_parts_of hr hgd (by decide) rfl (dc_cons (dv 13) dc_nil))⟩⟩
theorem fam_law {Tt : List (Addr × Str)} (c_is_prime : Cl P w K mg base (L2.CX P w) 4 "is_prime" (lSp K er Tt (dsIsPrime))) (c_parts_of : Cl P w K mg base (L2.CX P w) 4 "parts_of" (lSp K er Tt (dsPartsOf))) (g : Addr) (cdv : Value) (A : Around) (outer : List Env) (s : Shared) (H : Hp) (E : XK) (Z : Zx) (hLP : Z.LP = LPl (cxOf CX0 P w K mg base ["_law_script", "_law_k", "_law_state_here", "_law_prime_here", "_law_lesser", "_law_other", "_law_some", "_law_many", "_law_turn", "_law_more", "_law_number", "_law_due", "_law_far", "_law_none_here"] "law" (defScope s_law) g cdv A outer s H E).nox s_law) (hK : Z.K = K) (hT : Z.T = Tt) : FamOk (cxOf CX0 P w K mg base ["_law_script", "_law_k", "_law_state_here", "_law_prime_here", "_law_lesser", "_law_other", "_law_some", "_law_many", "_law_turn", "_law_more", "_law_number", "_law_due", "_law_far", "_law_none_here"] "law" (defScope s_law) g cdv A outer s H E).nox Z er s_law 4 [(lm_law_0 (Tt := Tt) c_is_prime).1, (lm_law_1 (Tt := Tt) c_parts_of).1] := ⟨hLP, hK, fun i tl h => match i, h with
  | 0, h => by cases h; exact (lm_law_0 (Tt := Tt) c_is_prime).2 _ _ _ _ _ _ _ _ hK hT
  | 1, h => by cases h; exact (lm_law_1 (Tt := Tt) c_parts_of).2 _ _ _ _ _ _ _ _ hK hT
  | n + 2, h => by simp at h⟩
theorem ok_law {f : Addr} {fd : FuncData} (F : Fun K "law" "law" s_law f fd) {Tt : List (Addr × Str)} {cc_law pp_law : Addr} (tb_law : TabD base mg fd cc_law pp_law) (hm_law : (pp_law, lq "law") ∈ Tt) (hu_law : ∀ p ∈ Tt, p.1 = pp_law → p.2 = lq "law") (c_is_prime : Cl P w K mg base (L2.CX P w) 4 "is_prime" (lSp K er Tt (dsIsPrime))) (c_parts_of : Cl P w K mg base (L2.CX P w) 4 "parts_of" (lSp K er Tt (dsPartsOf))) (c__law_state : Cl P w K mg base CX0 2 "_law_state" (spState K)) (c__law_take : Cl P w K mg base CX0 1 "_law_take" (lSp K er Tt (dsTake))) (c__law_same : Cl P w K mg base CX0 6 "_law_same" (lSp K er Tt (dsSameN 6))) (c__law_word : ClG P w K mg base 0 "_law_word" (ttWord K er)) (c__law_none : Cl P w K mg base CX0 2 "_law_none" (lSp K er Tt (dsNone))) (c__law_parts : Cl P w K mg base CX0 1 "_law_parts" (lSp K er Tt (dsPartsL))) (c__law_prime : Cl P w K mg base CX0 3 "_law_prime" (lSp K er Tt (dsPrimeL))) (z_len : mg "len" = none) (z_max : mg "max" = none) (z_min : mg "min" = none) (z_range : mg "range" = none) (z_tuple : mg "tuple" = none) (w_NoNumber : Kits K er 0 "NoNumber") : FnG P w K mg base CX0 7 f fd ["_law_script"] (spLawT K Tt) := by
  refine lawD F sc_law (fun cdv A out s H E hcode0 hr hgd F0 ns hlen => ?_)
  have nd := sc_law.nd
  have hcode : cdv = .ref cc_law := hcode0.symm.trans tb_law.code
  refine ⟨_, (dss_cons (ds_for PassesOwn.never rfl (di_range1 (by rfl) z_range (da_cons (de_callB c_max2 (call_max2 rfl) (by rfl) z_max (by decide +kernel) (da_cons de_int (da_cons (de_callB c_min2 (call_min2 rfl) (by rfl) z_min (by decide +kernel) (da_cons (de_callB c_len call_len (by rfl) z_len PySem.boot_len (da_cons (dv 0) da_nil)) (da_cons de_int da_nil))) da_nil))) da_nil)) (dg_name (i := 1) nd rfl (.inl rfl))
        (dss_cons (ds_state (i := 2) (j := 0) (l := 1) rfl rfl nd rfl (.inl rfl) (pe_cl c__law_state hr hgd (by decide) rfl (pa_cons (pv 0) (pa_cons (pv 1) pa_nil))))
          (dss_cons (ds_par (i := 3) (j := 4) (by rfl) nd rfl rfl (by decide) rfl rfl (da_cons (de_cl rfl c__law_prime hr hgd (by decide) rfl (dc_st (i := 2) rfl (.inl rfl) (dc_cons de_int dc_nil))) (da_cons (de_cl rfl c__law_prime hr hgd (by decide) rfl (dc_st (i := 2) rfl (.inl rfl) (dc_cons de_int dc_nil))) da_nil)) (by rfl))
          (dss_cons (ds_set (i := 5) nd rfl (.inl rfl) (de_cl rfl c__law_prime hr hgd (by decide) rfl (dc_st (i := 2) rfl (.inl rfl) (dc_cons (de_ix ix_seq o_ix (de_new (dn_lst (da_cons de_int (da_cons de_int (da_cons de_int da_nil))))) (de_cl rfl c__law_take hr hgd (by decide) rfl (dc_st (i := 2) rfl (.inl rfl) (dc_cons de_int dc_nil))) (fun _ _ => rfl)) dc_nil))))
          (dss_cons (ds_set (i := 6) nd rfl (.inl rfl) (de_new (dn_lst (da_cons (de_op op_add o_I0 de_int (de_cl rfl c__law_take hr hgd (by decide) rfl (dc_st (i := 2) rfl (.inl rfl) (dc_cons (de_op op_pow o_I de_int de_int) dc_nil)))) (da_cons (dv 3) (da_cons (de_op op_mulW o_I (dv 3) (dv 3)) (da_cons (de_op op_mulW o_I (dv 3) (dv 5)) da_nil)))))))
          (dss_cons (ds_set (i := 6) nd rfl (.inl rfl) (de_new (dn_op op_cat on_cat (dv 6) (de_new (dn_lst (da_cons (de_op op_mulW o_I (de_op op_mulW o_I (dv 4) (dv 4)) (dv 4)) (da_cons de_int (da_cons de_int (da_cons de_int (da_cons de_int da_nil))))))))))
          (dss_cons (ds_set (i := 7) nd rfl (.inl rfl) de_int)
          (dss_cons (ds_for PassesOwn.never rfl (di_range1 (by rfl) z_range (da_cons (de_cl rfl c__law_take hr hgd (by decide) rfl (dc_st (i := 2) rfl (.inl rfl) (dc_cons de_int dc_nil))) da_nil)) (dg_name (i := 8) nd rfl (.inl rfl))
            (dss_cons (ds_set (i := 9) nd rfl (.inl rfl) (de_cl rfl c__law_prime hr hgd (by decide) rfl (dc_st (i := 2) rfl (.inl rfl) (dc_cons (de_ix ix_seq o_ix (de_new (dn_lst (da_cons de_int (da_cons de_int (da_cons de_int da_nil))))) (de_cl rfl c__law_take hr hgd (by decide) rfl (dc_st (i := 2) rfl (.inl rfl) (dc_cons de_int dc_nil))) (fun _ _ => rfl)) dc_nil))))
              (dss_one (ds_set (i := 7) nd rfl (.inl rfl) (de_ifExp (dt_cmp op_le o_B0 (de_op op_mulW o_I (dv 7) (dv 9)) (de_op op_pow o_I de_int de_int) (nomark _)) (de_op op_mulW o_I (dv 7) (dv 9)) (dv 7))))))
          (dss_cons (ds_for PassesOwn.never rfl (di_list rfl (de_new (dn_op op_cat on_cat (dv 6) (de_new (dn_lst (da_cons (dv 7) (da_cons (de_op op_sub o_I0 (de_op op_pow o_I de_int de_int) (de_cl rfl c__law_take hr hgd (by decide) rfl (dc_st (i := 2) rfl (.inl rfl) (dc_cons de_int dc_nil)))) (da_cons (de_op op_pow o_I de_int de_int) da_nil)))))))) (dg_name (i := 10) nd rfl (.inl rfl))
            (dss_one (ds_if (dt_cmp op_le o_B0 (dv 10) (de_op op_pow o_I de_int de_int) (nomark _))
                (dss_cons (ds_set (i := 11) nd rfl (.inl rfl) (de_cl rfl c__law_parts hr hgd (by decide) rfl (dc_cons (dv 10) dc_nil)))
                  (dss_cons (ds_if (dt_not (dt_val (de_cl rfl c__law_same hr hgd (by decide) rfl (dc_cons (de_cln rfl c_parts_of hr hgd (by decide) rfl (dc_cons (dv 10) dc_nil)) (dc_cons (de_callTy c_tuple call_tuple_of (by rfl) z_tuple (by decide +kernel) (da_cons (dv 11) da_nil)) dc_nil)))))
                    (dss_one (ds_ret de_bl))
                    dss_nil)
                  (dss_one (ds_if (dt_not (dt_val (de_cl rfl c__law_same hr hgd (by decide) rfl (dc_cons (de_cln rfl c_is_prime hr hgd (by decide) rfl (dc_cons (dv 10) dc_nil)) (dc_cons (de_cmp (op_eqD hr.units) o_eq (dv 11) (de_new (dn_lst (da_cons (de_tup (da_cons (dv 10) (da_cons de_int da_nil))) da_nil))) (nomark _)) dc_nil)))))
                    (dss_one (ds_ret de_bl))
                    dss_nil))))
                dss_nil)))
          (dss_cons (ds_asg (de_tup (da_cons (de_cl rfl c__law_none hr hgd (by decide) rfl (dc_st (i := 2) rfl (.inl rfl) (dc_cons de_int (dc_cons (de_op op_pow o_I de_int de_int) dc_nil)))) (da_cons (de_cl rfl c__law_none hr hgd (by decide) rfl (dc_st (i := 2) rfl (.inl rfl) (dc_cons de_int (dc_cons (de_op op_pow o_I de_int de_int) dc_nil)))) da_nil))) (dg_tup (n := 2) rfl rfl (dgs_cons (dg_name (i := 12) nd rfl (.inr rfl)) (dgs_cons (dg_name (i := 13) nd rfl (.inr rfl)) dgs_nil))))
          (dss_cons (ds_if (PW.pt (dw_or (dt_cmp (op_neD hr.units) o_ne (de_word (fam_law c_is_prime c_parts_of _ _ _ _ _ _ _ _ rfl rfl rfl) c__law_word hr hgd (by decide) (by decide) rfl (de_lam (st := s_law) (i := 0) rfl tb_law.tab hcode hm_law hu_law rfl (lamS_by (sc := defScope s_law) (scope := (lamP s_law 0).2.2) (by decide +kernel)))) de_str (nomark _)) (dw_or1 (dt_cmp op_notBl o_notB (de_cln rfl c_is_prime hr hgd (by decide) rfl (dc_cons de_int dc_nil)) de_bl (nomark _)))))
            (dss_one (ds_ret de_bl))
            dss_nil)
          (dss_one (ds_if (dt_cmp (op_neD hr.units) o_ne (de_word (fam_law c_is_prime c_parts_of _ _ _ _ _ _ _ _ rfl rfl rfl) c__law_word hr hgd (by decide) (by decide) rfl (de_lam (st := s_law) (i := 1) rfl tb_law.tab hcode hm_law hu_law rfl (lamS_by (sc := defScope s_law) (scope := (lamP s_law 1).2.2) (by decide +kernel)))) de_str (nomark _))
            (dss_one (ds_ret de_bl))
            dss_nil)))))))))))))
      (dss_one (ds_ret (de_and (de_cmp (op_eqD hr.units) o_eq (de_cln rfl c_parts_of hr hgd (by decide) rfl (dc_cons de_int dc_nil)) (de_tup (da_cons (de_tup (da_cons de_int (da_cons de_int da_nil))) (da_cons (de_tup (da_cons de_int (da_cons de_int da_nil))) (da_cons (de_tup (da_cons de_int (da_cons de_int da_nil))) da_nil)))) (nomark _)) (de_one (de_cmp (op_eqD hr.units) o_eq (de_cln rfl c_parts_of hr hgd (by decide) rfl (dc_cons de_int dc_nil)) (de_tup da_nil) (nomark _))))))), ?_⟩
  walk_at "dd"
  refine ⟨(lawBnd hlen).1, (lawBnd hlen).2, ?_⟩
  obtain ⟨Pv, hP⟩ : ∃ Pv : Nat → List Sl → Prop, Pv = fun _ es => ∃ o1 o2 o3 o4 o5 o6 o7 o8 o9 o10 o11 o12 o13 : Sl, es = [.val (.scr ns), o1, o2, o3, o4, o5, o6, o7, o8, o9, o10, o11, o12, o13] := ⟨_, rfl⟩
  have mk : ∀ (i : Nat) (o1 o2 o3 o4 o5 o6 o7 o8 o9 o10 o11 o12 o13 : Sl), Pv i [.val (.scr ns), o1, o2, o3, o4, o5, o6, o7, o8, o9, o10, o11, o12, o13] := fun i o1 o2 o3 o4 o5 o6 o7 o8 o9 o10 o11 o12 o13 => by rw [hP]; exact ⟨o1, o2, o3, o4, o5, o6, o7, o8, o9, o10, o11, o12, o13, rfl⟩
  refine dFor_P Pv (mk 0 _ _ _ _ _ _ _ _ _ _ _ _ _) (fun i d es hd h => ?_) (fun es h => ?_)
  rotate_left
  · rw [hP] at h
    obtain ⟨o1, o2, o3, o4, o5, o6, o7, o8, o9, o10, o11, o12, o13, rfl⟩ := h
    walk_at "dd"
    refine dPartsOfOk (n := 360) (by decide) (by decide) fun l hl => ?_
    have e : l = [(2, 3), (3, 2), (5, 1)] := hl.uniq parts_360
    subst e
    refine ⟨ok_parts (l := [(2, 3), (3, 2), (5, 1)]) (by decide), ok_parts (l := [(2, 3), (3, 2), (5, 1)]) (by decide), iteT' (by decide +kernel) ?_⟩
    refine dPartsOfOk (n := 1) (by decide) (by decide) fun l hl => ?_
    have e : l = [] := hl.uniq Parts.one
    subst e
    exact ⟨ok_parts (l := []) (by decide), ok_parts (l := []) (by decide), by decide +kernel⟩
  obtain ⟨_, rfl⟩ := rng_get hd
  rw [hP] at h
  obtain ⟨o1, o2, o3, o4, o5, o6, o7, o8, o9, o10, o11, o12, o13, rfl⟩ := h
  clear hd
  walk_at "dd"
  refine ⟨Int.natCast_nonneg i, ?_⟩
  refine ⟨31013, pr_31013, by decide, by decide, fun p pp pl => ⟨967, pr_967, by decide, by decide, fun s sp sl r r0 r1 => ?_⟩⟩
  refine atI_mem r0 r1 fun d hd => ?_
  obtain ⟨m, rfl, m0, T, tp, mt, tt⟩ : ∃ m : Int, d = .int m ∧ 0 < m ∧ ∃ T : Nat, Pr T ∧ m + 1 ≤ T ∧ T ≤ 31013 := by
    simp only [List.mem_cons, List.not_mem_nil, or_false] at hd
    rcases hd with rfl | rfl | rfl
    · exact ⟨_, rfl, by decide, 11, pr_11, by decide, by decide⟩
    · exact ⟨_, rfl, by decide, 1009, pr_1009, by decide, by decide⟩
    · exact ⟨_, rfl, by decide, 31013, pr_31013, by decide, by decide⟩
  walk_at "dd"
  refine ⟨m0, T, tp, mt, by omega, fun o op ol g g0 g1 => ?_⟩
  have b1 : p * p ≤ 31013 * 31013 := Nat.mul_le_mul pl pl
  have b2 : p * o ≤ 31013 * 31013 := Nat.mul_le_mul pl (by omega)
  have b3 : s * s ≤ 967 * 967 := Nat.mul_le_mul sl sl
  have b4 : s * s * s ≤ 967 * 967 * 967 := Nat.mul_le_mul b3 sl
  have e1 : (s : Int) * s = ((s * s : Nat) : Int) := by push_cast; rfl
  have e2 : (p : Int) * p = ((p * p : Nat) : Int) := by push_cast; rfl
  have e3 : (p : Int) * o = ((p * o : Nat) : Int) := by push_cast; rfl
  have e4 : ((s * s : Nat) : Int) * s = ((s * s * s : Nat) : Int) := by push_cast; rfl
  rw [e1, e2, e3, e4]
  refine ⟨mulN (by omega) (by omega), mulN (by omega) (by omega), mulN (by omega) (by omega), mulN (by omega) (by omega), fun c c0 c1 => ⟨by omega, by omega, ?_⟩⟩
  obtain ⟨Pv2, hP2⟩ : ∃ Pv2 : Nat → List Sl → Prop, Pv2 = fun _ es => ∃ (M : Nat) (o1 o2 o3 o4 o5 o6 o7 o8 o9 o10 o11 o12 o13 : Sl), 1 ≤ M ∧ M ≤ 10 ^ 9 ∧ es = [.val (.scr ns), .val (.int i), .stt, .val (.int p), .val (.int s), .val (.int o), .val (.lst [Dv.int (1 + g), Dv.int p, Dv.int (p * p : Nat), Dv.int (p * o : Nat), Dv.int (s * s * s : Nat), Dv.int 1, Dv.int 2, Dv.int 4, Dv.int 9]), .val (.int M), o8, o9, o10, o11, o12, o13] := ⟨_, rfl⟩
  refine dFor_P Pv2 (by rw [hP2]; exact ⟨1, .any, .any, .any, .any, .any, .any, .any, _, _, _, _, _, _, by decide, by decide, rfl⟩) (fun j d es hd h => ?_) (fun es h => ?_)
  · rw [hP2] at h
    obtain ⟨M, o1, o2, o3, o4, o5, o6, o7, o8, o9, o10, o11, o12, o13, M1, M2, rfl⟩ := h
    obtain ⟨_, rfl⟩ := rng_get hd
    walk_at "dd"
    intro r r0 r1
    refine atI_mem r0 r1 fun d hd => ?_
    obtain ⟨m, rfl, m0, T, tp, mt, tt⟩ : ∃ m : Int, d = .int m ∧ 0 < m ∧ ∃ T : Nat, Pr T ∧ m + 1 ≤ T ∧ T ≤ 31013 := by
      simp only [List.mem_cons, List.not_mem_nil, or_false] at hd
      rcases hd with rfl | rfl | rfl
      · exact ⟨_, rfl, by decide, 5, pr_5, by decide, by decide⟩
      · exact ⟨_, rfl, by decide, 13, pr_13, by decide, by decide⟩
      · exact ⟨_, rfl, by decide, 101, pr_101, by decide, by decide⟩
    refine ⟨m, rfl, m0, T, tp, mt, by omega, fun x xp xl => ⟨mulN (by omega) (by omega), decB (fun h => ⟨mulN (by omega) (by omega), ?_⟩) (fun _ => ?_)⟩⟩
    · have e : (M : Int) * x = ((M * x : Nat) : Int) := by push_cast; rfl
      rw [e] at h ⊢
      rw [hP2]
      exact ⟨M * x, .any, .any, .any, .any, .any, .any, .any, _, _, _, _, _, _, Nat.mul_pos M1 (by have := xp.1; omega), by omega, rfl⟩
    · rw [hP2]
      exact ⟨M, .any, .any, .any, .any, .any, .any, .any, _, _, _, _, _, _, M1, M2, rfl⟩
  · rw [hP2] at h
    obtain ⟨M, o1, o2, o3, o4, o5, o6, o7, o8, o9, o10, o11, o12, o13, M1, M2, rfl⟩ := h
    walk_at "dd"
    intro r r0 r1
    obtain ⟨Pv3, hP3⟩ : ∃ Pv3 : Nat → List Sl → Prop, Pv3 = fun _ es => ∃ u v : Sl, es = [.val (.scr ns), .val (.int i), .stt, .val (.int p), .val (.int s), .val (.int o), .val (.lst [Dv.int (1 + g), Dv.int p, Dv.int (p * p : Nat), Dv.int (p * o : Nat), Dv.int (s * s * s : Nat), Dv.int 1, Dv.int 2, Dv.int 4, Dv.int 9]), .val (.int M), o8, o9, u, v, o12, o13] := ⟨_, rfl⟩
    refine dFor_P Pv3 (by rw [hP3]; exact ⟨_, _, rfl⟩) (fun j d es hd h => ?_) (fun es h => ?_)
    · rw [hP3] at h
      obtain ⟨u, v, rfl⟩ := h
      have hm := List.mem_of_getElem? hd
      have p1 := pp.1
      have s1 := sp.1
      have o1' := op.1
      have c1 : 1 ≤ p * p := Nat.mul_pos (by omega) (by omega)
      have c2 : 1 ≤ p * o := Nat.mul_pos (by omega) (by omega)
      have c3 : 1 ≤ s * s * s := Nat.mul_pos (Nat.mul_pos (by omega) (by omega)) (by omega)
      obtain ⟨q, rfl, qa, qb⟩ : ∃ q : Nat, d = .int q ∧ 1 ≤ q ∧ q ≤ 10 ^ 10 := by
        simp only [List.mem_cons, List.not_mem_nil, or_false] at hm
        rcases hm with rfl | rfl | rfl | rfl | rfl | rfl | rfl | rfl | rfl | rfl | rfl | rfl
        · exact ⟨(1 + g).toNat, by rw [Int.toNat_of_nonneg (by omega)], by omega, by omega⟩
        · exact ⟨p, rfl, by omega, by omega⟩
        · exact ⟨_, rfl, c1, by omega⟩
        · exact ⟨_, rfl, c2, by omega⟩
        · exact ⟨_, rfl, c3, by omega⟩
        · exact ⟨1, rfl, by decide, by decide⟩
        · exact ⟨2, rfl, by decide, by decide⟩
        · exact ⟨4, rfl, by decide, by decide⟩
        · exact ⟨9, rfl, by decide, by decide⟩
        · exact ⟨M, rfl, by omega, by omega⟩
        · exact ⟨(1000000000 - r).toNat, by rw [Int.toNat_of_nonneg (by omega)], by omega, by omega⟩
        · exact ⟨1000000000, rfl, by decide, by decide⟩
      walk_at "dd"
      refine decB (fun hq => ?_) (fun hq => by rw [hP3]; exact ⟨_, _, rfl⟩)
      refine ⟨q, rfl, by omega, by omega, fun l hl => ?_⟩
      have len := hl.len (k := 110) (by omega)
      refine dPartsOfOk qa (by omega) fun l' hl' => ?_
      obtain rfl := hl.uniq hl'
      refine ⟨rfl, gd_parts (by omega), by have := dep_parts l; omega, ?_⟩
      refine dIsPrimeOk (by omega) fun b hb => ⟨ok_partsW (by omega), gd_ok (d := partsW [(q, 1)]) (gd_partsW (by show 1 ≤ _; decide)) (by show 2 ≤ _; decide), ?_, rfl, by show 0 < 6; decide, ?_⟩
      · have e : deqs (l.map pairV) [Dv.tup [Dv.int q, Dv.int 1]] = decide (l = [(q, 1)]) := deqs_pairs l [(q, 1)]
        rw [e]
        congr 1
        have := hl.is_prime
        cases b with
        | true => exact decide_eq_true (this.mp (hb.mp rfl))
        | false => exact decide_eq_false fun z => Bool.noConfusion (hb.mpr (this.mpr z))
      · rw [hP3]
        exact ⟨_, _, rfl⟩
    · rw [hP3] at h
      obtain ⟨u, v, rfl⟩ := h
      walk_at "dd"
      intro fa p1 f1 no p2 f2
      have nn : erW K er (.pl "NoNumber") "number" := ⟨0, _, rfl, by decide, w_NoNumber, rfl⟩
      simp only [lm_law_0]
      walk_at "dd"
      refine dIsPrimeBad p1 f1 ⟨_, nn, by decide +kernel, by decide +kernel, iteF' (by decide +kernel) ?_⟩
      refine dIsPrimeOk (n := 0) (by decide) fun b hb => ?_
      have : b = false := by
        cases b with
        | false => rfl
        | true => have := (hb.mp rfl).1; omega
      subst this
      refine ⟨_, rfl, iteF' rfl ?_⟩
      simp only [lm_law_1]
      walk_at "dd"
      exact dPartsOfBad p2 f2 ⟨_, nn, by decide +kernel, by decide +kernel, iteF' (by decide +kernel) (mk _ _ _ _ _ _ _ _ _ _ _ _ _ _)⟩
end
theorem all_mk {l : PySem.W.OpenLaw} {w : World} {K : PySem.W.Frag} {h : Heap} {mg : Str → Option Value} {fa : Addr} (X : K.In h) (G : h.Ns mainGlobals mg) (hfa : mg "law" = some (.ref fa))
    {f0 : Addr} {od0 an0 : Option Addr} {sl0 : Array (Option Value)} {oc0 kV0 dc0 pm0 cd0 ct0 : Value}
    (a0 : PySem.W.nsIn K mainGlobals "is_whole" = some (some (.ref f0))) (l0 : K.lookup f0 = some ⟨oc0, od0, .func (PySem.W.fnOf "is_whole" "is_whole" (defArgs s_is_whole) (defBody s_is_whole) (defScope s_is_whole) .none kV0 dc0 pm0 an0 cd0 ct0), sl0⟩) (c0 : PySem.W.codeIn K cd0 "is_whole" = true) (k0 : PySem.W.keepIn K (.ref f0) = true)
    {f1 : Addr} {od1 an1 : Option Addr} {sl1 : Array (Option Value)} {oc1 kV1 dc1 pm1 cd1 ct1 : Value}
    (a1 : PySem.W.nsIn K mainGlobals "is_between" = some (some (.ref f1))) (l1 : K.lookup f1 = some ⟨oc1, od1, .func (PySem.W.fnOf "is_between" "is_between" (defArgs s_is_between) (defBody s_is_between) (defScope s_is_between) .none kV1 dc1 pm1 an1 cd1 ct1), sl1⟩) (c1 : PySem.W.codeIn K cd1 "is_between" = true) (k1 : PySem.W.keepIn K (.ref f1) = true)
    {f2 : Addr} {od2 an2 : Option Addr} {sl2 : Array (Option Value)} {oc2 kV2 dc2 pm2 cd2 ct2 : Value}
    (a2 : PySem.W.nsIn K mainGlobals "need_between" = some (some (.ref f2))) (l2 : K.lookup f2 = some ⟨oc2, od2, .func (PySem.W.fnOf "need_between" "need_between" (defArgs s_need_between) (defBody s_need_between) (defScope s_need_between) .none kV2 dc2 pm2 an2 cd2 ct2), sl2⟩) (c2 : PySem.W.codeIn K cd2 "need_between" = true) (k2 : PySem.W.keepIn K (.ref f2) = true)
    {f3 : Addr} {od3 an3 : Option Addr} {sl3 : Array (Option Value)} {oc3 kV3 dc3 pm3 cd3 ct3 : Value}
    (a3 : PySem.W.nsIn K mainGlobals "prime_parts" = some (some (.ref f3))) (l3 : K.lookup f3 = some ⟨oc3, od3, .func (PySem.W.fnOf "prime_parts" "prime_parts" (defArgs s_prime_parts) (defBody s_prime_parts) (defScope s_prime_parts) .none kV3 dc3 pm3 an3 cd3 ct3), sl3⟩) (c3 : PySem.W.codeIn K cd3 "prime_parts" = true) (k3 : PySem.W.keepIn K (.ref f3) = true)
    {f4 : Addr} {od4 an4 : Option Addr} {sl4 : Array (Option Value)} {oc4 kV4 dc4 pm4 cd4 ct4 : Value}
    (a4 : PySem.W.nsIn K mainGlobals "is_told_prime" = some (some (.ref f4))) (l4 : K.lookup f4 = some ⟨oc4, od4, .func (PySem.W.fnOf "is_told_prime" "is_told_prime" (defArgs s_is_told_prime) (defBody s_is_told_prime) (defScope s_is_told_prime) .none kV4 dc4 pm4 an4 cd4 ct4), sl4⟩) (c4 : PySem.W.codeIn K cd4 "is_told_prime" = true) (k4 : PySem.W.keepIn K (.ref f4) = true)
    {f5 : Addr} {od5 an5 : Option Addr} {sl5 : Array (Option Value)} {oc5 kV5 dc5 pm5 cd5 ct5 : Value}
    (a5 : PySem.W.nsIn K mainGlobals "is_prime" = some (some (.ref f5))) (l5 : K.lookup f5 = some ⟨oc5, od5, .func (PySem.W.fnOf "is_prime" "is_prime" (defArgs s_is_prime) (defBody s_is_prime) (defScope s_is_prime) .none kV5 dc5 pm5 an5 cd5 ct5), sl5⟩) (c5 : PySem.W.codeIn K cd5 "is_prime" = true) (k5 : PySem.W.keepIn K (.ref f5) = true)
    {f6 : Addr} {od6 an6 : Option Addr} {sl6 : Array (Option Value)} {oc6 kV6 dc6 pm6 cd6 ct6 : Value}
    (a6 : PySem.W.nsIn K mainGlobals "parts_of" = some (some (.ref f6))) (l6 : K.lookup f6 = some ⟨oc6, od6, .func (PySem.W.fnOf "parts_of" "parts_of" (defArgs s_parts_of) (defBody s_parts_of) (defScope s_parts_of) .none kV6 dc6 pm6 an6 cd6 ct6), sl6⟩) (c6 : PySem.W.codeIn K cd6 "parts_of" = true) (k6 : PySem.W.keepIn K (.ref f6) = true)
    {f7 : Addr} {od7 an7 : Option Addr} {sl7 : Array (Option Value)} {oc7 kV7 dc7 pm7 cd7 ct7 : Value}
    (a7 : PySem.W.nsIn K mainGlobals "_law_cell_at" = some (some (.ref f7))) (l7 : K.lookup f7 = some ⟨oc7, od7, .func (PySem.W.fnOf "_law_cell_at" "_law_cell_at" (defArgs s__law_cell_at) (defBody s__law_cell_at) (defScope s__law_cell_at) .none kV7 dc7 pm7 an7 cd7 ct7), sl7⟩) (c7 : PySem.W.codeIn K cd7 "_law_cell_at" = true) (k7 : PySem.W.keepIn K (.ref f7) = true)
    {f8 : Addr} {od8 an8 : Option Addr} {sl8 : Array (Option Value)} {oc8 kV8 dc8 pm8 cd8 ct8 : Value}
    (a8 : PySem.W.nsIn K mainGlobals "_law_state" = some (some (.ref f8))) (l8 : K.lookup f8 = some ⟨oc8, od8, .func (PySem.W.fnOf "_law_state" "_law_state" (defArgs s__law_state) (defBody s__law_state) (defScope s__law_state) .none kV8 dc8 pm8 an8 cd8 ct8), sl8⟩) (c8 : PySem.W.codeIn K cd8 "_law_state" = true) (k8 : PySem.W.keepIn K (.ref f8) = true)
    {f9 : Addr} {od9 an9 : Option Addr} {sl9 : Array (Option Value)} {oc9 kV9 dc9 pm9 cd9 ct9 : Value}
    (a9 : PySem.W.nsIn K mainGlobals "_law_take" = some (some (.ref f9))) (l9 : K.lookup f9 = some ⟨oc9, od9, .func (PySem.W.fnOf "_law_take" "_law_take" (defArgs s__law_take) (defBody s__law_take) (defScope s__law_take) .none kV9 dc9 pm9 an9 cd9 ct9), sl9⟩) (c9 : PySem.W.codeIn K cd9 "_law_take" = true) (k9 : PySem.W.keepIn K (.ref f9) = true)
    {f10 : Addr} {od10 an10 : Option Addr} {sl10 : Array (Option Value)} {oc10 kV10 dc10 pm10 cd10 ct10 : Value}
    (a10 : PySem.W.nsIn K mainGlobals "_law_same" = some (some (.ref f10))) (l10 : K.lookup f10 = some ⟨oc10, od10, .func (PySem.W.fnOf "_law_same" "_law_same" (defArgs s__law_same) (defBody s__law_same) (defScope s__law_same) .none kV10 dc10 pm10 an10 cd10 ct10), sl10⟩) (c10 : PySem.W.codeIn K cd10 "_law_same" = true) (k10 : PySem.W.keepIn K (.ref f10) = true)
    {f11 : Addr} {od11 an11 : Option Addr} {sl11 : Array (Option Value)} {oc11 kV11 dc11 pm11 cd11 ct11 : Value}
    (a11 : PySem.W.nsIn K mainGlobals "_law_word" = some (some (.ref f11))) (l11 : K.lookup f11 = some ⟨oc11, od11, .func (PySem.W.fnOf "_law_word" "_law_word" (defArgs s__law_word) (defBody s__law_word) (defScope s__law_word) .none kV11 dc11 pm11 an11 cd11 ct11), sl11⟩) (c11 : PySem.W.codeIn K cd11 "_law_word" = true) (k11 : PySem.W.keepIn K (.ref f11) = true)
    {f12 : Addr} {od12 an12 : Option Addr} {sl12 : Array (Option Value)} {oc12 kV12 dc12 pm12 cd12 ct12 : Value}
    (a12 : PySem.W.nsIn K mainGlobals "_law_none" = some (some (.ref f12))) (l12 : K.lookup f12 = some ⟨oc12, od12, .func (PySem.W.fnOf "_law_none" "_law_none" (defArgs s__law_none) (defBody s__law_none) (defScope s__law_none) .none kV12 dc12 pm12 an12 cd12 ct12), sl12⟩) (c12 : PySem.W.codeIn K cd12 "_law_none" = true) (k12 : PySem.W.keepIn K (.ref f12) = true)
    {f13 : Addr} {od13 an13 : Option Addr} {sl13 : Array (Option Value)} {oc13 kV13 dc13 pm13 cd13 ct13 : Value}
    (a13 : PySem.W.nsIn K mainGlobals "_law_parts" = some (some (.ref f13))) (l13 : K.lookup f13 = some ⟨oc13, od13, .func (PySem.W.fnOf "_law_parts" "_law_parts" (defArgs s__law_parts) (defBody s__law_parts) (defScope s__law_parts) .none kV13 dc13 pm13 an13 cd13 ct13), sl13⟩) (c13 : PySem.W.codeIn K cd13 "_law_parts" = true) (k13 : PySem.W.keepIn K (.ref f13) = true)
    {f14 : Addr} {od14 an14 : Option Addr} {sl14 : Array (Option Value)} {oc14 kV14 dc14 pm14 cd14 ct14 : Value}
    (a14 : PySem.W.nsIn K mainGlobals "_law_is_prime" = some (some (.ref f14))) (l14 : K.lookup f14 = some ⟨oc14, od14, .func (PySem.W.fnOf "_law_is_prime" "_law_is_prime" (defArgs s__law_is_prime) (defBody s__law_is_prime) (defScope s__law_is_prime) .none kV14 dc14 pm14 an14 cd14 ct14), sl14⟩) (c14 : PySem.W.codeIn K cd14 "_law_is_prime" = true) (k14 : PySem.W.keepIn K (.ref f14) = true)
    {f15 : Addr} {od15 an15 : Option Addr} {sl15 : Array (Option Value)} {oc15 kV15 dc15 pm15 cd15 ct15 : Value}
    (a15 : PySem.W.nsIn K mainGlobals "_law_prime" = some (some (.ref f15))) (l15 : K.lookup f15 = some ⟨oc15, od15, .func (PySem.W.fnOf "_law_prime" "_law_prime" (defArgs s__law_prime) (defBody s__law_prime) (defScope s__law_prime) .none kV15 dc15 pm15 an15 cd15 ct15), sl15⟩) (c15 : PySem.W.codeIn K cd15 "_law_prime" = true) (k15 : PySem.W.keepIn K (.ref f15) = true)
    {f16 : Addr} {od16 an16 : Option Addr} {sl16 : Array (Option Value)} {oc16 kV16 dc16 pm16 cd16 ct16 : Value}
    (a16 : PySem.W.nsIn K mainGlobals "law" = some (some (.ref f16))) (l16 : K.lookup f16 = some ⟨oc16, od16, .func (PySem.W.fnOf "law" "law" (defArgs s_law) (defBody s_law) (defScope s_law) .none kV16 dc16 pm16 an16 cd16 ct16), sl16⟩) (c16 : PySem.W.codeIn K cd16 "law" = true) (k16 : PySem.W.keepIn K (.ref f16) = true)
    (z_ValueError : PySem.W.nsIn K mainGlobals "ValueError" = some none)    (z_all : PySem.W.nsIn K mainGlobals "all" = some none)    (z_bool : PySem.W.nsIn K mainGlobals "bool" = some none)    (z_int : PySem.W.nsIn K mainGlobals "int" = some none)    (z_isinstance : PySem.W.nsIn K mainGlobals "isinstance" = some none)    (z_len : PySem.W.nsIn K mainGlobals "len" = some none)    (z_list : PySem.W.nsIn K mainGlobals "list" = some none)    (z_max : PySem.W.nsIn K mainGlobals "max" = some none)    (z_min : PySem.W.nsIn K mainGlobals "min" = some none)    (z_range : PySem.W.nsIn K mainGlobals "range" = some none)    (z_str : PySem.W.nsIn K mainGlobals "str" = some none)    (z_tuple : PySem.W.nsIn K mainGlobals "tuple" = some none)    (z_zip : PySem.W.nsIn K mainGlobals "zip" = some none)    {t_MOST_TRIED : Tok} (m_MOST_TRIED : PySem.W.nsIn K mainGlobals "MOST_TRIED" = some (some (.int 1000000000 t_MOST_TRIED)))    {C_NoNumber : Addr} (eg_NoNumber : PySem.W.nsIn K mainGlobals "NoNumber" = some (some (.ref C_NoNumber))) (ek_NoNumber : PySem.W.keepIn K (.ref C_NoNumber) = true) (eq_NoNumber : PySem.W.excIn K C_NoNumber [.type "ValueError", .type "Exception", .type "BaseException", .type "object"] "ValueError.__new__" = true) (eb_NoNumber : PySem.W.subIn K (.ref C_NoNumber) (.type "BaseException") = some true) (et_NoNumber : PySem.W.typeIn K (.ref C_NoNumber) = some (.type "type"))
    {C_NoBases : Addr} (eg_NoBases : PySem.W.nsIn K mainGlobals "NoBases" = some (some (.ref C_NoBases)))
    {C_NoDeed : Addr} (eg_NoDeed : PySem.W.nsIn K mainGlobals "NoDeed" = some (some (.ref C_NoDeed)))
    {C_NoLine : Addr} (eg_NoLine : PySem.W.nsIn K mainGlobals "NoLine" = some (some (.ref C_NoLine)))
    {C_NoName : Addr} (eg_NoName : PySem.W.nsIn K mainGlobals "NoName" = some (some (.ref C_NoName)))
    {C_NoPair : Addr} (eg_NoPair : PySem.W.nsIn K mainGlobals "NoPair" = some (some (.ref C_NoPair)))
    {C_NoPaper : Addr} (eg_NoPaper : PySem.W.nsIn K mainGlobals "NoPaper" = some (some (.ref C_NoPaper)))
    {C_NoPrime : Addr} (eg_NoPrime : PySem.W.nsIn K mainGlobals "NoPrime" = some (some (.ref C_NoPrime)))
    {C_NoText : Addr} (eg_NoText : PySem.W.nsIn K mainGlobals "NoText" = some (some (.ref C_NoText)))
    {C_PrimeError : Addr} (eg_PrimeError : PySem.W.nsIn K mainGlobals "PrimeError" = some (some (.ref C_PrimeError)))
    {C_TooGreat : Addr} (eg_TooGreat : PySem.W.nsIn K mainGlobals "TooGreat" = some (some (.ref C_TooGreat)))
    (ec_NoNumber : ExcC K C_NoNumber) (em_NoNumber : PySem.W.exmOne K (.ref C_NoNumber) (.ref C_PrimeError) = some true) (ev_NoNumber : PySem.W.kitOne K (.ref C_NoNumber) (.type "ValueError") = some true) (ej_NoNumber_NoNumber : PySem.W.kitOne K (.ref C_NoNumber) (.ref C_NoNumber) = some true) (ej_NoNumber_NoPrime : PySem.W.kitOne K (.ref C_NoNumber) (.ref C_NoPrime) = some false) (ej_NoNumber_NoPair : PySem.W.kitOne K (.ref C_NoNumber) (.ref C_NoPair) = some false) (ej_NoNumber_NoPaper : PySem.W.kitOne K (.ref C_NoNumber) (.ref C_NoPaper) = some false) (ej_NoNumber_NoBases : PySem.W.kitOne K (.ref C_NoNumber) (.ref C_NoBases) = some false) (ej_NoNumber_NoText : PySem.W.kitOne K (.ref C_NoNumber) (.ref C_NoText) = some false) (ej_NoNumber_NoLine : PySem.W.kitOne K (.ref C_NoNumber) (.ref C_NoLine) = some false) (ej_NoNumber_NoName : PySem.W.kitOne K (.ref C_NoNumber) (.ref C_NoName) = some false) (ej_NoNumber_NoDeed : PySem.W.kitOne K (.ref C_NoNumber) (.ref C_NoDeed) = some false) (ej_NoNumber_TooGreat : PySem.W.kitOne K (.ref C_NoNumber) (.ref C_TooGreat) = some false)
    {cc_law pp_law : Addr} {oq_law : Value} {dq_law : Option Addr} {vq_law : Array Value} {sq_law : Array (Option Value)} (tc_law : cd16 = .ref cc_law) (ti_law : K.lookup cc_law = some ⟨oq_law, dq_law, .fields vq_law, sq_law⟩) (tv_law : (vq_law[11]? : Option Value) = some (.ref pp_law)) (th_law : PySem.W.codeHdIn K cc_law pp_law = true) (tn_law : K.lookup pp_law = none) (te_law : h.get? pp_law = some tabO)
 :
    ∃ (fd : FuncData) (cs : List (Addr × Addr)) (sp : Sp), (∀ p ∈ cs, h.get? p.2 = some tabO) ∧ (∀ p ∈ cs, K.lookup p.2 = none) ∧ (∀ p ∈ cs, PySem.W.CodeHd h p.1 p.2) ∧ (∀ (s : Shared) (v : Value), BindsTo s fd ⟨[v], []⟩ [("_law_script", v)]) ∧ (∀ (H : Hp) (a : Addr) (ns : List Int), ns.length ≤ 63 → (∀ p ∈ cs, H p.2 = some (.tbl #[])) → SqL K H a (ns.map V.int) → sp [.ref a] H (fun v _ => v = .bl true) fun _ _ _ => False) ∧ ∀ base : Heap, K.In base → base.Ns mainGlobals mg → (∀ p ∈ cs, TabB base mg p.1 p.2) → FnG l.prog w K mg base CX0 7 fa fd ["_law_script"] sp := by
  have e := hfa.symm.trans (PySem.W.mg_of X G a16)
  cases e
  have F0 := fun_mk (st := s_is_whole) l0 c0 k0
  have b0 := F0.binds (ps := ["thing"]) fun _ _ _ _ _ _ us hl => match us, hl with | [_], _ => rfl
  have F1 := fun_mk (st := s_is_between) l1 c1 k1
  have b1 := F1.binds (ps := ["thing", "low", "high"]) fun _ _ _ _ _ _ us hl => match us, hl with | [_, _, _], _ => rfl
  have F2 := fun_mk (st := s_need_between) l2 c2 k2
  have b2 := F2.binds (ps := ["thing", "low", "high"]) fun _ _ _ _ _ _ us hl => match us, hl with | [_, _, _], _ => rfl
  have F3 := fun_mk (st := s_prime_parts) l3 c3 k3
  have b3 := F3.binds (ps := ["number"]) fun _ _ _ _ _ _ us hl => match us, hl with | [_], _ => rfl
  have F4 := fun_mk (st := s_is_told_prime) l4 c4 k4
  have b4 := F4.binds (ps := ["number"]) fun _ _ _ _ _ _ us hl => match us, hl with | [_], _ => rfl
  have F5 := fun_mk (st := s_is_prime) l5 c5 k5
  have b5 := F5.binds (ps := ["number"]) fun _ _ _ _ _ _ us hl => match us, hl with | [_], _ => rfl
  have F6 := fun_mk (st := s_parts_of) l6 c6 k6
  have b6 := F6.binds (ps := ["number"]) fun _ _ _ _ _ _ us hl => match us, hl with | [_], _ => rfl
  have F7 := fun_mk (st := s__law_cell_at) l7 c7 k7
  have b7 := F7.binds (ps := ["_law_script", "_law_k"]) fun _ _ _ _ _ _ us hl => match us, hl with | [_, _], _ => rfl
  have F8 := fun_mk (st := s__law_state) l8 c8 k8
  have b8 := F8.binds (ps := ["_law_script", "_law_k"]) fun _ _ _ _ _ _ us hl => match us, hl with | [_, _], _ => rfl
  have F9 := fun_mk (st := s__law_take) l9 c9 k9
  have b9 := F9.binds (ps := ["_law_state_here", "_law_many"]) fun _ _ _ _ _ _ us hl => match us, hl with | [_, _], _ => rfl
  have F10 := fun_mk (st := s__law_same) l10 c10 k10
  have b10 := F10.binds (ps := ["_law_found", "_law_due"]) fun _ _ _ _ _ _ us hl => match us, hl with | [_, _], _ => rfl
  have F11 := fun_mk (st := s__law_word) l11 c11 k11
  have b11 := F11.binds (ps := ["_law_call"]) fun _ _ _ _ _ _ us hl => match us, hl with | [_], _ => rfl
  have F12 := fun_mk (st := s__law_none) l12 c12 k12
  have b12 := F12.binds (ps := ["_law_state_here", "_law_low", "_law_high"]) fun _ _ _ _ _ _ us hl => match us, hl with | [_, _, _], _ => rfl
  have F13 := fun_mk (st := s__law_parts) l13 c13 k13
  have b13 := F13.binds (ps := ["_law_number"]) fun _ _ _ _ _ _ us hl => match us, hl with | [_], _ => rfl
  have F14 := fun_mk (st := s__law_is_prime) l14 c14 k14
  have b14 := F14.binds (ps := ["_law_number"]) fun _ _ _ _ _ _ us hl => match us, hl with | [_], _ => rfl
  have F15 := fun_mk (st := s__law_prime) l15 c15 k15
  have b15 := F15.binds (ps := ["_law_state_here", "_law_most"]) fun _ _ _ _ _ _ us hl => match us, hl with | [_, _], _ => rfl
  have F16 := fun_mk (st := s_law) l16 c16 k16
  obtain ⟨er, her⟩ : ∃ er : String → Addr, er = (fun x => if x = "TooGreat" then C_TooGreat else (fun x => if x = "PrimeError" then C_PrimeError else (fun x => if x = "NoText" then C_NoText else (fun x => if x = "NoPrime" then C_NoPrime else (fun x => if x = "NoPaper" then C_NoPaper else (fun x => if x = "NoPair" then C_NoPair else (fun x => if x = "NoName" then C_NoName else (fun x => if x = "NoLine" then C_NoLine else (fun x => if x = "NoDeed" then C_NoDeed else (fun x => if x = "NoBases" then C_NoBases else (fun x => if x = "NoNumber" then C_NoNumber else (fun _ => 0) x) x) x) x) x) x) x) x) x) x) x) := ⟨_, rfl⟩
  have q_NoNumber : er "NoNumber" = C_NoNumber := by rw [her]; simp
  have x_NoNumber : EC K mg "NoNumber" (er "NoNumber") := by rw [q_NoNumber]; exact ⟨PySem.W.mg_of X G eg_NoNumber, ek_NoNumber, eq_NoNumber, eb_NoNumber, et_NoNumber⟩
  have q_NoBases : er "NoBases" = C_NoBases := by rw [her]; simp
  have q_NoDeed : er "NoDeed" = C_NoDeed := by rw [her]; simp
  have q_NoLine : er "NoLine" = C_NoLine := by rw [her]; simp
  have q_NoName : er "NoName" = C_NoName := by rw [her]; simp
  have q_NoPair : er "NoPair" = C_NoPair := by rw [her]; simp
  have q_NoPaper : er "NoPaper" = C_NoPaper := by rw [her]; simp
  have q_NoPrime : er "NoPrime" = C_NoPrime := by rw [her]; simp
  have q_NoText : er "NoText" = C_NoText := by rw [her]; simp
  have q_PrimeError : er "PrimeError" = C_PrimeError := by rw [her]; simp
  have q_TooGreat : er "TooGreat" = C_TooGreat := by rw [her]; simp
  have v_NoNumber : mg "NoNumber" = some (.ref (er "NoNumber")) := by rw [q_NoNumber]; exact PySem.W.mg_of X G eg_NoNumber
  have v_NoBases : mg "NoBases" = some (.ref (er "NoBases")) := by rw [q_NoBases]; exact PySem.W.mg_of X G eg_NoBases
  have v_NoDeed : mg "NoDeed" = some (.ref (er "NoDeed")) := by rw [q_NoDeed]; exact PySem.W.mg_of X G eg_NoDeed
  have v_NoLine : mg "NoLine" = some (.ref (er "NoLine")) := by rw [q_NoLine]; exact PySem.W.mg_of X G eg_NoLine
  have v_NoName : mg "NoName" = some (.ref (er "NoName")) := by rw [q_NoName]; exact PySem.W.mg_of X G eg_NoName
  have v_NoPair : mg "NoPair" = some (.ref (er "NoPair")) := by rw [q_NoPair]; exact PySem.W.mg_of X G eg_NoPair
  have v_NoPaper : mg "NoPaper" = some (.ref (er "NoPaper")) := by rw [q_NoPaper]; exact PySem.W.mg_of X G eg_NoPaper
  have v_NoPrime : mg "NoPrime" = some (.ref (er "NoPrime")) := by rw [q_NoPrime]; exact PySem.W.mg_of X G eg_NoPrime
  have v_NoText : mg "NoText" = some (.ref (er "NoText")) := by rw [q_NoText]; exact PySem.W.mg_of X G eg_NoText
  have v_PrimeError : mg "PrimeError" = some (.ref (er "PrimeError")) := by rw [q_PrimeError]; exact PySem.W.mg_of X G eg_PrimeError
  have v_TooGreat : mg "TooGreat" = some (.ref (er "TooGreat")) := by rw [q_TooGreat]; exact PySem.W.mg_of X G eg_TooGreat
  have y_ValueError := PySem.W.mg_none_of X G z_ValueError
  have y_all := PySem.W.mg_none_of X G z_all
  have y_bool := PySem.W.mg_none_of X G z_bool
  have y_int := PySem.W.mg_none_of X G z_int
  have y_isinstance := PySem.W.mg_none_of X G z_isinstance
  have y_len := PySem.W.mg_none_of X G z_len
  have y_list := PySem.W.mg_none_of X G z_list
  have y_max := PySem.W.mg_none_of X G z_max
  have y_min := PySem.W.mg_none_of X G z_min
  have y_range := PySem.W.mg_none_of X G z_range
  have y_str := PySem.W.mg_none_of X G z_str
  have y_tuple := PySem.W.mg_none_of X G z_tuple
  have y_zip := PySem.W.mg_none_of X G z_zip
  have n_MOST_TRIED := PySem.W.mg_of X G m_MOST_TRIED
  have w_NoNumber : Kits K er 0 "NoNumber" := by
    refine ⟨rfl, by rw [q_NoNumber]; exact ec_NoNumber, fun j n hj => ?_, by rw [q_NoNumber]; exact ev_NoNumber, by rw [q_NoNumber, q_PrimeError]; exact em_NoNumber⟩
    have hjl := (List.getElem?_eq_some_iff.mp hj).1
    have hj10 : j < 10 := hjl
    have hj2 : j = 0 ∨ j = 1 ∨ j = 2 ∨ j = 3 ∨ j = 4 ∨ j = 5 ∨ j = 6 ∨ j = 7 ∨ j = 8 ∨ j = 9 := by omega
    rcases hj2 with rfl | rfl | rfl | rfl | rfl | rfl | rfl | rfl | rfl | rfl
    · cases hj; rw [q_NoNumber]; exact ej_NoNumber_NoNumber
    · cases hj; rw [q_NoNumber, q_NoPrime]; exact ej_NoNumber_NoPrime
    · cases hj; rw [q_NoNumber, q_NoPair]; exact ej_NoNumber_NoPair
    · cases hj; rw [q_NoNumber, q_NoPaper]; exact ej_NoNumber_NoPaper
    · cases hj; rw [q_NoNumber, q_NoBases]; exact ej_NoNumber_NoBases
    · cases hj; rw [q_NoNumber, q_NoText]; exact ej_NoNumber_NoText
    · cases hj; rw [q_NoNumber, q_NoLine]; exact ej_NoNumber_NoLine
    · cases hj; rw [q_NoNumber, q_NoName]; exact ej_NoNumber_NoName
    · cases hj; rw [q_NoNumber, q_NoDeed]; exact ej_NoNumber_NoDeed
    · cases hj; rw [q_NoNumber, q_TooGreat]; exact ej_NoNumber_TooGreat
  obtain ⟨Tt, hTt⟩ : ∃ Tt : List (Addr × Str), Tt = [(pp_law, lq "law")] := ⟨_, rfl⟩
  have hm_law : (pp_law, lq "law") ∈ Tt := by rw [hTt]; simp
  have hu_law : ∀ p ∈ Tt, p.1 = pp_law → p.2 = lq "law" := by
    rw [hTt]
    intro p hp hq
    simp only [List.mem_cons, List.not_mem_nil, or_false] at hp
    rcases hp with rfl
    · rfl
  refine ⟨PySem.W.fnOf "law" "law" (defArgs s_law) (defBody s_law) (defScope s_law) .none kV16 dc16 pm16 an16 cd16 ct16, [(cc_law, pp_law)], spLawT K Tt, (by
      intro p hp
      simp only [List.mem_cons, List.not_mem_nil, or_false] at hp
      rcases hp with rfl
      · exact te_law), (by
      intro p hp
      simp only [List.mem_cons, List.not_mem_nil, or_false] at hp
      rcases hp with rfl
      · exact tn_law), (by
      intro p hp
      simp only [List.mem_cons, List.not_mem_nil, or_false] at hp
      rcases hp with rfl
      · exact PySem.W.codeHd_of_K X th_law), fun s v => .of_eq rfl, fun H a ns hl hT hS => ⟨a, ns, rfl, hS, hl, ?_, fun _ => rfl⟩, fun base hbk hbn hTB => ?_⟩
  · rw [hTt]
    intro p hp
    simp only [List.mem_cons, List.not_mem_nil, or_false] at hp
    rcases hp with rfl
    · exact TabS.nil (hT (cc_law, pp_law) (by simp))
  have tb_law : TabD base mg (PySem.W.fnOf "law" "law" (defArgs s_law) (defBody s_law) (defScope s_law) .none kV16 dc16 pm16 an16 cd16 ct16) cc_law pp_law := ⟨tc_law, hTB (cc_law, pp_law) (by simp)⟩
  have g0 := Cl.mk' F0 (PySem.W.mg_of X G a0) b0 (ok_is_whole (P := l.prog) (w := w) (base := base) (er := er) (Tt := Tt) F0 y_bool y_int y_isinstance)
  have g1 := Cl.mk' F1 (PySem.W.mg_of X G a1) b1 (ok_is_between (P := l.prog) (w := w) (base := base) (er := er) (Tt := Tt) F1 g0)
  have g2 := Cl.mk' F2 (PySem.W.mg_of X G a2) b2 (ok_need_between (P := l.prog) (w := w) (base := base) (er := er) (Tt := Tt) F2 g1 x_NoNumber)
  have g3 := Cl.mk' F3 (PySem.W.mg_of X G a3) b3 (ok_prime_parts (P := l.prog) (w := w) (base := base) (er := er) (Tt := Tt) F3 y_tuple)
  have g4 := Cl.mk' F4 (PySem.W.mg_of X G a4) b4 (ok_is_told_prime (P := l.prog) (w := w) (base := base) (er := er) (Tt := Tt) F4 g3)
  have g5 := Cl.mk' F5 (PySem.W.mg_of X G a5) b5 (ok_is_prime (P := l.prog) (w := w) (base := base) (er := er) (Tt := Tt) F5 g2 g4 n_MOST_TRIED)
  have g6 := Cl.mk' F6 (PySem.W.mg_of X G a6) b6 (ok_parts_of (P := l.prog) (w := w) (base := base) (er := er) (Tt := Tt) F6 g2 g3 n_MOST_TRIED)
  have g7 := Cl.mk' F7 (PySem.W.mg_of X G a7) b7 (ok__law_cell_at (P := l.prog) (w := w) (base := base) F7 y_len)
  have g8 := Cl.mk' F8 (PySem.W.mg_of X G a8) b8 (ok__law_state (P := l.prog) (w := w) (base := base) F8 g7)
  have g9 := Cl.mk' F9 (PySem.W.mg_of X G a9) b9 (ok__law_take (P := l.prog) (w := w) (base := base) F9 )
  have dg9 := g9.imp (take_data (K := K) (er := er) (T := Tt))
  have g10 := cl__law_same (P := l.prog) (w := w) (base := base) (er := er) (Tt := Tt) F10 (PySem.W.mg_of X G a10) b10 y_all y_bool y_isinstance y_len y_list y_tuple y_zip
  have g11 := ClG.mk' F11 (PySem.W.mg_of X G a11) b11 sc__law_word rfl (Or.inl rfl) rfl rfl (gv__law_word (P := l.prog) (w := w) (base := base) (f := f11) y_ValueError y_isinstance v_NoBases v_NoDeed v_NoLine v_NoName v_NoNumber v_NoPair v_NoPaper v_NoPrime v_NoText v_PrimeError v_TooGreat)
  have g12 := Cl.mk' F12 (PySem.W.mg_of X G a12) b12 (ok__law_none (P := l.prog) (w := w) (base := base) (er := er) (Tt := Tt) F12 dg9 y_str)
  have g13 := Cl.mk' F13 (PySem.W.mg_of X G a13) b13 (ok__law_parts (P := l.prog) (w := w) (base := base) (er := er) (Tt := Tt) F13 )
  have g14 := Cl.mk' F14 (PySem.W.mg_of X G a14) b14 (ok__law_is_prime (P := l.prog) (w := w) (base := base) (er := er) (Tt := Tt) F14 g13)
  have g15 := Cl.mk' F15 (PySem.W.mg_of X G a15) b15 (ok__law_prime (P := l.prog) (w := w) (base := base) (er := er) (Tt := Tt) F15 dg9 g14)
  exact ok_law F16 tb_law hm_law hu_law g5 g6 g8 dg9 g10 g11 g12 g13 g15 y_len y_max y_min y_range y_tuple w_NoNumber
end My
open PySem PySem.W PyProof.Rows
set_option maxRecDepth 100000 in
set_option maxHeartbeats 0 in
theorem PySem.Challenge.cw_primepapers_k03_primes_and_parts_holds : PySem.Challenge.rw_primepapers_k03_primes_and_parts.Holds := by
  w_on; o_law; k_head; (case hw => w_witness2)
  k_fill
  refine My.walk_ofGT (l := PySem.Challenge.rw_primepapers_k03_primes_and_parts) (n := 63) (k := 7) (x := "_law_script") rfl (by decide) rfl ⟨rfl, by decide, by decide⟩ (fun w h Y => PySem.W.km_in_of Y) ?F
  case F =>
    intro w mg fa h Y KX G hmg
    refine' My.all_mk KX G hmg ?a0 ?l0 ?c0 ?k0 ?a1 ?l1 ?c1 ?k1 ?a2 ?l2 ?c2 ?k2 ?a3 ?l3 ?c3 ?k3 ?a4 ?l4 ?c4 ?k4 ?a5 ?l5 ?c5 ?k5 ?a6 ?l6 ?c6 ?k6 ?a7 ?l7 ?c7 ?k7 ?a8 ?l8 ?c8 ?k8 ?a9 ?l9 ?c9 ?k9 ?a10 ?l10 ?c10 ?k10 ?a11 ?l11 ?c11 ?k11 ?a12 ?l12 ?c12 ?k12 ?a13 ?l13 ?c13 ?k13 ?a14 ?l14 ?c14 ?k14 ?a15 ?l15 ?c15 ?k15 ?a16 ?l16 ?c16 ?k16 ?z_ValueError ?z_all ?z_bool ?z_int ?z_isinstance ?z_len ?z_list ?z_max ?z_min ?z_range ?z_str ?z_tuple ?z_zip ?m_MOST_TRIED ?eg_NoNumber ?ek_NoNumber ?eq_NoNumber ?eb_NoNumber ?et_NoNumber ?eg_NoBases ?eg_NoDeed ?eg_NoLine ?eg_NoName ?eg_NoPair ?eg_NoPaper ?eg_NoPrime ?eg_NoText ?eg_PrimeError ?eg_TooGreat ?ec_NoNumber ?em_NoNumber ?ev_NoNumber ?ej_NoNumber_NoNumber ?ej_NoNumber_NoPrime ?ej_NoNumber_NoPair ?ej_NoNumber_NoPaper ?ej_NoNumber_NoBases ?ej_NoNumber_NoText ?ej_NoNumber_NoLine ?ej_NoNumber_NoName ?ej_NoNumber_NoDeed ?ej_NoNumber_TooGreat ?tc_law ?ti_law ?tv_law ?th_law ?tn_law ?te_law
    (case a0 => k_is)
    (case l0 => k_is)
    (case c0 => k_is)
    (case k0 => k_is)
    (case a1 => k_is)
    (case l1 => k_is)
    (case c1 => k_is)
    (case k1 => k_is)
    (case a2 => k_is)
    (case l2 => k_is)
    (case c2 => k_is)
    (case k2 => k_is)
    (case a3 => k_is)
    (case l3 => k_is)
    (case c3 => k_is)
    (case k3 => k_is)
    (case a4 => k_is)
    (case l4 => k_is)
    (case c4 => k_is)
    (case k4 => k_is)
    (case a5 => k_is)
    (case l5 => k_is)
    (case c5 => k_is)
    (case k5 => k_is)
    (case a6 => k_is)
    (case l6 => k_is)
    (case c6 => k_is)
    (case k6 => k_is)
    (case a7 => k_is)
    (case l7 => k_is)
    (case c7 => k_is)
    (case k7 => k_is)
    (case a8 => k_is)
    (case l8 => k_is)
    (case c8 => k_is)
    (case k8 => k_is)
    (case a9 => k_is)
    (case l9 => k_is)
    (case c9 => k_is)
    (case k9 => k_is)
    (case a10 => k_is)
    (case l10 => k_is)
    (case c10 => k_is)
    (case k10 => k_is)
    (case a11 => k_is)
    (case l11 => k_is)
    (case c11 => k_is)
    (case k11 => k_is)
    (case a12 => k_is)
    (case l12 => k_is)
    (case c12 => k_is)
    (case k12 => k_is)
    (case a13 => k_is)
    (case l13 => k_is)
    (case c13 => k_is)
    (case k13 => k_is)
    (case a14 => k_is)
    (case l14 => k_is)
    (case c14 => k_is)
    (case k14 => k_is)
    (case a15 => k_is)
    (case l15 => k_is)
    (case c15 => k_is)
    (case k15 => k_is)
    (case a16 => k_is)
    (case l16 => k_is)
    (case c16 => k_is)
    (case k16 => k_is)
    (case z_ValueError => k_is)
    (case z_all => k_is)
    (case z_bool => k_is)
    (case z_int => k_is)
    (case z_isinstance => k_is)
    (case z_len => k_is)
    (case z_list => k_is)
    (case z_max => k_is)
    (case z_min => k_is)
    (case z_range => k_is)
    (case z_str => k_is)
    (case z_tuple => k_is)
    (case z_zip => k_is)
    (case m_MOST_TRIED => k_is)
    (case eg_NoNumber => k_is)
    (case ek_NoNumber => k_is)
    (case eq_NoNumber => k_exc)
    (case eb_NoNumber => k_is)
    (case et_NoNumber => k_is)
    (case eg_NoBases => k_is)
    (case eg_NoDeed => k_is)
    (case eg_NoLine => k_is)
    (case eg_NoName => k_is)
    (case eg_NoPair => k_is)
    (case eg_NoPaper => k_is)
    (case eg_NoPrime => k_is)
    (case eg_NoText => k_is)
    (case eg_PrimeError => k_is)
    (case eg_TooGreat => k_is)
    (case ec_NoNumber => refine ⟨?_, ?_, ?_, ?_, ?_, ?_, ?_, ?_⟩ <;> k_is)
    (case em_NoNumber => kernel_rfl)
    (case ev_NoNumber => kernel_rfl)
    (case ej_NoNumber_NoNumber => kernel_rfl)
    (case ej_NoNumber_NoPrime => kernel_rfl)
    (case ej_NoNumber_NoPair => kernel_rfl)
    (case ej_NoNumber_NoPaper => kernel_rfl)
    (case ej_NoNumber_NoBases => kernel_rfl)
    (case ej_NoNumber_NoText => kernel_rfl)
    (case ej_NoNumber_NoLine => kernel_rfl)
    (case ej_NoNumber_NoName => kernel_rfl)
    (case ej_NoNumber_NoDeed => kernel_rfl)
    (case ej_NoNumber_TooGreat => kernel_rfl)
    (case tc_law => rfl)
    (case ti_law => k_is)
    (case tv_law => rfl)
    (case th_law => kernel_rfl)
    (case tn_law => kernel_rfl)
    (case te_law => exact PySem.W.km_tabs_of Y _ (by k_mem))
