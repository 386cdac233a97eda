import PyProof.Rows.All
import Wide.All
import OpenK.AllK
import Wide.FinOn
import KE.KStateDown
import Lean
import HandS.ForMost
import HandS.More
import HandS.WordsExc
import HandS.Defaults
import HandS.IsInst
import HandS.DeepEq
import HandS.Finally
import HandS.Head0
import HandS.Head1
import HandS.Head2
import HandS.HeadEnd
import HandS.HeadHook1
import HandS.HeadHook2
import KE.KEqNest
import KE.KDictPairs
import HandS.DictComp
import HandS.TupAny
import PySem.Challenge.RW_tracefold_k06_what_is_known
set_option Elab.async false
set_option linter.all false
set_option maxRecDepth 100000
namespace Hx
open PySem PySem.Spec PyProof.Rows L2 He
/-! the head's facts with one check more -/
def obsX (fa : List Fa) (fn : List DefD) (ex : PySem.W.Frag → Bool) (K : PySem.W.Frag) : AlD := (((fa.all fun f => f.ok K) && fn.all fun d => d.ok K) && ex K, fn.map fun d => fnW K d.at_)
def SaysX (fa : List Fa) (fn : List DefD) (ex : PySem.W.Frag → Bool) (K : PySem.W.Frag) : Prop := obsX fa fn ex K = valD fn
def obsXG (n : Nat) (fa : List Fa) (fn : List DefD) (ex : PySem.W.Frag → Bool) (g : Addr → Option Obj) : AlD := obsX fa fn ex (frG g (asD g n))
def hookX (n : Nat) (fa : List Fa) (fn : List DefD) (ex : PySem.W.Frag → Bool) : PySem.W.Hook where
  α := AlD
  obs := fun s => obsXG n fa fn ex s.heap.get?
  val := fun _ => valD fn
  says := fun _ h => ∃ K : PySem.W.Frag, K.In h ∧ SaysX fa fn ex K
  of := fun _ _ e => ⟨_, frG_in, e⟩
  keeps := fun _ _ _ ⟨K, hK, c⟩ k => ⟨K, PySem.W.Frag.In.keeps hK k, c⟩
theorem obsXG_eq {n : Nat} {fa : List Fa} {fn : List DefD} {ex : PySem.W.Frag → Bool} {g : Addr → Option Obj} {s : Shared} (h : ∀ a, g a = s.heap.get? a) : obsXG n fa fn ex g = (hookX n fa fn ex).obs s := by
  have e : g = s.heap.get? := funext h
  rw [e] <;> rfl
section
variable {fa : List Fa} {fn : List DefD} {ex : PySem.W.Frag → Bool} {K : PySem.W.Frag}
theorem SaysX.d (c : SaysX fa fn ex K) : SaysD fa fn K := by
  have c1 : (((fa.all fun f => f.ok K) && fn.all fun d => d.ok K) && ex K) = true := congrArg (fun z : AlD => z.1) c
  have e : fn.map (fun d => fnW K d.at_) = fn.map DefD.val := congrArg (fun z : AlD => z.2) c
  show (((fa.all fun f => f.ok K) && fn.all fun d => d.ok K), fn.map fun d => fnW K d.at_) = (true, fn.map DefD.val)
  rw [(ba c1).1, e]
theorem SaysX.exOk (c : SaysX fa fn ex K) : ex K = true := by
  have c1 : (((fa.all fun f => f.ok K) && fn.all fun d => d.ok K) && ex K) = true := congrArg (fun z : AlD => z.1) c
  exact (ba c1).2
end
end Hx

set_option Elab.async false
set_option linter.all false
set_option maxRecDepth 100000
set_option maxHeartbeats 4000000
namespace PySem.SeqAt
open AutoSeq1 (wpAny_loadPart')
open MeetsSeq MeetsSeq2 MeetsSeq3 SeqRoads2
/-- != of two tuples whose places are equal -/
theorem tfNeTup {prog : Program} {w : World} (p q : Addr) (us ws : Array Value) (n1 n2 : Nat) (d1 d2 : Option Addr) (z1 z2 : Array (Option Value)) (hsz : us.size = ws.size) :
    MeetsIn prog w (Builtin.«tuple.__ne__» ⟨[.ref p, .ref q], []⟩) (fun A R s => s.heap.get? p = some { cls := .type "tuple", dict := d1, data := .seq us n1, slots := z1 } ∧ s.heap.get? q = some { cls := .type "tuple", dict := d2, data := .seq ws n2, slots := z2 } ∧
      (∀ j (h1 : j < us.size) (h2 : j < ws.size), EqIn prog w A.in1 s us[j] ws[j] true) ∧ R (.ok (.ret (.bool false))) s) :=
  .of_wp fun A R s h => by
    obtain ⟨hp, g, d, tk, os⟩ := s
    obtain ⟨hl, hb, he, hR⟩ := h
    have fT := AutoSeq1.sub_tuple_tuple
    have hZ : (us.toList.zip ws.toList).length = us.size := by rw [List.length_zip, Array.length_toList, Array.length_toList, ← hsz, Nat.min_self]
    wp_walk using wpAny_loadPart' hl, wpAny_loadPart' hb, wpAny_forIn_list _ (fun rest b s' => b.1 = none ∧ s' = ⟨hp, g, d, tk, os⟩ ∧ ∃ i, rest = (us.toList.zip ws.toList).drop i) _
    case turn =>
      rintro ⟨y, x⟩ rest b s' ⟨hb', rfl, i, hz⟩
      have hlt : i < (us.toList.zip ws.toList).length := Nat.lt_of_not_le fun h' => by
        rw [List.drop_of_length_le h'] at hz
        cases hz
      have h1 : i < us.size := hZ ▸ hlt
      have h2 : i < ws.size := hsz ▸ h1
      rw [List.drop_eq_getElem_cons hlt] at hz
      injection hz with hyx hrest
      have hy : y = us[i] := by simpa using congrArg Prod.fst hyx
      have hx : x = ws[i] := by simpa using congrArg Prod.snd hyx
      rw [hy, hx]
      refine wpAny_bind (he i h1 h2 _ _ ?_)
      wp_walk
      exact ⟨rfl, rfl, i + 1, hrest⟩
    case fin =>
      rintro ⟨b1, b2⟩ s' ⟨hb', rfl, i, hz⟩
      simp only at hb'
      subst hb'
      wp_walk
      exact ⟨_, rfl, by simpa [Builtin.Tuple.tupleCompareSizes, hsz] using hR⟩
    case h =>
      exact ⟨rfl, rfl, 0, rfl⟩
theorem tfNeTups {prog : Program} {w : World} {A : Around} {s : Shared} {E : Value → Shared → Prop} {l b : Addr} {us ws : Array Value} {Q : Value → Shared → Prop} (hl : s.heap.IsTuple l us) (hb : s.heap.IsTuple b ws) (hsz : us.size = ws.size) (hu : A.units < cLine)
    (he : ∀ j (h1 : j < us.size) (h2 : j < ws.size), EqIn prog w A.in1 s us[j] ws[j] true) (h : Q (.bool false) s) : wpAny (model prog w) A (richCompare .NotEq (.ref l) (.ref b)) Q E s := by
  obtain ⟨⟨c1, d1, t1, z1⟩, ho, hc, n1, hd⟩ := id hl
  obtain ⟨⟨c2, d2, t2, z2⟩, ho2, hc2, n2, hd2⟩ := id hb
  cases (show c1 = _ from hc)
  cases (show c2 = _ from hc2)
  cases (show t1 = _ from hd)
  cases (show t2 = _ from hd2)
  exact wpAny_richCompare_same_room (T := "tuple") (op := .NotEq) ⟨_, ho, rfl⟩ ⟨_, ho2, rfl⟩ F.slot_tuple_ne (call_meetsIn F.slot_tuple_ne ⟨_, ho, rfl⟩ F.entry_tuple_ne (F.args_tuple_ne_2 _ _) (tfNeTup l b us ws n1 n2 d1 d2 z1 z2 hsz) ⟨ho, ho2, he, show Value.bool false ≠ Value.notImplemented ∧ Q (.bool false) s from ⟨(fun x => nomatch x), h⟩⟩) hu
end PySem.SeqAt
namespace Tf
open PySem L2
/-! ## heaps: a new object, an object written -/
structure New (H : Hp) (p : Addr) (o : HO) (H2 : Hp) : Prop where
  fr : H p = none
  sm : Same H H2
  at_ : H2 p = some o
  el : ∀ b, b ≠ p → H2 b = H b
structure Wr (H : Hp) (a : Addr) (o : HO) (H2 : Hp) : Prop where
  at_ : H2 a = some o
  el : ∀ b, b ≠ a → H2 b = H b
theorem new_upd {H : Hp} {p : Addr} {o : HO} (h : H p = none) : New H p o (upd H p o) := ⟨h, fun b u e => by rw [upd_ne (ne_of_none e h)]; exact e, upd_same, fun b n => upd_ne n⟩
theorem wr_upd {H : Hp} {p : Addr} {o : HO} : Wr H p o (upd H p o) := ⟨upd_same, fun b n => upd_ne n⟩
def mE (t : TE) : TE := fun σ H Q => ∃ Q0 : VK, t σ H Q0 ∧ ∀ v H', Q0 v H' → Q v H'
def mA (t : TA) : TA := fun σ H Q => ∃ Q0 : List V → Hp → Prop, t σ H Q0 ∧ ∀ v H', Q0 v H' → Q v H'
section
variable {X : Cx} {e : Expr} {es : List Expr}
theorem pe_m {t : TE} (h : PE X e t) : PE X e (mE t) := ⟨fun pins s σ H Q I ⟨Q0, a, b⟩ => thn (h.run pins s σ H Q0 I a) fun u s1 ⟨v, H', I', r, q⟩ => ⟨v, H', I', r, b _ _ q⟩⟩
theorem pa_m {t : TA} (h : PA X es t) : PA X es (mA t) := ⟨fun pos pins s σ H Q I ⟨Q0, a, b⟩ => thn (h.run pos pins s σ H Q0 I a) fun u s1 ⟨v, H', I', r, q⟩ => ⟨v, H', I', r, b _ _ q⟩⟩
theorem pe_imp {t t' : TE} (h : PE X e t) (i : ∀ σ H Q, t' σ H Q → t σ H Q) : PE X e t' := ⟨fun pins s σ H Q I q => h.run pins s σ H Q I (i _ _ _ q)⟩
theorem ps_imp {st : Stmt} {t t' : TS} (h : PS X st t) (i : ∀ D σ H, t' D σ H → t D σ H) : PS X st t' := ⟨fun pins s σ H D I q => h.run pins s σ H D I (i _ _ _ q)⟩
theorem opR_imp {f : Value → Value → Sem Value} {r r' : R2} (h : OpR X f r) (i : ∀ x y H Q, r' x y H Q → r x y H Q) : OpR X f r' := fun pins s σ H x y v u Q I rx ry q => h pins s σ H x y v u Q I rx ry (i _ _ _ _ q)
theorem callR_imp {f : Value} {r r' : List V → Hp → VK → Prop} (h : CallR X f r) (i : ∀ x H Q, r' x H Q → r x H Q) : CallR X f r' := fun pins s σ H x v Q I rx q => h pins s σ H x v Q I rx (i _ _ _ q)
theorem slR_imp {r r' : V → Option Int → Option Int → Hp → VK → Prop} (h : SlR X r) (i : ∀ x l u H Q, r' x l u H Q → r x l u H Q) : SlR X r' := fun pins s σ H x v vl vu lo hi sl Q I rx hs pl pu q => h pins s σ H x v vl vu lo hi sl Q I rx hs pl pu (i _ _ _ _ _ q)
theorem mtR_imp {id : String} {r r' : V → List V → Hp → VK → Prop} (h : MtR X id r) (i : ∀ x xs H Q, r' x xs H Q → r x xs H Q) : MtR X id r' := fun pins s σ H x xs v us Q I rx ry q => h pins s σ H x xs v us Q I rx ry (i _ _ _ _ q)
theorem ixR_imp {r r' : R2} (h : IxR X r) (i : ∀ x y H Q, r' x y H Q → r x y H Q) : IxR X r' := fun value slice pins s σ H x y v u Q I rx ry q hs => h value slice pins s σ H x y v u Q I rx ry (i _ _ _ _ q) hs
end
/-! ## displays -/
def tTupN (t : TA) : TE := fun σ H Q => t σ H fun xs H1 => xs.length ≤ sizeLine ∧ ∀ p H2, New H1 p (.tup xs) H2 → Q (.ref p) H2
def tLstN (t : TA) : TE := fun σ H Q => t σ H fun xs H1 => xs.length ≤ sizeLine ∧ ∀ p H2, New H1 p (.lst xs) H2 → Q (.ref p) H2
def tDNewN : TE := fun _ H Q => ∀ p H2, New H p (.dK []) H2 → Q (.ref p) H2
def tDispN (trs : List (TE × TE)) : TE := fun σ H Q => ∀ p H0, New H p (.dK []) H0 → tPairs trs σ H0 fun ps H2 => H2 p = some (.dK []) ∧ ∃ kvs : List (Key × V), ps = kvs.map (fun kv => (kV kv.1, kv.2)) ∧ kvs.length ≤ 15 ∧ ∀ H3, Wr H2 p (.dK (mergeK [] kvs)) H3 → Q (.ref p) H3
def mP (trs : List (TE × TE)) : List (TE × TE) := trs.map fun q => (mE q.1, mE q.2)
theorem tPairs_m {Q Q' : List (V × V) → Hp → Prop} : ∀ (trs : List (TE × TE)) (σ : L2.St) (H : Hp) (pre : List (V × V)), tPairs trs σ H (fun ps H' => Q (pre ++ ps) H') → (∀ ps H', Q ps H' → Q' ps H') → tPairs (mP trs) σ H (fun ps H' => Q' (pre ++ ps) H')
  | [], σ, H, pre, h, i => i _ _ h
  | (tk, tv) :: r, σ, H, pre, h, i => by
    refine ⟨_, h, fun x H1 h1 => ⟨_, h1, fun y H2 h2 => ?_⟩⟩
    have e : (fun (ps : List (V × V)) (H' : Hp) => Q' (pre ++ ((x, y) :: ps)) H') = fun ps H' => Q' ((pre ++ [(x, y)]) ++ ps) H' := by
      funext ps H'
      rw [List.append_assoc]
      rfl
    have e2 : (fun (ps : List (V × V)) (H' : Hp) => Q (pre ++ ((x, y) :: ps)) H') = fun ps H' => Q ((pre ++ [(x, y)]) ++ ps) H' := by
      funext ps H'
      rw [List.append_assoc]
      rfl
    show tPairs (mP r) σ H2 fun ps H' => Q' (pre ++ ((x, y) :: ps)) H'
    rw [e]
    refine tPairs_m r σ H2 (pre ++ [(x, y)]) ?_ i
    have h3 : tPairs r σ H2 fun ps H' => Q (pre ++ ((x, y) :: ps)) H' := h2
    rw [e2] at h3
    exact h3
theorem tPairs_m0 {Q Q' : List (V × V) → Hp → Prop} (trs : List (TE × TE)) (σ : L2.St) (H : Hp) (h : tPairs trs σ H Q) (i : ∀ ps H', Q ps H' → Q' ps H') : tPairs (mP trs) σ H Q' := tPairs_m (Q := Q) (Q' := Q') trs σ H [] h i
section
variable {X : Cx} {es : List Expr} {pos : Pos}
theorem pe_tupN {t : TA} {x1} (h : PA X es t) : PE X (.Tuple es x1 pos) (tTupN t) := pe_imp (pe_tup (pa_m h)) fun σ H Q q => ⟨_, q, fun xs H1 ⟨a, b⟩ => ⟨a, fun p hp => b p _ (new_upd hp)⟩⟩
theorem pe_lstN {t : TA} (h : PA X es t) : PE X (.List es pos) (tLstN t) := pe_imp (pe_lst (pa_m h)) fun σ H Q q => ⟨_, q, fun xs H1 ⟨a, b⟩ => ⟨a, fun p hp => b p _ (new_upd hp)⟩⟩
theorem pe_dnewN : PE X (.Dict [] [] pos) tDNewN := pe_imp pe_dnewK fun σ H Q q p hp => q p _ (new_upd hp)
theorem pe_dispN {keys : List (Option Expr)} {values : List Expr} {trs : List (TE × TE)} (h : PPs X pos keys values (mP trs)) (hall : keys.all (·.isSome) = true) (hl : keys.length = values.length) (h0 : keys ≠ []) (h15 : keys.length ≤ 15) : PE X (.Dict keys values pos) (tDispN trs) :=
  pe_imp (pe_disp h hall hl h0 h15) fun σ H Q q p hp => by
    have h := q p _ (new_upd hp)
    refine tPairs_m0 trs σ _ h fun ps H2 h2 => ?_
    obtain ⟨a, kvs, b, c, d⟩ := h2
    exact ⟨a, kvs, b, c, d _ wr_upd⟩
end
/-! ## dicts -/
def rDG : R2 := fun x y H Q => ∃ a kvs k v, x = .ref a ∧ Rd H a (.dK kvs) ∧ y = kV k ∧ valV kvs k = some v ∧ Q v H
def tDG2 (td ty tx : TE) : TE := fun σ H Q => td σ H fun x H1 => (∃ a kvs, x = .ref a ∧ H1 a = some (.dK kvs)) ∧ ty σ H1 fun y H2 => tx σ H2 fun z H3 => ∃ a kvs k, x = .ref a ∧ H3 a = some (.dK kvs) ∧ y = kV k ∧ Q ((valV kvs k).getD z) H3
def tDP1 (td ty : TE) : TE := fun σ H Q => td σ H fun x H1 => (∃ a kvs, x = .ref a ∧ H1 a = some (.dK kvs)) ∧ ty σ H1 fun y H2 => ∃ a kvs k v, x = .ref a ∧ H2 a = some (.dK kvs) ∧ y = kV k ∧ valV kvs k = some v ∧ ∀ H3, Wr H2 a (.dK (dropK kvs k)) H3 → Q v H3
def tDP2 (td ty tx : TE) : TE := fun σ H Q => td σ H fun x H1 => (∃ a kvs, x = .ref a ∧ H1 a = some (.dK kvs)) ∧ ty σ H1 fun y H2 => tx σ H2 fun z H3 => ∃ a kvs k, x = .ref a ∧ H3 a = some (.dK kvs) ∧ y = kV k ∧
  ∀ H4, Wr H3 a (.dK (dropK kvs k)) H4 → Q ((valV kvs k).getD z) H4
def sDPutN (td ty tv : TE) : TS := fun D σ H => tv σ H fun v H1 => td σ H1 fun x H2 => ty σ H2 fun y H3 => ∃ a kvs k, x = .ref a ∧ H3 a = some (.dK kvs) ∧ y = kV k ∧ kvs.length < sizeLine ∧ ∀ H4, Wr H3 a (.dK (putK kvs k v)) H4 → D.nx σ H4
theorem isD_of {H : Hp} {a : Addr} {kvs : List (Key × V)} (h : H a = some (.dK kvs)) : IsD H a := .inl ⟨kvs, .inl h⟩
section
variable {X : Cx} {o i e f value : Expr} {pos pos' apos cpos : Pos} {td ty tx tv : TE}
theorem pe_dg2 (hu : X.A.units + 1 < cLine) (ho : PE X o td) (he : PE X e ty) (hf : PE X f tx) (m : M2 X o "get" apos e f cpos) : PE X (.Call (.Attribute o "get" apos) [e, f] [] cpos) (tDG2 td ty tx) :=
  pe_imp (pe_dget2 hu (pe_m ho) (pe_m he) (pe_m hf) m) fun σ H Q q => ⟨_, q, fun x H1 ⟨⟨a, kvs, ex, h1⟩, q1⟩ => ⟨a, ex, isD_of h1, _, q1, fun y H2 q2 => ⟨_, q2, fun z H3 ⟨a', kvs', k, ex', h3, ey, q3⟩ => by
    subst ex
    cases ex'
    subst ey
    exact ⟨_, DGet.k h3, q3⟩⟩⟩⟩
theorem pe_dp1 (ho : PE X o td) (he : PE X e ty) (m : M1 X o "pop" apos e cpos) : PE X (.Call (.Attribute o "pop" apos) [e] [] cpos) (tDP1 td ty) :=
  pe_imp (pe_dpop1 (pe_m ho) (pe_m he) m) fun σ H Q q => ⟨_, q, fun x H1 ⟨⟨a, kvs, ex, h1⟩, q1⟩ => ⟨a, ex, isD_of h1, _, q1, fun y H2 ⟨a', kvs', k, v, ex', h3, ey, ev, q3⟩ => by
    subst ex
    cases ex'
    exact ⟨kvs', k, v, h3, ey, ev, q3 _ wr_upd⟩⟩⟩
theorem pe_dp2 (ho : PE X o td) (he : PE X e ty) (hf : PE X f tx) (m : M2 X o "pop" apos e f cpos) : PE X (.Call (.Attribute o "pop" apos) [e, f] [] cpos) (tDP2 td ty tx) :=
  pe_imp (pe_dpop2 (pe_m ho) (pe_m he) (pe_m hf) m) fun σ H Q q => ⟨_, q, fun x H1 ⟨⟨a, kvs, ex, h1⟩, q1⟩ => ⟨a, ex, isD_of h1, _, q1, fun y H2 q2 => ⟨_, q2, fun z H3 ⟨a', kvs', k, ex', h3, ey, q3⟩ => by
    subst ex
    cases ex'
    refine ⟨kvs', k, h3, ey, fun v hv => ?_, fun hn => ?_⟩
    · have := q3 _ wr_upd
      rw [hv] at this
      exact this
    · have := q3 H3 ⟨by rw [dropK_no (valV_not hn)]; exact h3, fun _ _ => rfl⟩
      rw [hn] at this
      exact this⟩⟩⟩
theorem ps_dputN (hu : X.A.units + 1 < cLine) (ho : PE X o td) (hi : PE X i ty) (hv : PE X value tv) (hs : swapsWith value (some (.Subscript o i pos')) pos.line X.env = pure false) : PS X (.Assign [.Subscript o i pos'] value pos) (sDPutN td ty tv) :=
  ps_imp (ps_dput hu (pe_m ho) (pe_m hi) (pe_m hv) hs) fun D σ H q => ⟨_, q, fun v H1 q1 => ⟨_, q1, fun x H2 q2 => ⟨_, q2, fun y H3 ⟨a, kvs, k, ex, h3, ey, hl, q3⟩ => by
    subst ey
    exact ⟨a, _, ex, DPut.k h3 hl, q3 _ wr_upd⟩⟩⟩⟩
end
/-! ## rules with their ways joined -/
def rMul : R2 := fun x y H Q => rI CMul (fun i j => .int (i * j)) x y H Q ∨ ∃ z n, x = .str z ∧ y = .int n ∧ 0 ≤ n ∧ n ≤ 1000 ∧ z.length ≤ 1000 ∧ Q (.str ⟨(List.replicate n.toNat z.cps).foldl (· ++ ·) #[]⟩) H
def rCatL : R2 := fun x y H Q => ∃ l b xs zs, x = .ref l ∧ y = .ref b ∧ H l = some (.lst xs) ∧ H b = some (.lst zs) ∧ xs.length + zs.length ≤ sizeLine ∧ ∀ p H2, New H p (.lst (xs ++ zs)) H2 → Q (.ref p) H2
/-- t + u: a tuple of both, new or one of them -/
def rCatT2 : R2 := fun x y H Q => ∃ a b xs ys, x = .ref a ∧ y = .ref b ∧ H a = some (.tup xs) ∧ H b = some (.tup ys) ∧ xs.length + ys.length ≤ sizeLine ∧ ∀ p H2, Same H H2 → H2 p = some (.tup (xs ++ ys)) → (∀ b, b ≠ p → H2 b = H b) → Q (.ref p) H2
def rAdd (K : PySem.W.Frag) : R2 := fun x y H Q => rI0 (fun i j => .int (i + j)) x y H Q ∨ (∃ i j, x = .str i ∧ y = .str j ∧ i.length + j.length ≤ sizeLine ∧ Q (.str (i ++ j)) H) ∨ rCatL x y H Q ∨ rCatT2 x y H Q
def rSub : R2 := rI0 fun i j => .int (i - j)
def rMod : R2 := rI (fun _ j => 0 < j) fun i j => .int (i % j)
def rFdiv : R2 := rI CDiv fun i j => .int (i / j)
def rPow : R2 := rI CPow fun i j => .int (i ^ j.toNat)
def rLt : R2 := rI0 fun i j => .bl (decide (i < j))
def rLe : R2 := rI0 fun i j => .bl (decide (i ≤ j))
def rGt : R2 := rI0 fun i j => .bl (decide (j < i))
def rGe : R2 := rI0 fun i j => .bl (decide (j ≤ i))
def rIs : R2 := fun x y H Q => y = .non ∧ Q (.bl (decide (x = .non))) H
def rIsNot : R2 := fun x y H Q => y = .non ∧ Q (.bl (!decide (x = .non))) H
def rNeg : V → Hp → VK → Prop := rU fun i => .int (-i)
/-- two things that are equal, at most n deep -/
def EqR (K : PySem.W.Frag) (H : Hp) (E : V → V → Prop) (x y : V) : Prop :=
  (∃ a b xs ys, x = .ref a ∧ y = .ref b ∧ SqL K H a xs ∧ SqL K H b ys ∧ Paired E xs ys) ∨ (∃ a b xs ys, x = .ref a ∧ y = .ref b ∧ SqT K H a xs ∧ SqT K H b ys ∧ Paired E xs ys) ∨
    ∃ a b ks ls, x = .ref a ∧ y = .ref b ∧ H a = some (.dK ks) ∧ H b = some (.dK ls) ∧ ks.length = ls.length ∧ ∀ p ∈ ks, ∃ u, valV ls p.1 = some u ∧ E p.2 u
def EqW (K : PySem.W.Frag) (H : Hp) : Nat → V → V → Prop
  | 0 => fun x y => (x = y ∧ flatB x = true) ∨ (∃ a, x = .ref a ∧ y = .ref a)
  | n + 1 => fun x y => (x = y ∧ flatB x = true) ∨ (∃ a, x = .ref a ∧ y = .ref a) ∨ EqR K H (EqW K H n) x y
theorem paired_at {α β : Type} {F : α → β → Prop} : ∀ {l : List α} {r : List β}, Paired F l r → ∀ (j : Nat) (h1 : j < l.length) (h2 : j < r.length), F l[j] r[j]
  | _, _, .nil, j, h1, _ => absurd h1 (Nat.not_lt_zero j)
  | _, _, .cons a t, 0, _, _ => a
  | _, _, .cons a t, j + 1, h1, h2 => paired_at t j (Nat.lt_of_succ_lt_succ h1) (Nat.lt_of_succ_lt_succ h2)
theorem vals_at {xs : List V} {us : List Value} (r : Vals xs us) (j : Nat) (h1 : j < xs.length) (h2 : j < us.length) : RelV xs[j] us[j] := paired_at r j h1 h2
theorem rangeAll (n : Nat) : ((List.range n).all fun _ => true) = true := List.all_eq_true.mpr fun _ _ => rfl
section
variable {X : Cx} {pins : List (Addr × Obj)} {σ : St} {H : Hp} {s : Shared}
theorem eqW_leaf {n : Nat} {x y : V} {v u : Value} (h : (x = y ∧ flatB x = true) ∨ (∃ a, x = .ref a ∧ y = .ref a)) (rx : RelV x v) (ry : RelV y u) : PySem.W.EqTree X.prog X.w s n v u true := by
  rcases h with ⟨rfl, f⟩ | ⟨a, rfl, rfl⟩
  · exact .leaf fun A _ => eqAt_same rx ry f
  · cases (show v = Value.ref a from rx)
    cases (show u = Value.ref a from ry)
    exact .same
theorem tree_lists (I : Inv X pins σ H s) {n : Nat} {a b : Addr} {xs ys : List V} (ha : SqL X.K H a xs) (hb : SqL X.K H b ys) (ne : a ≠ b) (ih : ∀ (j : Nat) (h1 : j < xs.length) (h2 : j < ys.length) (v u : Value), RelV xs[j] v → RelV ys[j] u → PySem.W.EqTree X.prog X.w s n v u true) (hl : xs.length = ys.length) :
    PySem.W.EqTree X.prog X.w s (n + 1) (.ref a) (.ref b) true := by
  obtain ⟨us, r1, p1, _⟩ := I.list ha
  obtain ⟨ws, r2, p2, _⟩ := I.list hb
  have hsz : us.toArray.size = ws.toArray.size := by rw [List.size_toArray, List.size_toArray, ← r1.length, ← r2.length]; exact hl
  have t := PySem.W.EqTree.lists (prog := X.prog) (w := X.w) (s := s) (n := n) (e := fun _ => true) ne p1.isList p2.isList hsz fun j h1 h2 => by
    have q1 : j < xs.length := by rw [r1.length]; simpa using h1
    have q2 : j < ys.length := by rw [r2.length]; simpa using h2
    have k1 : j < us.length := by simpa using h1
    have k2 : j < ws.length := by simpa using h2
    have := ih j q1 q2 us[j] ws[j] (vals_at r1 j q1 k1) (vals_at r2 j q2 k2)
    simpa using this
  rw [rangeAll] at t
  exact t
theorem isTup_of {h : Heap} {a : Addr} {its : Array Value} (p : PyProof.Rows.IsTup h a its) : h.IsTuple a its := p
theorem tree_tups (I : Inv X pins σ H s) {n : Nat} {a b : Addr} {xs ys : List V} (ha : SqT X.K H a xs) (hb : SqT X.K H b ys) (ne : a ≠ b) (ih : ∀ (j : Nat) (h1 : j < xs.length) (h2 : j < ys.length) (v u : Value), RelV xs[j] v → RelV ys[j] u → PySem.W.EqTree X.prog X.w s n v u true) (hl : xs.length = ys.length) :
    PySem.W.EqTree X.prog X.w s (n + 1) (.ref a) (.ref b) true := by
  obtain ⟨us, r1, p1, _⟩ := I.tuple ha
  obtain ⟨ws, r2, p2, _⟩ := I.tuple hb
  have hsz : us.toArray.size = ws.toArray.size := by rw [List.size_toArray, List.size_toArray, ← r1.length, ← r2.length]; exact hl
  have t := PySem.W.EqTree.tuples (prog := X.prog) (w := X.w) (s := s) (n := n) (e := fun _ => true) ne (isTup_of p1) (isTup_of p2) fun j h1 h2 => by
    have q1 : j < xs.length := by rw [r1.length]; simpa using h1
    have q2 : j < ys.length := by rw [r2.length]; simpa using h2
    have k1 : j < us.length := by simpa using h1
    have k2 : j < ws.length := by simpa using h2
    have := ih j q1 q2 us[j] ws[j] (vals_at r1 j q1 k1) (vals_at r2 j q2 k2)
    simpa using this
  rw [rangeAll, hsz, beq_self_eq_true] at t
  exact t
theorem dict_mem {ks ls : List (Key × V)} {va vb : List (Key × Value)} {F : V → V → Prop} (ra : KV ks va) (rb : KV ls vb) (hp : ∀ p ∈ ks, ∃ u, valV ls p.1 = some u ∧ F p.2 u) {k : Key} {v : Value} (hm : (k, v) ∈ va) :
    ∃ x y u, F x y ∧ RelV x v ∧ valueAt vb k = some u ∧ RelV y u := by
  obtain ⟨j, hj, e⟩ := List.getElem_of_mem hm
  have hj' : j < ks.length := by rw [Paired.length ra]; exact hj
  have q := paired_at ra j hj' hj
  rw [e] at q
  obtain ⟨y, hy, f⟩ := hp _ (List.getElem_mem hj')
  have rr : RelO (some y) (valueAt vb ks[j].1) := by rw [← hy]; exact rb.val _
  obtain ⟨u, hu, ru⟩ := rr.some_of
  rw [show ks[j].1 = k from q.1] at hu
  exact ⟨_, y, u, f, q.2, hu, ru⟩
theorem tree_dicts (I : Inv X pins σ H s) {n : Nat} {a b : Addr} {ks ls : List (Key × V)} (ha : H a = some (.dK ks)) (hb : H b = some (.dK ls)) (ne : a ≠ b) {F : V → V → Prop} (ih : ∀ (x y : V) (v u : Value), F x y → RelV x v → RelV y u → PySem.W.EqTree X.prog X.w s n v u true) (hl : ks.length = ls.length)
    (hp : ∀ p ∈ ks, ∃ u, valV ls p.1 = some u ∧ F p.2 u) : PySem.W.EqTree X.prog X.w s (n + 1) (.ref a) (.ref b) true := by
  obtain ⟨_, ya, va, ra, da⟩ := (show ObjOk X.prog X.w H s.heap a (.dK ks) from I.hok a _ ha)
  obtain ⟨_, yb, vb, rb, db⟩ := (show ObjOk X.prog X.w H s.heap b (.dK ls) from I.hok b _ hb)
  have mem := fun {k : Key} {v : Value} (hm : (k, v) ∈ va) => dict_mem ra rb hp hm
  have t := PySem.W.EqTree.dicts (n := n) (e := fun _ => true) ne ya yb da db fun k v y hm hv => by
    obtain ⟨x, y', u, f, r1, e, r2⟩ := mem hm
    rw [e] at hv
    cases hv
    exact ih _ _ _ _ f r1 r2
  have e1 : (va.length == vb.length) = true := by rw [← ra.length, ← rb.length, hl]; simp
  have e2 : (va.all fun p => (valueAt vb p.1).isSome && true) = true := List.all_eq_true.mpr fun p hm => by
    obtain ⟨_, _, u, _, _, e, _⟩ := mem (k := p.1) (v := p.2) hm
    simp [e]
  rw [e1, e2] at t
  exact t
theorem eqR_tree (I : Inv X pins σ H s) {n : Nat} {F : V → V → Prop} (ih : ∀ (x y : V) (v u : Value), F x y → RelV x v → RelV y u → PySem.W.EqTree X.prog X.w s n v u true) {x y : V} {v u : Value} (h : EqR X.K H F x y) (rx : RelV x v) (ry : RelV y u) : PySem.W.EqTree X.prog X.w s (n + 1) v u true := by
  have go : ∀ {a b : Addr}, (a ≠ b → PySem.W.EqTree X.prog X.w s (n + 1) (.ref a) (.ref b) true) → x = .ref a → y = .ref b → PySem.W.EqTree X.prog X.w s (n + 1) v u true := fun {a b} k e1 e2 => by
    subst e1 e2
    cases (show v = Value.ref a from rx)
    cases (show u = Value.ref b from ry)
    by_cases e : a = b
    · subst e
      exact .same
    · exact k e
  rcases h with ⟨a, b, xs, ys, e1, e2, ha, hb, hp⟩ | ⟨a, b, xs, ys, e1, e2, ha, hb, hp⟩ | ⟨a, b, ks, ls, e1, e2, ha, hb, hl, hp⟩
  · exact go (fun ne => tree_lists I ha hb ne (fun j h1 h2 v u r1 r2 => ih _ _ _ _ (paired_at hp j h1 h2) r1 r2) (Paired.length hp)) e1 e2
  · exact go (fun ne => tree_tups I ha hb ne (fun j h1 h2 v u r1 r2 => ih _ _ _ _ (paired_at hp j h1 h2) r1 r2) (Paired.length hp)) e1 e2
  · exact go (fun ne => tree_dicts I ha hb ne ih hl hp) e1 e2
theorem eqW_tree (I : Inv X pins σ H s) : ∀ (n : Nat) (x y : V) (v u : Value), EqW X.K H n x y → RelV x v → RelV y u → PySem.W.EqTree X.prog X.w s n v u true
  | 0, x, y, v, u, h, rx, ry => eqW_leaf h rx ry
  | n + 1, x, y, v, u, h, rx, ry => by
    rcases h with h | h | h
    · exact eqW_leaf (.inl h) rx ry
    · exact eqW_leaf (.inr h) rx ry
    · exact eqR_tree I (eqW_tree I n) h rx ry
end
/-- == of two equal things -/
def rEqT (K : PySem.W.Frag) : R2 := fun x y H Q => ∃ n, n ≤ 60 ∧ EqR K H (EqW K H n) x y ∧ Q (.bl true) H
theorem op_eqT {X : Cx} (hu : X.A.units + 64 < cLine) : OpR X (compareOp .Eq) (rEqT X.K) := by
  intro pins s σ H x y v u Q I rx ry h
  obtain ⟨n, hn, h, q⟩ := h
  have hq : EP X pins σ Q (.bool true) s := ⟨.bl true, H, I, rfl, q⟩
  have ih := eqW_tree I n
  rcases h with ⟨a, b, xs, ys, rfl, rfl, ha, hb, hp⟩ | ⟨a, b, xs, ys, rfl, rfl, ha, hb, hp⟩ | ⟨a, b, ks, ls, rfl, rfl, ha, hb, hl, hp⟩
  · cases (show v = Value.ref a from rx)
    cases (show u = Value.ref b from ry)
    obtain ⟨us, r1, p1, _⟩ := I.list ha
    obtain ⟨ws, r2, p2, _⟩ := I.list hb
    have hl := Paired.length hp
    have hsz : us.toArray.size = ws.toArray.size := by rw [List.size_toArray, List.size_toArray, ← r1.length, ← r2.length]; exact hl
    refine PySem.W.eq_listsT (n := n) (e := fun _ => true) p1.isList p2.isList hsz (fun j h1 h2 => ?_) (by omega) (by rw [rangeAll]; exact hq)
    have q1 : j < xs.length := by rw [r1.length]; simpa using h1
    have q2 : j < ys.length := by rw [r2.length]; simpa using h2
    have k1 : j < us.length := by simpa using h1
    have k2 : j < ws.length := by simpa using h2
    have := ih _ _ us[j] ws[j] (paired_at hp j q1 q2) (vals_at r1 j q1 k1) (vals_at r2 j q2 k2)
    simpa using this
  · cases (show v = Value.ref a from rx)
    cases (show u = Value.ref b from ry)
    obtain ⟨us, r1, p1, _⟩ := I.tuple ha
    obtain ⟨ws, r2, p2, _⟩ := I.tuple hb
    have hl := Paired.length hp
    have hsz : us.toArray.size = ws.toArray.size := by rw [List.size_toArray, List.size_toArray, ← r1.length, ← r2.length]; exact hl
    refine PySem.W.eq_tuplesT (n := n) (e := fun _ => true) (isTup_of p1) (isTup_of p2) (fun j h1 h2 => ?_) (by omega) (by rw [rangeAll, hsz, beq_self_eq_true]; exact hq)
    have q1 : j < xs.length := by rw [r1.length]; simpa using h1
    have q2 : j < ys.length := by rw [r2.length]; simpa using h2
    have k1 : j < us.length := by simpa using h1
    have k2 : j < ws.length := by simpa using h2
    have := ih _ _ us[j] ws[j] (paired_at hp j q1 q2) (vals_at r1 j q1 k1) (vals_at r2 j q2 k2)
    simpa using this
  · cases (show v = Value.ref a from rx)
    cases (show u = Value.ref b from ry)
    obtain ⟨_, ya, va, ra, da⟩ := (show ObjOk X.prog X.w H s.heap a (.dK ks) from I.hok a _ ha)
    obtain ⟨_, yb, vb, rb, db⟩ := (show ObjOk X.prog X.w H s.heap b (.dK ls) from I.hok b _ hb)
    have mem := fun {k : Key} {v : Value} (hm : (k, v) ∈ va) => dict_mem ra rb hp hm
    have e1 : (va.length == vb.length) = true := by rw [← ra.length, ← rb.length, hl]; simp
    have e2 : (va.all fun p => (valueAt vb p.1).isSome && true) = true := List.all_eq_true.mpr fun p hm => by
      obtain ⟨_, _, u, _, _, e, _⟩ := mem (k := p.1) (v := p.2) hm
      simp [e]
    refine PySem.W.eq_dictsT (n := n) (e := fun _ => true) ya yb da db (fun k v y hm hv => ?_) (by omega) (by rw [e1, e2]; exact hq)
    obtain ⟨x, y', u, f, r1, e, r2⟩ := mem hm
    rw [e] at hv
    cases hv
    exact ih _ _ _ _ f r1 r2

/-! ## the joined rules hold -/
theorem str_rep (z : Str) (n : Int) (hn : n < 1) : (⟨(List.replicate n.toNat z.cps).foldl (· ++ ·) #[]⟩ : Str) = Str.empty := by
  have : n.toNat = 0 := by omega
  rw [this]; rfl
theorem str_rep1 (z : Str) : (⟨(List.replicate (1 : Int).toNat z.cps).foldl (· ++ ·) #[]⟩ : Str) = z := by
  show (⟨#[] ++ z.cps⟩ : Str) = z
  rw [Array.empty_append]
theorem str_rep0 (z : Str) (m : Nat) (h : z.length = 0) : (⟨(List.replicate m z.cps).foldl (· ++ ·) #[]⟩ : Str) = z := by
  have e : z.cps = #[] := Array.eq_empty_of_size_eq_zero h
  have : ∀ m, (List.replicate m z.cps).foldl (· ++ ·) (#[] : Array Nat) = #[] := fun m => by
    induction m with
    | zero => rfl
    | succ m ih => rw [List.replicate_succ, List.foldl_cons, e, Array.append_empty]; rw [e] at ih; exact ih
  rw [this]
  cases z
  simp only at e
  rw [e]
theorem str_rep_len (z : Str) (m : Nat) : (⟨(List.replicate m z.cps).foldl (· ++ ·) #[]⟩ : Str).length = z.length * m := by
  have : ∀ (m : Nat) (a : Array Nat), ((List.replicate m z.cps).foldl (· ++ ·) a).size = a.size + z.cps.size * m := fun m => by
    induction m with
    | zero => intro a; show a.size = a.size + z.cps.size * 0; omega
    | succ m ih => intro a; rw [List.replicate_succ, List.foldl_cons, ih, Array.size_append, Nat.mul_succ]; omega
  show ((List.replicate m z.cps).foldl (· ++ ·) #[]).size = z.cps.size * m
  rw [this]
  show 0 + _ = _
  omega
theorem op_mul_str {X : Cx} : OpR X (binaryOp .Mult) (fun x y H Q => ∃ z n, x = .str z ∧ y = .int n ∧ 0 ≤ n ∧ n ≤ 1000 ∧ z.length ≤ 1000 ∧ Q (.str ⟨(List.replicate n.toNat z.cps).foldl (· ++ ·) #[]⟩) H) := by
  intro pins s σ H x y v u Q I rx ry h
  obtain ⟨z, n, rfl, rfl, h0, h1, h2, q⟩ := h
  obtain ⟨t, rfl⟩ := rx
  obtain ⟨t', rfl⟩ := ry
  have hz : z.length * n.toNat ≤ sizeLine := by
    have : z.length * n.toNat ≤ 1000 * 1000 := Nat.mul_le_mul h2 (by omega)
    rw [sizeLine_eq]
    omega
  by_cases hn : n < 1
  · rw [str_rep z n hn] at q
    exact PySem.P.mul_str_none hn (by omega) ⟨.str _, H, I.tok _, ⟨_, rfl⟩, q⟩
  · refine PySem.P.mul_str ?_ (fun _ _ => ?_) (fun _ _ => ?_) ?_
    · have a : ¬ n < -(2 ^ 63 : Int) := by omega
      have b : ¬ n ≥ 2 ^ 63 := by omega
      rw [decide_eq_false a, decide_eq_false b]; rfl
    · have : (1000 : Int) ≤ (2 ^ 63 - 1) / n := by
        refine Int.le_ediv_of_mul_le (by omega) ?_
        omega
      omega
    · show decide (z.length * n.toNat > sizeLine) = false
      exact decide_eq_false (by omega)
    · rw [if_neg hn]
      by_cases c : (n == 1 || z.length == 0) = true
      · rw [if_pos c]
        have e : (⟨(List.replicate n.toNat z.cps).foldl (· ++ ·) #[]⟩ : Str) = z := by
          rcases Bool.or_eq_true_iff.mp c with c | c
          · rw [eq_of_beq c]; exact str_rep1 z
          · exact str_rep0 z _ (eq_of_beq c)
        rw [e] at q
        exact ⟨.str z, H, I, ⟨t, rfl⟩, q⟩
      · rw [if_neg c]
        exact ⟨by rw [str_rep_len]; exact hz, .str _, H, I.tok _, ⟨_, rfl⟩, q⟩
/-- != of two equal tuples -/
def rNeT (K : PySem.W.Frag) : R2 := fun x y H Q => ∃ n, n ≤ 60 ∧ (∃ a b xs ys, x = .ref a ∧ y = .ref b ∧ SqT K H a xs ∧ SqT K H b ys ∧ Paired (EqW K H n) xs ys) ∧ Q (.bl false) H
theorem op_neT {X : Cx} (hu : X.A.units + 64 < cLine) : OpR X (compareOp .NotEq) (rNeT X.K) := by
  intro pins s σ H x y v u Q I rx ry h
  obtain ⟨n, hn, ⟨a, b, xs, ys, rfl, rfl, ha, hb, hp⟩, q⟩ := h
  have hq : EP X pins σ Q (.bool false) s := ⟨.bl false, H, I, rfl, q⟩
  have ih := eqW_tree I n
  cases (show v = Value.ref a from rx)
  cases (show u = Value.ref b from ry)
  obtain ⟨us, r1, p1, _⟩ := I.tuple ha
  obtain ⟨ws, r2, p2, _⟩ := I.tuple hb
  have hl := Paired.length hp
  have hsz : us.toArray.size = ws.toArray.size := by rw [List.size_toArray, List.size_toArray, ← r1.length, ← r2.length]; exact hl
  refine PySem.SeqAt.tfNeTups (isTup_of p1) (isTup_of p2) hsz (by omega) (fun j h1 h2 => ?_) hq
  have q1 : j < xs.length := by rw [r1.length]; simpa using h1
  have q2 : j < ys.length := by rw [r2.length]; simpa using h2
  have k1 : j < us.length := by simpa using h1
  have k2 : j < ws.length := by simpa using h2
  have t := ih _ _ us[j] ws[j] (paired_at hp j q1 q2) (vals_at r1 j q1 k1) (vals_at r2 j q2 k2)
  have t' : PySem.W.EqTree X.prog X.w s n us.toArray[j] ws.toArray[j] true := by simpa using t
  exact t'.at X.A.in1 (by show X.A.units + 1 + n < cLine; omega)
def rEqA (K : PySem.W.Frag) : R2 := fun x y H Q => rEq x y H Q ∨ rEqD K x y H Q ∨ rEqT K x y H Q
def rNeA (K : PySem.W.Frag) : R2 := fun x y H Q => rNe x y H Q ∨ rNeD K x y H Q ∨ rNeDA x y H Q ∨ rNeT K x y H Q
def rInD : R2 := fun y x H Q => ∃ a kvs k, x = .ref a ∧ H a = some (.dK kvs) ∧ y = kV k ∧ Q (.bl (valV kvs k).isSome) H
def rNotInD : R2 := fun y x H Q => ∃ a kvs k, x = .ref a ∧ H a = some (.dK kvs) ∧ y = kV k ∧ Q (.bl (!(valV kvs k).isSome)) H
def rInS : R2 := fun x y H Q => ∃ (c : Nat) (z : Str), x = .str ⟨#[c]⟩ ∧ y = .str z ∧ Q (.bl (decide (c ∈ z.cps.toList))) H
def rNotInS : R2 := fun x y H Q => ∃ (c : Nat) (z : Str), x = .str ⟨#[c]⟩ ∧ y = .str z ∧ Q (.bl (!decide (c ∈ z.cps.toList))) H
def rInA (K : PySem.W.Frag) : R2 := fun x y H Q => rIn K false x y H Q ∨ rInD x y H Q ∨ rInS x y H Q
def rNotInA (K : PySem.W.Frag) : R2 := fun x y H Q => rIn K true x y H Q ∨ rNotInD x y H Q ∨ rNotInS x y H Q
def rIxA (K : PySem.W.Frag) : R2 := fun x y H Q => rIx K x y H Q ∨ rDG x y H Q
def rSlX (K : PySem.W.Frag) : V → Option Int → Option Int → Hp → VK → Prop := fun x lo hi H Q => (∃ a xs, x = .ref a ∧ SqL K H a xs ∧ ∀ p H2, New H p (.lst (cutV xs lo hi)) H2 → Q (.ref p) H2) ∨ ∃ a xs, x = .ref a ∧ H a = some (.tup xs) ∧ ∀ p H2, Same H H2 → H2 p = some (.tup (cutV xs lo hi)) → (∀ b, b ≠ p → H2 b = H b) → Q (.ref p) H2
section
variable {X : Cx}
theorem op_Mul : OpR X (binaryOp .Mult) rMul := OpR.or op_mul op_mul_str
theorem op_Add : OpR X (binaryOp .Add) (rAdd X.K) := OpR.or op_add (OpR.or op_add_str (OpR.or (opR_imp op_cat fun x y H Q ⟨l, b, xs, zs, e1, e2, h1, h2, hz, q⟩ => ⟨l, b, xs, zs, e1, e2, h1, h2, hz, fun p hp => q p _ (new_upd hp)⟩)
  (opR_imp op_catA fun x y H Q ⟨a, b, xs, ys, e1, e2, h1, h2, hz, q⟩ => ⟨a, b, xs, ys, e1, e2, SqT.of h1, SqT.of h2, hz, fun e => q b H (Same.refl H) (by rw [e]; exact h2) (fun _ _ => rfl), fun _ e => q a H (Same.refl H) (by rw [e, List.append_nil]; exact h1) (fun _ _ => rfl), fun _ _ p hp => q p _ (new_upd hp).sm upd_same fun b n => upd_ne n⟩)))
theorem op_EqA (hu : X.A.units + 64 < cLine) : OpR X (compareOp .Eq) (rEqA X.K) := OpR.or op_eq (OpR.or (op_eqD hu) (op_eqT hu))
theorem op_NeA (hu : X.A.units + 64 < cLine) : OpR X (compareOp .NotEq) (rNeA X.K) := OpR.or op_ne (OpR.or (op_neD hu) (OpR.or (op_ne_dictA (by omega)) (op_neT hu)))
theorem op_inD (hu : X.A.units + 64 < cLine) : OpR X (compareOp .In) rInD := by
  intro pins s σ H y x v u Q I ry rx h
  obtain ⟨a, kvs, k, rfl, g, rfl, q⟩ := h
  cases (show u = Value.ref a from rx)
  exact d_in (by omega) I (DGet.k g) ry fun s3 I3 => ⟨.bl (valV kvs k).isSome, H, I3, rfl, q⟩
theorem op_notInD (hu : X.A.units + 64 < cLine) : OpR X (compareOp .NotIn) rNotInD := by
  intro pins s σ H y x v u Q I ry rx h
  obtain ⟨a, kvs, k, rfl, g, rfl, q⟩ := h
  cases (show u = Value.ref a from rx)
  exact d_notIn (by omega) I (DGet.k g) ry fun s3 I3 => ⟨.bl (!(valV kvs k).isSome), H, I3, rfl, q⟩
theorem op_InA (hu : X.A.units + 64 < cLine) : OpR X (compareOp .In) (rInA X.K) := OpR.or op_in_seq (OpR.or (op_inD hu) op_in_sign)
theorem op_NotInA (hu : X.A.units + 64 < cLine) : OpR X (compareOp .NotIn) (rNotInA X.K) := OpR.or op_notIn_seq (OpR.or (op_notInD hu) op_notIn_sign)
theorem SlR.or {r r' : V → Option Int → Option Int → Hp → VK → Prop} (h : SlR X r) (h' : SlR X r') : SlR X (fun x l u H Q => r x l u H Q ∨ r' x l u H Q) := by
  intro pins s σ H x v vl vu lo hi sl Q I rx hs pl pu q
  rcases q with q | q
  · exact h pins s σ H x v vl vu lo hi sl Q I rx hs pl pu q
  · exact h' pins s σ H x v vl vu lo hi sl Q I rx hs pl pu q
theorem cut_whole (xs : List V) (lo hi : Option Int) (h : HT.sIx xs.length 0 lo = 0 ∧ HT.sIx xs.length xs.length hi = xs.length) : cutV xs lo hi = xs := by
  unfold cutV
  rw [h.1, h.2, List.drop_zero, Nat.sub_zero, List.take_length]
theorem sl_X : SlR X (rSlX X.K) := SlR.or (slR_imp sl_list fun x l u H Q ⟨a, xs, e, h, q⟩ => ⟨a, xs, e, h, fun p hp => q p _ (new_upd hp)⟩)
  (slR_imp sl_tupA fun x l u H Q ⟨a, xs, e, h, q⟩ => ⟨a, xs, e, SqT.of h, fun w => q a H (Same.refl H) (by rw [cut_whole _ _ _ w]; exact h) (fun _ _ => rfl), fun _ p hp => q p _ (new_upd hp).sm upd_same fun b n => upd_ne n⟩)
theorem ix_dict (hu : X.A.units + 64 < cLine) : IxR X rDG := by
  intro value slice pins s σ H x y v u Q I rx ry h hs
  obtain ⟨a, kvs, k, z, rfl, rd, rfl, ev, q⟩ := h
  cases (show v = Value.ref a from rx)
  have g : DGet H a (kV k) (some z) := .inl ⟨kvs, k, rd, rfl, ev.symm⟩
  exact PyProof.Rows.tail_any (dict_typeIs I g) PySem.F.slot_dict_getitem.lookup (d_getItem (by omega) I g ry fun w' s3 I3 rw' => ⟨z, H, I3, rw', q⟩) hs
theorem ix_A (hu : X.A.units + 64 < cLine) : IxR X (rIxA X.K) := IxR.or ix_seq (ix_dict hu)
theorem CallR.or {f : Value} {r r' : List V → Hp → VK → Prop} (h : CallR X f r) (h' : CallR X f r') : CallR X f (fun xs H Q => r xs H Q ∨ r' xs H Q) := by
  intro pins s σ H xs us Q I rx q
  rcases q with q | q
  · exact h pins s σ H xs us Q I rx q
  · exact h' pins s σ H xs us Q I rx q
def rLen (K : PySem.W.Frag) : List V → Hp → VK → Prop := fun xs H Q => (∃ x n, xs = [x] ∧ LenV K x H n ∧ Q (.int n) H) ∨ ∃ a kvs, xs = [V.ref a] ∧ H a = some (.dK kvs) ∧ Q (.int kvs.length) H
theorem c_len : CallR X (.builtin "len") (rLen X.K) := CallR.or call_len call_lenD
def rList (K : PySem.W.Frag) : List V → Hp → VK → Prop := fun xs H Q => (∃ p ys, xs = [.ref p] ∧ (SqL K H p ys ∨ SqT K H p ys) ∧ ∀ l H2, New H l (.lst ys) H2 → Q (.ref l) H2) ∨
  ∃ (a : Addr) (kvs : List (Key × V)), xs = [.ref a] ∧ Rd H a (.dK kvs) ∧ ∀ p H2, New H p (.lst (kvs.map fun kv => kV kv.1)) H2 → Q (.ref p) H2
theorem c_list (hc : X.calm = true) : CallR X (.type "list") (rList X.K) := CallR.or (callR_imp call_list_of fun xs H Q ⟨p, ys, e, h, q⟩ => ⟨p, ys, e, h, fun l hl => q l _ (new_upd hl)⟩) (callR_imp (call_listD hc) fun xs H Q ⟨p, ys, e, h, q⟩ => ⟨p, ys, e, h, fun l hl => q l _ (new_upd hl)⟩)
def rDict : List V → Hp → VK → Prop := fun xs H Q => ∃ (a : Addr) (kvs : List (Key × V)), xs = [.ref a] ∧ Rd H a (.dK kvs) ∧ ∀ p H2, New H p (.dK kvs) H2 → Q (.ref p) H2
theorem c_dict : CallR X (.type "dict") rDict := callR_imp call_dictD fun xs H Q ⟨p, ys, e, h, q⟩ => ⟨p, ys, e, h, fun l hl => q l _ (new_upd hl)⟩
def rTuple (K : PySem.W.Frag) : List V → Hp → VK → Prop := fun xs H Q => ∃ p ys, xs = [.ref p] ∧ ((SqL K H p ys ∧ ∀ l H2, New H l (.tup ys) H2 → Q (.ref l) H2) ∨ (SqT K H p ys ∧ Q (.ref p) H))
theorem c_tuple : CallR X (.type "tuple") (rTuple X.K) := callR_imp call_tuple_of fun xs H Q ⟨p, ys, e, h⟩ => ⟨p, ys, e, h.imp (fun ⟨a, q⟩ => ⟨a, fun l hl => q l _ (new_upd hl)⟩) id⟩
def rAppN : V → List V → Hp → VK → Prop := fun x vs H Q => ∃ l xs y, x = .ref l ∧ vs = [y] ∧ H l = some (.lst xs) ∧ xs.length < sizeLine ∧ ∀ H2, Wr H l (.lst (xs ++ [y])) H2 → Q .non H2
theorem mt_appN : MtR X "list.append" rAppN := mtR_imp mt_append fun x vs H Q ⟨l, xs, y, e1, e2, h, hz, q⟩ => ⟨l, xs, y, e1, e2, h, hz, q _ wr_upd⟩
def rClearN : V → List V → Hp → VK → Prop := fun x vs H Q => ∃ l xs, x = .ref l ∧ vs = [] ∧ H l = some (.lst xs) ∧ ∀ H2, Wr H l (.lst []) H2 → Q .non H2
theorem mt_clearN : MtR X "list.clear" rClearN := mtR_imp mt_clear fun x vs H Q ⟨l, xs, e1, e2, h, q⟩ => ⟨l, xs, e1, e2, h, q _ wr_upd⟩
def rDClearN : V → List V → Hp → VK → Prop := fun x vs H Q => ∃ (a : Addr) (kvs : List (Key × V)), x = .ref a ∧ vs = [] ∧ H a = some (.dK kvs) ∧ ∀ H2, Wr H a (.dK []) H2 → Q .non H2
theorem mt_dclearN : MtR X "dict.clear" rDClearN := mtR_imp mtd_clear fun x vs H Q ⟨l, xs, e1, e2, h, q⟩ => ⟨l, xs, e1, e2, h, q _ wr_upd⟩
def rInt : List V → Hp → VK → Prop := fun xs H Q => (∃ i, xs = [.int i] ∧ Q (.int i) H) ∨ ∃ k, xs = [.bl k] ∧ Q (.int (if k then 1 else 0)) H
theorem c_int : CallR X (.type "int") rInt := call_int1
def rMin2 : List V → Hp → VK → Prop := fun xs H Q => ∃ i j, xs = [.int i, .int j] ∧ Q (.int (if j < i then j else i)) H
def rMax2 : List V → Hp → VK → Prop := fun xs H Q => ∃ i j, xs = [.int i, .int j] ∧ Q (.int (if j > i then j else i)) H
theorem c_min2 (hc : X.calm = true) : CallR X (.builtin "min") rMin2 := call_min2 hc
theorem c_max2 (hc : X.calm = true) : CallR X (.builtin "max") rMax2 := call_max2 hc
def rIsX (K : PySem.W.Frag) : List V → Hp → VK → Prop := fun xs H Q => rIsi K xs H Q ∨ rIsiT K xs H Q
theorem c_isi : CallR X (.builtin "isinstance") (rIsX X.K) := CallR.or call_isi call_isiT
end
/-! ## a def by its promise -/
def OkF (P : Program) (w : World) (K : PySem.W.Frag) (mg : Str → Option Value) (base : Heap) (CX : CXT) (k : Nat) (f : Addr) (ps : List Str) (sp : Sp) : Prop :=
  ∃ fd, FnOk P w K mg base CX k f fd ps sp ∧ Binds K fd ps [] ∧ PySem.W.keepIn K (.ref f) = true
section
variable {X : Cx} {CX : CXT} {k : Nat} {f : Addr} {ps : List Str} {sp : Sp} {x : Str} {e : Expr} {es : List Expr} {t : TA} {E : XK} {p pos : Pos}
theorem pe_callO (F : OkF X.prog X.w X.K X.mg X.base CX k f ps sp) (hr : Room k X.A) (hg : Gl X x) (hm : X.mg x = some (.ref f)) (hx : Passes CX X E) (ha : PA X (e :: es) t) (hdb : (x == ("__debug__" : Str)) = false := by decide)
    (he : starEach (e :: es) X.env = (false, eval e X.env) :: starEach es X.env := by rfl) (hpl : (backTo pos (starEach es X.env)).any (·.1) = false := by rfl) : PE X (.Call (.Name x p) (e :: es) [] pos) (tCall sp [] E t) := by
  obtain ⟨fd, F, b, kp⟩ := F
  exact pe_call F hr hg hm kp b .nil hx ha hdb he hpl
end
/-! ## names of the module -/
structure En where
  K : PySem.W.Frag
  wk : Addr
  fc : Addr
  fo : Addr
def enOf (K : PySem.W.Frag) : En := ⟨K, He.ga K "WORKS", He.ga K "Facts", He.ga K "Folder"⟩
section
variable {X : Cx} {x : Str} {pos : Pos}
theorem pe_gI {i : Int} (hg : Gl X x) (h : ∃ t, X.mg x = some (.int i t)) (hd : (x == ("__debug__" : Str)) = false := by decide) : PE X (.Name x pos) (tC (.int i)) := by
  obtain ⟨t, h⟩ := h
  exact pe_glob hg h ⟨_, rfl⟩ hd
theorem pe_gS {z : Str} (hg : Gl X x) (h : ∃ t, X.mg x = some (.str z t)) (hd : (x == ("__debug__" : Str)) = false := by decide) : PE X (.Name x pos) (tC (.str z)) := by
  obtain ⟨t, h⟩ := h
  exact pe_glob hg h ⟨_, rfl⟩ hd
theorem pe_gR {a : Addr} (hg : Gl X x) (h : X.mg x = some (.ref a)) (hd : (x == ("__debug__" : Str)) = false := by decide) : PE X (.Name x pos) (tC (.ref a)) := pe_glob hg h rfl hd
theorem pe_ty {T : String} (hg : Gl X x) (hm : X.mg x = none) (hv : bootBuiltins x = some (.type T)) (hn : x ≠ "__name__" := by decide) (hd : (x == ("__debug__" : Str)) = false := by decide) : PE X (.Name x pos) (tC (.ty T)) := pe_bltn hg hm hv rfl hn hd
end
def tNever : TS := fun _ _ _ => False
theorem ps_nv {X : Cx} {st : Stmt} : PS X st tNever := ⟨fun _ _ _ _ _ _ h => h.elim⟩
/-! ## tuples that are known as plain objects (their own dict is none) -/
def tTupF (t : TA) : TE := fun σ H Q => t σ H fun xs H1 => xs.length ≤ sizeLine ∧ ∀ p o H2, o.dict = none → New H1 p (.frz o (.tup xs)) H2 → Q (.ref p) H2
/-- t + u of such -/
def rCatF : R2 := fun x y H Q => ∃ a b o1 o2 xs ys, x = .ref a ∧ y = .ref b ∧ o1.dict = none ∧ o2.dict = none ∧ H a = some (.frz o1 (.tup xs)) ∧ H b = some (.frz o2 (.tup ys)) ∧ xs.length + ys.length ≤ sizeLine ∧
  ∀ p o H2, o.dict = none → Same H H2 → H2 p = some (.frz o (.tup (xs ++ ys))) → (∀ b, b ≠ p → H2 b = H b) → Q (.ref p) H2
def rSlF : V → Option Int → Option Int → Hp → VK → Prop := fun x lo hi H Q => ∃ a o1 xs, x = .ref a ∧ o1.dict = none ∧ H a = some (.frz o1 (.tup xs)) ∧
  ∀ p o H2, o.dict = none → Same H H2 → H2 p = some (.frz o (.tup (cutV xs lo hi))) → (∀ b, b ≠ p → H2 b = H b) → Q (.ref p) H2
def rTupleF (K : PySem.W.Frag) : List V → Hp → VK → Prop := fun xs H Q => ∃ p ys, xs = [.ref p] ∧ SqL K H p ys ∧ ∀ l o H2, o.dict = none → New H l (.frz o (.tup ys)) H2 → Q (.ref l) H2
section
variable {X : Cx} {es : List Expr} {pos : Pos} {pins : List (Addr × Obj)} {σ : L2.St} {H : Hp} {s : Shared}
theorem laidF {xs : List V} {us : List Value} {tk : Nat} (I : Inv X pins σ H s) (r : Vals xs us) (z : xs.length ≤ sizeLine) :
    Inv X pins σ (upd H s.heap.objs.size (.frz { cls := .type "tuple", data := .seq us.toArray } (.tup xs))) { s with heap := s.heap.push { cls := .type "tuple", data := .seq us.toArray }, toks := tk } := by
  have e : (s.heap.push { cls := .type "tuple", data := .seq us.toArray }).get? s.heap.objs.size = some { cls := .type "tuple", data := .seq us.toArray } := Heap.get?_push_size _ rfl
  exact I.laid (fun b u w => Heap.get?_push_of_some _ w) (Nat.le_refl _) ⟨e, z, us, r, ⟨_, e, rfl, _, rfl⟩⟩
theorem pe_tupF {t : TA} {x1} (h : PA X es t) : PE X (.Tuple es x1 pos) (tTupF t) := by
  refine ⟨fun pins s σ H Q I hq => wpAny_Tuple_spliced (thn (h.run pos pins s σ H _ I hq) fun us s1 h1 => ?_)⟩
  obtain ⟨xs, H1, I1, r, z, q⟩ := h1
  refine ⟨by rw [← r.length]; exact z, .ref s1.heap.objs.size, _, laidF (tk := s1.toks) I1 r z, rfl, ?_⟩
  exact q _ _ _ rfl (new_upd (I1.hok.fresh (Nat.le_refl _)))
theorem op_catF : OpR X (binaryOp .Add) rCatF := by
  intro pins s σ H x y v u Q I rx ry h
  obtain ⟨a, b, o1, o2, xs, ys, rfl, rfl, d1, d2, ha, hb, hz, q⟩ := h
  cases (show v = Value.ref a from rx)
  cases (show u = Value.ref b from ry)
  obtain ⟨us, r1, p1, _⟩ := I.tuple (xs := xs) (.inl (.inr ⟨o1, ha⟩))
  obtain ⟨ws, r2, p2, _⟩ := I.tuple (xs := ys) (.inl (.inr ⟨o2, hb⟩))
  by_cases hx : us = []
  · have ex : xs = [] := r1.nil_iff.mp hx
    subst hx
    exact cat_tup0 p1 p2 ⟨.ref b, H, I, rfl, q b o2 H d2 (Same.refl H) (by rw [ex]; exact hb) fun _ _ => rfl⟩
  · refine HT.cat_tup p1 p2 hx (fun z => ?_) (fun z => ?_) (by rw [← r1.length, ← r2.length]; exact hz)
    · have ey : ys = [] := r2.nil_iff.mp z
      exact ⟨.ref a, H, I, rfl, q a o1 H d1 (Same.refl H) (by rw [ey, List.append_nil]; exact ha) fun _ _ => rfl⟩
    · have n := new_upd (o := .frz { cls := .type "tuple", data := .seq (us ++ ws).toArray } (.tup (xs ++ ys))) (I.hok.fresh (Nat.le_refl s.heap.objs.size))
      exact ⟨.ref s.heap.objs.size, _, laidF (tk := s.toks) I (r1.append r2) (by rw [List.length_append]; exact hz), rfl, q _ _ _ rfl n.sm n.at_ n.el⟩
theorem sl_F : SlR X rSlF := by
  intro pins s σ H x v vl vu lo hi sl Q I rx hs pl pu h
  obtain ⟨a, o1, xs, rfl, d1, ha, q⟩ := h
  cases (show v = Value.ref a from rx)
  obtain ⟨us, r, ht, hz⟩ := I.tuple (xs := xs) (.inl (.inr ⟨o1, ha⟩))
  have hlen : us.toArray.size = xs.length := by rw [List.size_toArray]; exact r.length.symm
  refine ⟨"tuple", _, PyProof.Rows.slot_tuple_getitem.lookup, ht.typeIs, ?_⟩
  by_cases hw : HT.sIx xs.length 0 lo = 0 ∧ HT.sIx xs.length xs.length hi = xs.length
  · exact getItem_tuple_whole ht hs pl pu (by rw [hlen]; exact hw) ⟨.ref a, H, I, rfl, q a o1 H d1 (Same.refl H) (by rw [cut_whole _ _ _ hw]; exact ha) fun _ _ => rfl⟩
  · refine HT.getItem_tuple_cut ht hs pl pu (by rw [hlen]; exact hw) ?_ (by rw [hlen]; exact hz)
    rw [hlen]
    have rr := (r.drop (HT.sIx xs.length 0 lo)).take (HT.sIx xs.length xs.length hi - HT.sIx xs.length 0 lo)
    have I2 := laidF (tk := s.toks) I rr (Nat.le_trans (cutV_length xs lo hi) hz)
    have n := new_upd (o := .frz { cls := .type "tuple", data := .seq (((us.drop (HT.sIx xs.length 0 lo)).take (HT.sIx xs.length xs.length hi - HT.sIx xs.length 0 lo))).toArray } (.tup (cutV xs lo hi))) (I.hok.fresh (Nat.le_refl s.heap.objs.size))
    refine ⟨.ref s.heap.objs.size, _, ?_, rfl, q _ _ _ rfl n.sm n.at_ n.el⟩
    exact I2
theorem c_tupleF : CallR X (.type "tuple") (rTupleF X.K) := by
  intro pins s σ H xs us Q I r h
  obtain ⟨p, ys, rfl, hq, q⟩ := h
  obtain ⟨u, rfl, rx⟩ := vals1 r
  cases (show u = Value.ref p from rx)
  obtain ⟨its, r', pl, hz⟩ := I.list hq
  have hlen := r'.length
  refine call_tuple_list pl.isList (fun h' kp => ?_) (by simp only [List.size_toArray] <;> omega)
  have I1 : Inv X pins σ H { s with heap := h' } := I.kept (t' := s.toks) kp
  exact ⟨.ref h'.objs.size, _, laidF (tk := s.toks) I1 r' hz, rfl, q _ _ _ rfl (new_upd (I1.hok.fresh (Nat.le_refl _)))⟩
end
/-! ## dict(t), t a tuple of pairs -/
def rDictP (K : PySem.W.Frag) : List V → Hp → VK → Prop := fun xs H Q => ∃ (a : Addr) (o : Obj) (ps : List Addr) (kvs : List (Key × V)), xs = [.ref a] ∧ o.dict = none ∧ H a = some (.frz o (.tup (ps.map V.ref))) ∧ Paired (fun p kv => SqT K H p [kV kv.1, kv.2]) ps kvs ∧
  ∀ p H2, New H p (.dK (mergeK [] kvs)) H2 → Q (.ref p) H2
theorem c_dictP {X : Cx} (hcalm : X.calm = true) : CallR X (.type "dict") (rDictP X.K) := by
  intro pins s σ H xs us Q I r q
  obtain ⟨a, o, ps, kvs, rfl, od, ha, hp, q⟩ := q
  obtain ⟨u, rfl, rx⟩ := vals1 r
  cases (show u = Value.ref a from rx)
  obtain ⟨e1, z, its, rv, ob, e2, hc, n, hd⟩ := (show ObjOk X.prog X.w H s.heap a (.frz o (.tup (ps.map V.ref))) from I.hok a _ ha)
  rw [e1] at e2
  cases e2
  have ei := refs_at rv
  subst ei
  rw [List.length_map] at z
  obtain ⟨prs, rel, hl, hpr⟩ := pairs_of I hp
  have hT : ∀ j : Nat, ∃ u : Value, ∀ q, prs[j]? = some q → ∃ b, ps[j]? = some b ∧ PyProof.Rows.IsTup s.heap b #[u, q.2] ∧ keyIs q.1 u = true := fun j => by
    cases hq : prs[j]? with
    | none => exact ⟨.none, fun q e => by cases e⟩
    | some q =>
      obtain ⟨b, u, h1, h2, h3⟩ := hpr j q hq
      exact ⟨u, fun q' e => by
        cases e
        exact ⟨b, h1, h2, h3⟩⟩
  obtain ⟨f, hf⟩ := Classical.axiomOfChoice hT
  let pv : List (Value × Value) := (List.range prs.length).map fun j => (f j, ((prs[j]?).map (·.2)).getD .none)
  have pvl : pv.length = prs.length := by simp [pv]
  have pva : ∀ {j : Nat} {k v : Value}, pv[j]? = some (k, v) → ∃ q, prs[j]? = some q ∧ k = f j ∧ v = q.2 := fun {j k v} h => by
    have hj : j < prs.length := by rw [← pvl]; exact (List.getElem?_eq_some_iff.mp h).1
    refine ⟨prs[j], List.getElem?_eq_getElem hj, ?_⟩
    rw [List.getElem?_map, List.getElem?_range hj] at h
    have h' : (f j, ((prs[j]?).map (·.2)).getD Value.none) = (k, v) := Option.some.inj h
    rw [List.getElem?_eq_getElem hj] at h'
    cases h'
    exact ⟨rfl, rfl⟩
  refine PySem.call_dict_pairs (knd := mixKind X.prog X.w) (PySem.PairArg.tuple a _ (fun j => (ps[j]?).getD 0) pv) (I.ok.hd hcalm) ⟨⟨o, n, e1, hc, od, hd⟩, by simp [pvl, hl], fun j k v h => ?_⟩ ⟨pvl.symm, fun i key v h => ?_⟩ (by rw [pvl, hl]; exact z) fun h' tk hd' k => ?_
  · obtain ⟨q, h1, h2, h3⟩ := pva h
    obtain ⟨b, g1, g2, _⟩ := hf j q h1
    show (List.map Value.ref ps).toArray[j]? = some (Value.ref ((ps[j]?).getD 0)) ∧ PySem.PairAt s.heap ((ps[j]?).getD 0) k v
    rw [g1, h2, h3]
    exact ⟨by simp [g1], .inl g2⟩
  · obtain ⟨q, h1, h2, h3⟩ := pva h
    obtain ⟨b, _, _, g3⟩ := hf i q h1
    exact ⟨q.1, by rw [h1, h3], by rw [h2]; exact g3⟩
  · have hm : (s.heap.objs.size == sysModules) = false := beq_eq_false_iff_ne.mpr (Nat.ne_of_gt I.big)
    have hsz : (mergeK [] kvs).length ≤ sizeLine := by
      have h1 := length_mergeK kvs []
      rw [List.length_nil, rel.length, hl] at h1
      omega
    have I2 : Inv X pins σ (upd H s.heap.objs.size (.dK (mergeK [] kvs))) { s with heap := h', toks := tk } := I.laid (fun b u w => k b u (List.not_mem_nil) w) (Nat.le_refl _) (show ObjOk X.prog X.w _ _ _ (.dK (mergeK [] kvs)) from ⟨hsz, hm, merged [] prs, KV.merge rel .nil, hd'⟩)
    exact ⟨.ref s.heap.objs.size, _, I2, rfl, q _ _ (new_upd (I.hok.fresh (Nat.le_refl _)))⟩
end Tf

set_option Elab.async false
set_option linter.all false
set_option maxRecDepth 100000
set_option maxHeartbeats 4000000
namespace Tf
open PySem L2
/-! ## readings, step by step -/
section
variable {K : PySem.W.Frag} {σ : L2.St} {H H1 H2 : Hp} {Q : VK} {nx : L2.St → Hp → Prop} {rt : VK} {bk ct : L2.St → Hp → Prop} {t u : TS} {te ta tb tc : TE} {c d : TT} {i : Nat} {v x y : V} {r : R2} {D : Ends}
theorem k_seq (h : t ⟨u ⟨nx, rt, bk, ct⟩, rt, bk, ct⟩ σ H) : tSeq t u ⟨nx, rt, bk, ct⟩ σ H := h
theorem k_join (P : L2.St → Hp → Prop) (k : ∀ σ' H', P σ' H' → u ⟨nx, rt, bk, ct⟩ σ' H') (h : (∀ σ' H', P σ' H' → u ⟨nx, rt, bk, ct⟩ σ' H') → t ⟨u ⟨nx, rt, bk, ct⟩, rt, bk, ct⟩ σ H) : tSeq t u ⟨nx, rt, bk, ct⟩ σ H := h k
theorem k_joinI {b : Bool} {σ1 : L2.St} (P : L2.St → Hp → Prop) (k : ∀ σ' H', P σ' H' → nx σ' H') (h : (∀ σ' H', P σ' H' → nx σ' H') → if b = true then t ⟨nx, rt, bk, ct⟩ σ H else u ⟨nx, rt, bk, ct⟩ σ1 H1) : if b = true then t ⟨nx, rt, bk, ct⟩ σ H else u ⟨nx, rt, bk, ct⟩ σ1 H1 := h k
theorem k_next (h : nx σ H) : tNext ⟨nx, rt, bk, ct⟩ σ H := h
theorem k_if (h : c σ H fun b H1 => if b = true then t D σ H1 else u D σ H1) : tIfS c t u D σ H := h
theorem k_ret (h : te σ H rt) : tRet te ⟨nx, rt, bk, ct⟩ σ H := h
theorem k_retN (h : rt .non H) : tRetN ⟨nx, rt, bk, ct⟩ σ H := h
theorem k_drop (h : te σ H fun _ H1 => nx σ H1) : tDrop te ⟨nx, rt, bk, ct⟩ σ H := h
theorem k_asg (h : te σ H fun x H1 => nx (σ.set i (some x)) H1) : tAsg te (gName i) ⟨nx, rt, bk, ct⟩ σ H := h
theorem k_var (h : σ[i]? = some (some v)) (q : Q v H) : tVar i σ H Q := ⟨v, h, q⟩
theorem k_c (q : Q v H) : tC v σ H Q := q
theorem k_op (h : ta σ H fun x H1 => tb σ H1 fun y H2 => r x y H2 Q) : tOp r ta tb σ H Q := h
theorem k_un {r : V → Hp → VK → Prop} (h : ta σ H fun x H1 => r x H1 Q) : tUn r ta σ H Q := h
theorem k_nil {Q : List V → Hp → Prop} (q : Q [] H) : tNil σ H Q := q
theorem k_cons {tr : TA} {Q : List V → Hp → Prop} (h : ta σ H fun x H1 => tr σ H1 fun xs H2 => Q (x :: xs) H2) : tCons ta tr σ H Q := h
theorem k_cb {r : List V → Hp → VK → Prop} {tt : TA} (h : tt σ H fun vs H1 => r vs H1 Q) : tCB r tt σ H Q := h
theorem k_call {sp : Sp} {E : XK} {tt : TA} (h : tt σ H fun vs H1 => sp vs H1 Q E) : tCall sp [] E tt σ H Q := by
  show tt σ H fun vs H1 => sp (vs ++ []) H1 Q E
  simpa using h
theorem k_bm {T : String} {r : V → List V → Hp → VK → Prop} {to : TE} {tt : TA} (h : to σ H fun x H1 => tyV K T x H1 ∧ tt σ H1 fun xs H2 => r x xs H2 Q) : tBM K T r to tt σ H Q := h
theorem k_bm0 {T : String} {r : V → List V → Hp → VK → Prop} {to : TE} (h : to σ H fun x H1 => tyV K T x H1 ∧ r x [] H1 Q) : tBM0 K T r to σ H Q := h
theorem k_test {Q : Bool → Hp → Prop} (h : te σ H fun z H3 => ∃ k, z = .bl k ∧ Q k H3) : tTest te σ H Q := h
theorem k_tB {Q : Bool → Hp → Prop} (h : te σ H fun z H3 => ∃ k, z = .bl k ∧ Q k H3) : tB te σ H Q := h
theorem k_bl {b : Bool} {Q : Bool → Hp → Prop} (h : Q b H) : ∃ k, V.bl b = .bl k ∧ Q k H := ⟨b, rfl, h⟩
theorem k_and {Q : Bool → Hp → Prop} (h : c σ H fun b H1 => if b = true then d σ H1 Q else Q false H1) : tAnd c d σ H Q := h
theorem k_or {Q : Bool → Hp → Prop} (h : c σ H fun b H1 => if b = true then Q true H1 else d σ H1 Q) : tOr c d σ H Q := h
theorem k_not {Q : Bool → Hp → Prop} (h : c σ H fun b H1 => Q (!b) H1) : tNot c σ H Q := h
theorem k_andV (h : ta σ H fun x H1 => ∃ k, x = .bl k ∧ if k = true then tb σ H1 Q else Q (.bl false) H1) : tAndV ta tb σ H Q := h
theorem k_orV (h : ta σ H fun x H1 => ∃ k, x = .bl k ∧ if k = true then Q (.bl true) H1 else tb σ H1 Q) : tOrV ta tb σ H Q := h
theorem k_notV (h : ta σ H fun x H1 => ∃ k, x = .bl k ∧ Q (.bl (!k)) H1) : tNotV ta σ H Q := h
theorem k_blI {b : Bool} {A B : Bool → Prop} (h : if b = true then A b else B b) : ∃ k, V.bl b = .bl k ∧ if k = true then A k else B k := ⟨b, rfl, h⟩
theorem k_blN {b : Bool} {A : Bool → Prop} (h : A b) : ∃ k, V.bl b = .bl k ∧ A k := ⟨b, rfl, h⟩
theorem k_chain {r' : R2} (h : ta σ H fun x H1 => tb σ H1 fun y H2 => r x y H2 fun z H3 => ∃ k, z = .bl k ∧ (if k = true then tc σ H3 fun w H4 => r' y w H4 Q else Q (.bl false) H3)) : tChain r r' ta tb tc σ H Q := h
theorem k_tup {tt : TA} (h : tt σ H fun xs H1 => xs.length ≤ sizeLine ∧ ∀ p H2, New H1 p (.tup xs) H2 → Q (.ref p) H2) : tTupN tt σ H Q := h
theorem k_lst {tt : TA} (h : tt σ H fun xs H1 => xs.length ≤ sizeLine ∧ ∀ p H2, New H1 p (.lst xs) H2 → Q (.ref p) H2) : tLstN tt σ H Q := h
theorem k_dnew (h : ∀ p H2, New H p (.dK []) H2 → Q (.ref p) H2) : tDNewN σ H Q := h
theorem k_dput {td ty tv : TE} (h : tv σ H fun v H1 => td σ H1 fun x H2 => ty σ H2 fun y H3 => ∃ a kvs k, x = .ref a ∧ H3 a = some (.dK kvs) ∧ y = kV k ∧ kvs.length < sizeLine ∧ ∀ H4, Wr H3 a (.dK (putK kvs k v)) H4 → nx σ H4) : sDPutN td ty tv ⟨nx, rt, bk, ct⟩ σ H := h
theorem k_sl {r : V → Option Int → Option Int → Hp → VK → Prop} {tl th : TO} (h : te σ H fun x H1 => tl σ H1 fun l H2 => th σ H2 fun u H3 => r x l u H3 Q) : tSl r te tl th σ H Q := h
theorem k_noPart {Q : Option Int → Hp → Prop} (q : Q none H) : tNoPart σ H Q := q
theorem k_part {Q : Option Int → Hp → Prop} (h : te σ H fun x H1 => ∃ i, x = .int i ∧ Q (some i) H1) : tPart te σ H Q := h
theorem k_int1 {a : Int} {A : Int → Prop} (h : A a) : ∃ i, V.int a = .int i ∧ A i := ⟨a, rfl, h⟩
/-! ### values -/
theorem v_addI {i j : Int} (q : Q (.int (i + j)) H) : rAdd K (.int i) (.int j) H Q := .inl ⟨i, j, rfl, rfl, q⟩
theorem v_addS {i j : Str} (h : i.length + j.length ≤ sizeLine) (q : Q (.str (i ++ j)) H) : rAdd K (.str i) (.str j) H Q := .inr (.inl ⟨i, j, rfl, rfl, h, q⟩)
theorem v_addL {a b : Addr} {xs ys : List V} (ha : H a = some (.lst xs)) (hb : H b = some (.lst ys)) (hz : xs.length + ys.length ≤ sizeLine) (q : ∀ p H2, New H p (.lst (xs ++ ys)) H2 → Q (.ref p) H2) : rAdd K (.ref a) (.ref b) H Q := .inr (.inr (.inl ⟨a, b, xs, ys, rfl, rfl, ha, hb, hz, q⟩))
theorem v_addT {a b : Addr} {xs ys : List V} (ha : H a = some (.tup xs)) (hb : H b = some (.tup ys)) (hz : xs.length + ys.length ≤ sizeLine) (q : ∀ p H2, Same H H2 → H2 p = some (.tup (xs ++ ys)) → (∀ b, b ≠ p → H2 b = H b) → Q (.ref p) H2) : rAdd K (.ref a) (.ref b) H Q := .inr (.inr (.inr ⟨a, b, xs, ys, rfl, rfl, ha, hb, hz, q⟩))
theorem v_sub {i j : Int} (q : Q (.int (i - j)) H) : rSub (.int i) (.int j) H Q := ⟨i, j, rfl, rfl, q⟩
theorem v_neg {i : Int} (q : Q (.int (-i)) H) : rNeg (.int i) H Q := ⟨i, rfl, q⟩
theorem v_mod {i j : Int} (h : 0 < j) (q : Q (.int (i % j)) H) : rMod (.int i) (.int j) H Q := ⟨i, j, rfl, rfl, h, q⟩
theorem v_fdiv {i j : Int} (h : 0 < j ∧ j < 1073741824) (q : Q (.int (i / j)) H) : rFdiv (.int i) (.int j) H Q := ⟨i, j, rfl, rfl, h, q⟩
theorem v_pow6 (q : Q (.int 1000000) H) : rPow (.int 10) (.int 6) H Q := ⟨10, 6, rfl, rfl, ⟨by decide, by decide, by decide⟩, q⟩
theorem v_mulI {i j : Int} (h : CMul i j) (q : Q (.int (i * j)) H) : rMul (.int i) (.int j) H Q := .inl ⟨i, j, rfl, rfl, h, q⟩
theorem v_mulS {z : Str} {n : Int} (h0 : 0 ≤ n) (h1 : n ≤ 1000) (h2 : z.length ≤ 1000) (q : Q (.str ⟨(List.replicate n.toNat z.cps).foldl (· ++ ·) #[]⟩) H) : rMul (.str z) (.int n) H Q := .inr ⟨z, n, rfl, rfl, h0, h1, h2, q⟩
theorem v_lt {i j : Int} (q : Q (.bl (decide (i < j))) H) : rLt (.int i) (.int j) H Q := ⟨i, j, rfl, rfl, q⟩
theorem v_le {i j : Int} (q : Q (.bl (decide (i ≤ j))) H) : rLe (.int i) (.int j) H Q := ⟨i, j, rfl, rfl, q⟩
theorem v_gt {i j : Int} (q : Q (.bl (decide (j < i))) H) : rGt (.int i) (.int j) H Q := ⟨i, j, rfl, rfl, q⟩
theorem v_ge {i j : Int} (q : Q (.bl (decide (j ≤ i))) H) : rGe (.int i) (.int j) H Q := ⟨i, j, rfl, rfl, q⟩
theorem dI {i j : Int} : decide (V.int i = V.int j) = decide (i = j) := by by_cases h : i = j <;> simp [h]
theorem dS {i j : Str} : decide (V.str i = V.str j) = decide (i = j) := by by_cases h : i = j <;> simp [h]
theorem dB {i j : Bool} : decide (V.bl i = V.bl j) = decide (i = j) := by by_cases h : i = j <;> simp [h]
theorem v_eqI {i j : Int} (q : Q (.bl (decide (i = j))) H) : rEqA K (.int i) (.int j) H Q := .inl ⟨rfl, by rw [dI]; exact q⟩
theorem v_eqS {i j : Str} (q : Q (.bl (decide (i = j))) H) : rEqA K (.str i) (.str j) H Q := .inl ⟨rfl, by rw [dS]; exact q⟩
theorem v_eqB {i j : Bool} (q : Q (.bl (decide (i = j))) H) : rEqA K (.bl i) (.bl j) H Q := .inl ⟨rfl, by rw [dB]; exact q⟩
theorem v_eqSI {i : Str} {j : Int} (q : Q (.bl false) H) : rEqA K (.str i) (.int j) H Q := .inl ⟨rfl, q⟩
theorem v_eqIS {i : Int} {j : Str} (q : Q (.bl false) H) : rEqA K (.int i) (.str j) H Q := .inl ⟨rfl, q⟩
theorem v_neI {i j : Int} (q : Q (.bl (!decide (i = j))) H) : rNeA K (.int i) (.int j) H Q := .inl ⟨rfl, by rw [dI]; exact q⟩
theorem v_neS {i j : Str} (q : Q (.bl (!decide (i = j))) H) : rNeA K (.str i) (.str j) H Q := .inl ⟨rfl, by rw [dS]; exact q⟩
theorem v_neB {i j : Bool} (q : Q (.bl (!decide (i = j))) H) : rNeA K (.bl i) (.bl j) H Q := .inl ⟨rfl, by rw [dB]; exact q⟩
theorem v_isN (q : Q (.bl true) H) : rIs .non .non H Q := ⟨rfl, q⟩
theorem v_isI {i : Int} (q : Q (.bl false) H) : rIs (.int i) .non H Q := ⟨rfl, q⟩
theorem v_isS {i : Str} (q : Q (.bl false) H) : rIs (.str i) .non H Q := ⟨rfl, q⟩
theorem v_isR {a : Addr} (q : Q (.bl false) H) : rIs (.ref a) .non H Q := ⟨rfl, q⟩
theorem v_nisN (q : Q (.bl false) H) : rIsNot .non .non H Q := ⟨rfl, q⟩
theorem v_nisI {i : Int} (q : Q (.bl true) H) : rIsNot (.int i) .non H Q := ⟨rfl, q⟩
theorem v_nisS {i : Str} (q : Q (.bl true) H) : rIsNot (.str i) .non H Q := ⟨rfl, q⟩
theorem v_nisR {a : Addr} (q : Q (.bl true) H) : rIsNot (.ref a) .non H Q := ⟨rfl, q⟩
theorem v_ixL {p : Addr} {xs : List V} {i : Int} (h : SqL K H p xs) (e : atI xs i = some v) (q : Q v H) : rIxA K (.ref p) (.int i) H Q := .inl (.inl ⟨p, xs, i, v, rfl, rfl, h, e, q⟩)
theorem v_ixT {p : Addr} {xs : List V} {i : Int} (h : SqT K H p xs) (e : atI xs i = some v) (q : Q v H) : rIxA K (.ref p) (.int i) H Q := .inl (.inr (.inl ⟨p, xs, i, v, rfl, rfl, h, e, q⟩))
theorem v_ixS {z : Str} {i : Int} {c : Nat} (h : z.length ≤ sizeLine) (e : atI z.cps.toList i = some c) (q : Q (.str ⟨#[c]⟩) H) : rIxA K (.str z) (.int i) H Q := .inl (.inr (.inr ⟨z, i, c, rfl, rfl, h, e, q⟩))
theorem v_ixDS {p : Addr} {kvs : List (Key × V)} {n : Str} (h : Rd H p (.dK kvs)) (e : valV kvs (.inr n) = some v) (q : Q v H) : rIxA K (.ref p) (.str n) H Q := .inr ⟨p, kvs, .inr n, v, rfl, h, rfl, e, q⟩
theorem v_ixDI {p : Addr} {kvs : List (Key × V)} {n : Int} (h : Rd H p (.dK kvs)) (e : valV kvs (.inl n) = some v) (q : Q v H) : rIxA K (.ref p) (.int n) H Q := .inr ⟨p, kvs, .inl n, v, rfl, h, rfl, e, q⟩
theorem v_inSq {p : Addr} {xs : List V} (h : SqL K H p xs ∨ SqT K H p xs) (hx : flatV x = true) (ha : xs.all flatV = true) (q : Q (.bl (inV x xs)) H) : rInA K x (.ref p) H Q := .inl ⟨p, xs, rfl, h, hx, ha, q⟩
theorem v_ninSq {p : Addr} {xs : List V} (h : SqL K H p xs ∨ SqT K H p xs) (hx : flatV x = true) (ha : xs.all flatV = true) (q : Q (.bl (!inV x xs)) H) : rNotInA K x (.ref p) H Q := .inl ⟨p, xs, rfl, h, hx, ha, q⟩
theorem v_slL {a : Addr} {xs : List V} {lo hi : Option Int} (h : SqL K H a xs) (q : ∀ p H2, New H p (.lst (cutV xs lo hi)) H2 → Q (.ref p) H2) : rSlX K (.ref a) lo hi H Q := .inl ⟨a, xs, rfl, h, q⟩
theorem v_slT {a : Addr} {xs : List V} {lo hi : Option Int} (h : H a = some (.tup xs)) (q : ∀ p H2, Same H H2 → H2 p = some (.tup (cutV xs lo hi)) → (∀ b, b ≠ p → H2 b = H b) → Q (.ref p) H2) : rSlX K (.ref a) lo hi H Q := .inr ⟨a, xs, rfl, h, q⟩
theorem v_lenL {p : Addr} {xs : List V} (h : SqL K H p xs) (q : Q (.int xs.length) H) : rLen K [.ref p] H Q := .inl ⟨_, _, rfl, .inl ⟨xs, h, rfl⟩, q⟩
theorem v_lenT {p : Addr} {xs : List V} (h : SqT K H p xs) (q : Q (.int xs.length) H) : rLen K [.ref p] H Q := .inl ⟨_, _, rfl, .inr ⟨xs, h, rfl⟩, q⟩
theorem v_lenS {z : Str} (h : z.length ≤ sizeLine) (q : Q (.int z.length) H) : rLen K [.str z] H Q := .inl ⟨_, _, rfl, ⟨h, rfl⟩, q⟩
theorem v_lenD {p : Addr} {kvs : List (Key × V)} (h : H p = some (.dK kvs)) (q : Q (.int kvs.length) H) : rLen K [.ref p] H Q := .inr ⟨p, kvs, rfl, h, q⟩
theorem v_listL {p : Addr} {xs : List V} (h : SqL K H p xs) (q : ∀ l H2, New H l (.lst xs) H2 → Q (.ref l) H2) : rList K [.ref p] H Q := .inl ⟨p, xs, rfl, .inl h, q⟩
theorem v_listT {p : Addr} {xs : List V} (h : SqT K H p xs) (q : ∀ l H2, New H l (.lst xs) H2 → Q (.ref l) H2) : rList K [.ref p] H Q := .inl ⟨p, xs, rfl, .inr h, q⟩
theorem v_listD {p : Addr} {kvs : List (Key × V)} (h : Rd H p (.dK kvs)) (q : ∀ l H2, New H l (.lst (kvs.map fun kv => kV kv.1)) H2 → Q (.ref l) H2) : rList K [.ref p] H Q := .inr ⟨p, kvs, rfl, h, q⟩
theorem v_dict {p : Addr} {kvs : List (Key × V)} (h : Rd H p (.dK kvs)) (q : ∀ l H2, New H l (.dK kvs) H2 → Q (.ref l) H2) : rDict [.ref p] H Q := ⟨p, kvs, rfl, h, q⟩
theorem v_tupleL {p : Addr} {xs : List V} (h : SqL K H p xs) (q : ∀ l H2, New H l (.tup xs) H2 → Q (.ref l) H2) : rTuple K [.ref p] H Q := ⟨p, xs, rfl, .inl ⟨h, q⟩⟩
theorem v_intB {k : Bool} (q : Q (.int (if k then 1 else 0)) H) : rInt [.bl k] H Q := .inr ⟨k, rfl, q⟩
theorem v_intI {i : Int} (q : Q (.int i) H) : rInt [.int i] H Q := .inl ⟨i, rfl, q⟩
theorem v_min2 {i j : Int} (q : Q (.int (if j < i then j else i)) H) : rMin2 [.int i, .int j] H Q := ⟨i, j, rfl, q⟩
theorem v_sum {p : Addr} {ns : List Int} (h : SqL K H p (ns.map V.int)) (q : Q (.int ns.sum) H) : rSum K [.ref p] H Q := ⟨p, ns, rfl, h, q⟩
theorem v_all {p : Addr} {bs : List Bool} (h : SqL K H p (bs.map V.bl)) (q : Q (.bl (bs.all id)) H) : rAll K [.ref p] H Q := ⟨p, bs, rfl, h, q⟩
theorem v_isi {T t : String} {b : Bool} (ht : TyX K H x (.type t)) (hb : kitB t T = some b) (q : Q (.bl b) H) : rIsX K [x, .ty T] H Q := .inl ⟨x, .ty T, .type t, .type T, b, rfl, .ty T, ht, kit_ty hb, q⟩
theorem v_isiT {T t : String} (ht : TyX K H x (.type t)) (hb : kitB t T = some true) (q : Q (.bl true) H) : rIsX K [x, .ty T] H Q := v_isi ht hb q
theorem v_isiF {T t : String} (ht : TyX K H x (.type t)) (hb : kitB t T = some false) (q : Q (.bl false) H) : rIsX K [x, .ty T] H Q := v_isi ht hb q
theorem v_app {l : Addr} {xs : List V} (h : H l = some (.lst xs)) (hz : xs.length < sizeLine) (q : ∀ H2, Wr H l (.lst (xs ++ [y])) H2 → Q .non H2) : rAppN (.ref l) [y] H Q := ⟨l, xs, y, rfl, rfl, h, hz, q⟩
theorem v_clear {l : Addr} {xs : List V} (h : H l = some (.lst xs)) (q : ∀ H2, Wr H l (.lst []) H2 → Q .non H2) : rClearN (.ref l) [] H Q := ⟨l, xs, rfl, rfl, h, q⟩
theorem v_dclear {l : Addr} {kvs : List (Key × V)} (h : H l = some (.dK kvs)) (q : ∀ H2, Wr H l (.dK []) H2 → Q .non H2) : rDClearN (.ref l) [] H Q := ⟨l, kvs, rfl, rfl, h, q⟩
theorem ty_l {l : Addr} {xs : List V} (h : H l = some (.lst xs)) : tyV K "list" (.ref l) H := .inl ⟨rfl, xs, .inl (.inl h)⟩
theorem e_put {a : Addr} {kvs : List (Key × V)} {n : Str} {R : Hp → Prop} (h : H a = some (.dK kvs)) (hl : kvs.length < sizeLine) (q : ∀ H4, Wr H a (.dK (putK kvs (.inr n) v)) H4 → R H4) :
    ∃ a' kvs k, V.ref a = .ref a' ∧ H a' = some (.dK kvs) ∧ V.str n = kV k ∧ kvs.length < sizeLine ∧ ∀ H4, Wr H a' (.dK (putK kvs k v)) H4 → R H4 := ⟨a, kvs, .inr n, rfl, h, rfl, hl, q⟩
theorem e_putI {a : Addr} {kvs : List (Key × V)} {n : Int} {R : Hp → Prop} (h : H a = some (.dK kvs)) (hl : kvs.length < sizeLine) (q : ∀ H4, Wr H a (.dK (putK kvs (.inl n) v)) H4 → R H4) :
    ∃ a' kvs k, V.ref a = .ref a' ∧ H a' = some (.dK kvs) ∧ V.int n = kV k ∧ kvs.length < sizeLine ∧ ∀ H4, Wr H a' (.dK (putK kvs k v)) H4 → R H4 := ⟨a, kvs, .inl n, rfl, h, rfl, hl, q⟩
/-! ### places -/
theorem at0 {α : Type} {a : α} {l : List α} : atI (a :: l) 0 = some a := atI_nat (j := 0) rfl
theorem at1 {α : Type} {a b : α} {l : List α} : atI (a :: b :: l) 1 = some b := atI_nat (j := 1) rfl
theorem at2 {α : Type} {a b c : α} {l : List α} : atI (a :: b :: c :: l) 2 = some c := atI_nat (j := 2) rfl
theorem at3 {α : Type} {a b c d : α} {l : List α} : atI (a :: b :: c :: d :: l) 3 = some d := atI_nat (j := 3) rfl
theorem at4 {α : Type} {a b c d e : α} {l : List α} : atI (a :: b :: c :: d :: e :: l) 4 = some e := atI_nat (j := 4) rfl
theorem at5 {α : Type} {a b c d e f : α} {l : List α} : atI (a :: b :: c :: d :: e :: f :: l) 5 = some f := atI_nat (j := 5) rfl
theorem at6 {α : Type} {a b c d e f g : α} {l : List α} : atI (a :: b :: c :: d :: e :: f :: g :: l) 6 = some g := atI_nat (j := 6) rfl
theorem at7 {α : Type} {a b c d e f g h : α} {l : List α} : atI (a :: b :: c :: d :: e :: f :: g :: h :: l) 7 = some h := atI_nat (j := 7) rfl
/-! ### tests that are known -/
theorem i_T {A B : Prop} (h : A) : if true = true then A else B := by rw [if_pos rfl]; exact h
theorem i_F {A B : Prop} (h : B) : if false = true then A else B := by rw [if_neg Bool.false_ne_true]; exact h
theorem i_dT {p A B : Prop} [Decidable p] (hp : p) (h : A) : if decide p = true then A else B := by rw [if_pos (decide_eq_true hp)]; exact h
theorem i_dF {p A B : Prop} [Decidable p] (hp : ¬ p) (h : B) : if decide p = true then A else B := by rw [if_neg (by simpa using hp)]; exact h
theorem i_nT {p A B : Prop} [Decidable p] (hp : p) (h : B) : if (!decide p) = true then A else B := by rw [if_neg (by simpa using hp)]; exact h
theorem i_nF {p A B : Prop} [Decidable p] (hp : ¬ p) (h : A) : if (!decide p) = true then A else B := by rw [if_pos (by simpa using hp)]; exact h
theorem i_d {p A B : Prop} [Decidable p] (h1 : p → A) (h2 : ¬ p → B) : if decide p = true then A else B := by
  by_cases h : p
  · exact i_dT h (h1 h)
  · exact i_dF h (h2 h)
theorem i_n {p A B : Prop} [Decidable p] (h1 : ¬ p → A) (h2 : p → B) : if (!decide p) = true then A else B := by
  by_cases h : p
  · exact i_nT h (h2 h)
  · exact i_nF h (h1 h)
theorem i_b {b : Bool} {A B : Prop} (h1 : b = true → A) (h2 : b = false → B) : if b = true then A else B := by
  cases b
  · exact i_F (h2 rfl)
  · exact i_T (h1 rfl)
theorem i_bT {b : Bool} {A B : Prop} (e : b = true) (h : A) : if b = true then A else B := by rw [if_pos e]; exact h
theorem i_bF {b : Bool} {A B : Prop} (e : b = false) (h : B) : if b = true then A else B := by rw [if_neg (by rw [e]; exact Bool.false_ne_true)]; exact h
end
theorem Same.get {H H' : Hp} {a : Addr} {u : HO} (e : Same H H') (h : H a = some u) : H' a = some u := e a u h
theorem Same.rd {H H' : Hp} {a : Addr} {u : HO} (e : Same H H') (h : Rd H a u) : Rd H' a u := by
  rcases h with h | ⟨o, h⟩
  · exact Or.inl (e a _ h)
  · exact Or.inr ⟨o, e a _ h⟩
theorem Same.tup {K : PySem.W.Frag} {H H' : Hp} {a : Addr} {xs : List V} (e : Same H H') (h : SqT K H a xs) : SqT K H' a xs := by
  rcases h with h | h
  · exact Or.inl (Same.rd e h)
  · exact Or.inr h
theorem New.ne {H H2 : Hp} {p a : Addr} {o u : HO} (n : New H p o H2) (h : H a = some u) : a ≠ p := ne_of_none h n.fr
theorem Wr.same {S H H2 : Hp} {a : Addr} {o : HO} (w : Wr H a o H2) (e : Same S H) (f : S a = none) : Same S H2 := fun b u h => by
  rw [w.el b (ne_of_none h f)]
  exact e b u h
theorem Wr.keep {H H2 : Hp} {a b : Addr} {o u : HO} (w : Wr H a o H2) (h : H b = some u) (n : b ≠ a) : H2 b = some u := by rw [w.el b n]; exact h
/-! ## loops -/
section
variable {K : PySem.W.Frag} {σ : L2.St} {H : Hp} {nx : L2.St → Hp → Prop} {rt : VK} {bk ct : L2.St → Hp → Prop} {tb : TS} {tl : TE} {ta : TA} {gt : TG}
def LoopOf (J : It) (gt : TG) (tb : TS) (nx : L2.St → Hp → Prop) (rt : VK) (σ : L2.St) (H1 : Hp) : Prop := ∃ W : Nat → Nat → L2.St → Hp → Prop, (∃ m, W 0 m σ H1) ∧ ∀ i m σ H, W i m σ H →
  (J.stop i H ∧ nx σ H) ∨ (J.go i H ∧ ∃ N : L2.St → Hp → Prop, (∀ σ' H', N σ' H' → ∃ m', m' < m ∧ W (i + 1) m' σ' H') ∧ ∀ x H', J.yld i H x H' → gt x σ H' fun σ2 H2 => tb ⟨N, rt, nx, N⟩ σ2 H2)
def ForL (K : PySem.W.Frag) (gt : TG) (tb : TS) (nx : L2.St → Hp → Prop) (rt : VK) (σ : L2.St) (x : V) (H : Hp) : Prop := ∃ a, x = .ref a ∧ (∃ xs, SqL K H a xs) ∧ LoopOf (Itl K a) gt tb nx rt σ H
def ForT (K : PySem.W.Frag) (gt : TG) (tb : TS) (nx : L2.St → Hp → Prop) (rt : VK) (σ : L2.St) (x : V) (H : Hp) : Prop := ∃ a, x = .ref a ∧ (∃ xs, SqT K H a xs) ∧ LoopOf (Itt K a) gt tb nx rt σ H
def ForR1 (gt : TG) (tb : TS) (nx : L2.St → Hp → Prop) (rt : VK) (σ : L2.St) (vs : List V) (H : Hp) : Prop := ∃ j : Int, vs = [.int j] ∧ -(2 ^ 62) ≤ j ∧ j < 2 ^ 62 ∧ LoopOf (Itr 0 j.toNat) gt tb nx rt σ H
def ForR2 (gt : TG) (tb : TS) (nx : L2.St → Hp → Prop) (rt : VK) (σ : L2.St) (vs : List V) (H : Hp) : Prop := ∃ i j : Int, vs = [.int i, .int j] ∧ (-(2 ^ 62) ≤ i ∧ i < 2 ^ 62 ∧ -(2 ^ 62) ≤ j ∧ j < 2 ^ 62) ∧ LoopOf (Itr i (j - i).toNat) gt tb nx rt σ H
def ForE (K : PySem.W.Frag) (gt : TG) (tb : TS) (nx : L2.St → Hp → Prop) (rt : VK) (σ : L2.St) (vs : List V) (H : Hp) : Prop := ∃ a xs, vs = [.ref a] ∧ SqL K H a xs ∧ LoopOf (Ite K a) gt tb nx rt σ H
def ForZ (K : PySem.W.Frag) (gt : TG) (tb : TS) (nx : L2.St → Hp → Prop) (rt : VK) (σ : L2.St) (vs : List V) (H : Hp) : Prop := ∃ a b xs ys, vs = [.ref a, .ref b] ∧ SqL K H a xs ∧ SqL K H b ys ∧ LoopOf (Itz K a b) gt tb nx rt σ H
theorem k_forL (h : tl σ H (ForL K gt tb nx rt σ)) : tFor (iList K tl) gt tb ⟨nx, rt, bk, ct⟩ σ H := h
theorem k_forT (h : tl σ H (ForT K gt tb nx rt σ)) : tFor (iTup K tl) gt tb ⟨nx, rt, bk, ct⟩ σ H := h
theorem k_forR1 (h : ta σ H (ForR1 gt tb nx rt σ)) : tFor (iRng1 ta) gt tb ⟨nx, rt, bk, ct⟩ σ H := h
theorem k_forR2 (h : ta σ H (ForR2 gt tb nx rt σ)) : tFor (iRng2 ta) gt tb ⟨nx, rt, bk, ct⟩ σ H := h
theorem k_forE (h : ta σ H (ForE K gt tb nx rt σ)) : tFor (iEnum K ta) gt tb ⟨nx, rt, bk, ct⟩ σ H := h
theorem k_forZ (h : ta σ H (ForZ K gt tb nx rt σ)) : tFor (iZip K ta) gt tb ⟨nx, rt, bk, ct⟩ σ H := h
theorem v_forL {a : Addr} {xs : List V} (hx : SqL K H a xs) (Pv : Nat → L2.St → Hp → Prop) (h0 : Pv 0 σ H) (hk : ∀ i σ' H', Pv i σ' H' → SqL K H' a xs)
    (hs : ∀ i x σ' H', xs[i]? = some x → Pv i σ' H' → gt x σ' H' fun σ2 H2 => tb ⟨Pv (i + 1), rt, nx, Pv (i + 1)⟩ σ2 H2) (hd : ∀ σ' H', Pv xs.length σ' H' → nx σ' H') : ForL K gt tb nx rt σ (.ref a) H :=
  ⟨a, rfl, ⟨xs, hx⟩, for_list (D := ⟨nx, rt, nx, nx⟩) Pv h0 (fun i σ' H' _ h => hk i σ' H' h) hs hd⟩
theorem v_forT {a : Addr} {xs : List V} (hx : SqT K H a xs) (Pv : Nat → L2.St → Hp → Prop) (h0 : Pv 0 σ H) (hk : ∀ i σ' H', Pv i σ' H' → SqT K H' a xs)
    (hs : ∀ i x σ' H', xs[i]? = some x → Pv i σ' H' → gt x σ' H' fun σ2 H2 => tb ⟨Pv (i + 1), rt, nx, Pv (i + 1)⟩ σ2 H2) (hd : ∀ σ' H', Pv xs.length σ' H' → nx σ' H') : ForT K gt tb nx rt σ (.ref a) H :=
  ⟨a, rfl, ⟨xs, hx⟩, for_tup (D := ⟨nx, rt, nx, nx⟩) Pv h0 (fun i σ' H' _ h => hk i σ' H' h) hs hd⟩
theorem v_forR1 {j : Int} (h1 : j ≤ 1000) (h2 : -1000 ≤ j) (Pv : Nat → L2.St → Hp → Prop) (h0 : Pv 0 σ H)
    (hs : ∀ (i : Nat) σ' H', i < j.toNat → Pv i σ' H' → gt (.int (i : Int)) σ' H' fun σ2 H2 => tb ⟨Pv (i + 1), rt, nx, Pv (i + 1)⟩ σ2 H2) (hd : ∀ σ' H', Pv j.toNat σ' H' → nx σ' H') : ForR1 gt tb nx rt σ [.int j] H :=
  ⟨j, rfl, by omega, by omega, for_range (D := ⟨nx, rt, nx, nx⟩) Pv h0 (fun i σ' H' hi h => by
    have e : (0 : Int) + (i : Int) = (i : Int) := Int.zero_add _
    rw [e]
    exact hs i σ' H' hi h) hd⟩
theorem v_forR2 {i0 j : Int} (h1 : -1000 ≤ i0 ∧ i0 ≤ 1000 ∧ -1000 ≤ j ∧ j ≤ 1000) (Pv : Nat → L2.St → Hp → Prop) (h0 : Pv 0 σ H)
    (hs : ∀ (i : Nat) σ' H', i < (j - i0).toNat → Pv i σ' H' → gt (.int (i0 + (i : Int))) σ' H' fun σ2 H2 => tb ⟨Pv (i + 1), rt, nx, Pv (i + 1)⟩ σ2 H2) (hd : ∀ σ' H', Pv (j - i0).toNat σ' H' → nx σ' H') : ForR2 gt tb nx rt σ [.int i0, .int j] H :=
  ⟨i0, j, rfl, ⟨by omega, by omega, by omega, by omega⟩, for_range (D := ⟨nx, rt, nx, nx⟩) Pv h0 hs hd⟩
theorem v_forE {a : Addr} {xs : List V} (hx : SqL K H a xs) (Pv : Nat → L2.St → Hp → Prop) (h0 : Pv 0 σ H) (hk : ∀ i σ' H', Pv i σ' H' → SqL K H' a xs)
    (hs : ∀ (i : Nat) x σ' H' T H'', xs[i]? = some x → Pv i σ' H' → New H' T (.tup [.int (i : Int), x]) H'' → gt (.ref T) σ' H'' fun σ2 H2 => tb ⟨Pv (i + 1), rt, nx, Pv (i + 1)⟩ σ2 H2) (hd : ∀ σ' H', Pv xs.length σ' H' → nx σ' H') : ForE K gt tb nx rt σ [.ref a] H := by
  refine ⟨a, xs, rfl, hx, fun i m σ' H' => m = xs.length - i ∧ i ≤ xs.length ∧ Pv i σ' H', ⟨xs.length, rfl, Nat.zero_le _, h0⟩, ?_⟩
  rintro i m σ' H' ⟨rfl, hi, p⟩
  have qx := hk i σ' H' p
  by_cases c : i < xs.length
  · refine .inr ⟨⟨xs, xs[i], qx, List.getElem?_eq_getElem c⟩, Pv (i + 1), fun σ2 H2 p2 => ⟨xs.length - (i + 1), by omega, rfl, by omega, p2⟩, ?_⟩
    rintro v H2 ⟨T, x, rfl, nT, rfl, hx2⟩
    have ex : xs[i]? = some x := hx2 xs qx
    exact hs i x σ' H' T _ ex p (new_upd nT)
  · have e : i = xs.length := by omega
    exact .inl ⟨⟨xs, qx, by omega⟩, hd σ' H' (by rw [← e]; exact p)⟩
theorem v_forZ {a b : Addr} {xs ys : List V} (hx : SqL K H a xs) (hy : SqL K H b ys) (hl : xs.length = ys.length) (Pv : Nat → L2.St → Hp → Prop) (h0 : Pv 0 σ H) (hk : ∀ i σ' H', Pv i σ' H' → SqL K H' a xs ∧ SqL K H' b ys)
    (hs : ∀ (i : Nat) x y σ' H' T H'', xs[i]? = some x → ys[i]? = some y → Pv i σ' H' → New H' T (.tup [x, y]) H'' → gt (.ref T) σ' H'' fun σ2 H2 => tb ⟨Pv (i + 1), rt, nx, Pv (i + 1)⟩ σ2 H2) (hd : ∀ σ' H', Pv xs.length σ' H' → nx σ' H') : ForZ K gt tb nx rt σ [.ref a, .ref b] H := by
  refine ⟨a, b, xs, ys, rfl, hx, hy, fun i m σ' H' => m = xs.length - i ∧ i ≤ xs.length ∧ Pv i σ' H', ⟨xs.length, rfl, Nat.zero_le _, h0⟩, ?_⟩
  rintro i m σ' H' ⟨rfl, hi, p⟩
  obtain ⟨qx, qy⟩ := hk i σ' H' p
  by_cases c : i < xs.length
  · have c2 : i < ys.length := by omega
    refine .inr ⟨⟨xs, ys, xs[i], ys[i], qx, qy, List.getElem?_eq_getElem c, List.getElem?_eq_getElem c2⟩, Pv (i + 1), fun σ2 H2 p2 => ⟨xs.length - (i + 1), by omega, rfl, by omega, p2⟩, ?_⟩
    rintro v H2 ⟨T, x, y, rfl, nT, rfl, hx2, hy2⟩
    exact hs i x y σ' H' T _ (hx2 xs qx) (hy2 ys qy) p (new_upd nT)
  · have e : i = xs.length := by omega
    exact .inl ⟨⟨xs, ys, qx, qy, .inl (by omega)⟩, hd σ' H' (by rw [← e]; exact p)⟩
theorem k_gn {i : Nat} {v : V} {Q : L2.St → Hp → Prop} (h : Q (σ.set i (some v)) H) : gName i v σ H Q := h
theorem k_gt2 {i j : Nat} {p : Addr} {x y : V} {Q : L2.St → Hp → Prop} (ht : SqT K H p [x, y]) (h : Q ((σ.set i (some x)).set j (some y)) H) : gTup K 2 (gCons (gName i) (gCons (gName j) gNil)) (.ref p) σ H Q := ⟨p, [x, y], rfl, ht, rfl, x, [y], rfl, y, [], rfl, rfl, h⟩
end
/-! ## comprehensions -/
section
variable {K : PySem.W.Frag} {σ : L2.St} {H : Hp} {Q : VK} {te tl : TE} {ta : TA} {gt : TG} {tt : TT} {vs : List Nat}
def LcOf (J : It) (gt : TG) (tt : TT) (te : TE) (vs : List Nat) (σ : L2.St) (Q : VK) (H1 : Hp) : Prop := ∀ D, H1 D = none → ∃ W : Nat → Nat → Hp → Prop, (∃ m, W 0 m (upd H1 D (.lst []))) ∧ ∀ i m H, W i m H →
  (J.stop i H ∧ Q (.ref D) H) ∨ (J.go i H ∧ ∃ Nx : Hp → Prop, (∀ H', Nx H' → ∃ m', m' < m ∧ W (i + 1) m' H') ∧ ∀ x H', J.yld i H x H' → gt x (wipe σ vs) H' fun σ2 H2 => wipe σ2 vs = wipe σ vs ∧ tt σ2 H2 fun b H3 =>
    if b = true then te σ2 H3 fun y H4 => ∃ acc, H4 D = some (.lst acc) ∧ acc.length < sizeLine ∧ Nx (upd H4 D (.lst (acc ++ [y]))) else Nx H3)
def LcL (K : PySem.W.Frag) (gt : TG) (tt : TT) (te : TE) (vs : List Nat) (σ : L2.St) (Q : VK) (x : V) (H : Hp) : Prop := ∃ a, x = .ref a ∧ (∃ xs, SqL K H a xs) ∧ LcOf (Itl K a) gt tt te vs σ Q H
def LcT (K : PySem.W.Frag) (gt : TG) (tt : TT) (te : TE) (vs : List Nat) (σ : L2.St) (Q : VK) (x : V) (H : Hp) : Prop := ∃ a, x = .ref a ∧ (∃ xs, SqT K H a xs) ∧ LcOf (Itt K a) gt tt te vs σ Q H
def LcR1 (gt : TG) (tt : TT) (te : TE) (vs : List Nat) (σ : L2.St) (Q : VK) (as : List V) (H : Hp) : Prop := ∃ j : Int, as = [.int j] ∧ -(2 ^ 62) ≤ j ∧ j < 2 ^ 62 ∧ LcOf (Itr 0 j.toNat) gt tt te vs σ Q H
theorem k_lcLi (h : tl σ H (LcL K gt tt te vs σ Q)) : tLc (iList K tl) gt tt te vs σ H Q := h
theorem k_lcTu (h : tl σ H (LcT K gt tt te vs σ Q)) : tLc (iTup K tl) gt tt te vs σ H Q := h
theorem k_lcR1 (h : ta σ H (LcR1 gt tt te vs σ Q)) : tLc (iRng1 ta) gt tt te vs σ H Q := h
theorem k_yes {Q : Bool → Hp → Prop} (h : Q true H) : tYes σ H Q := h
theorem wipe1 {k : Nat} {x : V} : wipe ((wipe σ [k]).set k (some x)) [k] = wipe σ [k] := by
  show ((σ.set k none).set k (some x)).set k none = σ.set k none
  rw [List.set_set, List.set_set]
end
/-! ### the plain steps by their heads -/
class Rd (P : Prop) (A : outParam Prop) : Prop where
  go : A → P
section
variable {K : PySem.W.Frag} {σ : L2.St} {H H1 H2 : Hp} {Q : VK} {nx : L2.St → Hp → Prop} {rt : VK} {bk ct : L2.St → Hp → Prop} {t u : TS} {te ta tb tc tl : TE} {c d : TT} {i : Nat} {v x y : V} {r : R2} {D : Ends} {gt : TG} {tt : TT} {vs : List Nat} {tp : TA}
instance rd_k_seq  : Rd (tSeq t u ⟨nx, rt, bk, ct⟩ σ H) (t ⟨u ⟨nx, rt, bk, ct⟩, rt, bk, ct⟩ σ H) := ⟨k_seq⟩
instance rd_k_c  : Rd (tC v σ H Q) (Q v H) := ⟨k_c⟩
instance rd_k_op  : Rd (tOp r ta tb σ H Q) (ta σ H fun x H1 => tb σ H1 fun y H2 => r x y H2 Q) := ⟨k_op⟩
instance rd_k_if  : Rd (tIfS c t u D σ H) (c σ H fun b H1 => if b = true then t D σ H1 else u D σ H1) := ⟨k_if⟩
instance rd_k_test {Q : Bool → Hp → Prop} : Rd (tTest te σ H Q) (te σ H fun z H3 => ∃ k, z = .bl k ∧ Q k H3) := ⟨k_test⟩
instance rd_k_asg  : Rd (tAsg te (gName i) ⟨nx, rt, bk, ct⟩ σ H) (te σ H fun x H1 => nx (σ.set i (some x)) H1) := ⟨k_asg⟩
instance rd_k_ret  : Rd (tRet te ⟨nx, rt, bk, ct⟩ σ H) (te σ H rt) := ⟨k_ret⟩
instance rd_k_next  : Rd (tNext ⟨nx, rt, bk, ct⟩ σ H) (nx σ H) := ⟨k_next⟩
instance rd_k_drop  : Rd (tDrop te ⟨nx, rt, bk, ct⟩ σ H) (te σ H fun _ H1 => nx σ H1) := ⟨k_drop⟩
instance rd_k_cons {tr : TA} {Q : List V → Hp → Prop} : Rd (tCons ta tr σ H Q) (ta σ H fun x H1 => tr σ H1 fun xs H2 => Q (x :: xs) H2) := ⟨k_cons⟩
instance rd_k_nil {Q : List V → Hp → Prop} : Rd (tNil σ H Q) (Q [] H) := ⟨k_nil⟩
instance rd_k_call {sp : Sp} {E : XK} {tt : TA} : Rd (tCall sp [] E tt σ H Q) (tt σ H fun vs H1 => sp vs H1 Q E) := ⟨k_call⟩
instance rd_k_cb {r : List V → Hp → VK → Prop} {tt : TA} : Rd (tCB r tt σ H Q) (tt σ H fun vs H1 => r vs H1 Q) := ⟨k_cb⟩
instance rd_k_tB {Q : Bool → Hp → Prop} : Rd (tB te σ H Q) (te σ H fun z H3 => ∃ k, z = .bl k ∧ Q k H3) := ⟨k_tB⟩
instance rd_k_and {Q : Bool → Hp → Prop} : Rd (tAnd c d σ H Q) (c σ H fun b H1 => if b = true then d σ H1 Q else Q false H1) := ⟨k_and⟩
instance rd_k_or {Q : Bool → Hp → Prop} : Rd (tOr c d σ H Q) (c σ H fun b H1 => if b = true then Q true H1 else d σ H1 Q) := ⟨k_or⟩
instance rd_k_not {Q : Bool → Hp → Prop} : Rd (tNot c σ H Q) (c σ H fun b H1 => Q (!b) H1) := ⟨k_not⟩
instance rd_k_andV  : Rd (tAndV ta tb σ H Q) (ta σ H fun x H1 => ∃ k, x = .bl k ∧ if k = true then tb σ H1 Q else Q (.bl false) H1) := ⟨k_andV⟩
instance rd_k_orV  : Rd (tOrV ta tb σ H Q) (ta σ H fun x H1 => ∃ k, x = .bl k ∧ if k = true then Q (.bl true) H1 else tb σ H1 Q) := ⟨k_orV⟩
instance rd_k_notV  : Rd (tNotV ta σ H Q) (ta σ H fun x H1 => ∃ k, x = .bl k ∧ Q (.bl (!k)) H1) := ⟨k_notV⟩
instance rd_k_blN {b : Bool} {A : Bool → Prop} : Rd (∃ k, V.bl b = .bl k ∧ A k) (A b) := ⟨k_blN⟩
instance rd_k_chain {r' : R2} : Rd (tChain r r' ta tb tc σ H Q) (ta σ H fun x H1 => tb σ H1 fun y H2 => r x y H2 fun z H3 => ∃ k, z = .bl k ∧ (if k = true then tc σ H3 fun w H4 => r' y w H4 Q else Q (.bl false) H3)) := ⟨k_chain⟩
instance rd_k_un {r : V → Hp → VK → Prop} : Rd (tUn r ta σ H Q) (ta σ H fun x H1 => r x H1 Q) := ⟨k_un⟩
instance rd_k_bm {T : String} {r : V → List V → Hp → VK → Prop} {to : TE} {tt : TA} : Rd (tBM K T r to tt σ H Q) (to σ H fun x H1 => tyV K T x H1 ∧ tt σ H1 fun xs H2 => r x xs H2 Q) := ⟨k_bm⟩
instance rd_k_bm0 {T : String} {r : V → List V → Hp → VK → Prop} {to : TE} : Rd (tBM0 K T r to σ H Q) (to σ H fun x H1 => tyV K T x H1 ∧ r x [] H1 Q) := ⟨k_bm0⟩
instance rd_k_tup {tt : TA} : Rd (tTupN tt σ H Q) (tt σ H fun xs H1 => xs.length ≤ sizeLine ∧ ∀ p H2, New H1 p (.tup xs) H2 → Q (.ref p) H2) := ⟨k_tup⟩
instance rd_k_lst {tt : TA} : Rd (tLstN tt σ H Q) (tt σ H fun xs H1 => xs.length ≤ sizeLine ∧ ∀ p H2, New H1 p (.lst xs) H2 → Q (.ref p) H2) := ⟨k_lst⟩
instance rd_k_dnew  : Rd (tDNewN σ H Q) (∀ p H2, New H p (.dK []) H2 → Q (.ref p) H2) := ⟨k_dnew⟩
instance rd_k_dput {td ty tv : TE} : Rd (sDPutN td ty tv ⟨nx, rt, bk, ct⟩ σ H) (tv σ H fun v H1 => td σ H1 fun x H2 => ty σ H2 fun y H3 => ∃ a kvs k, x = .ref a ∧ H3 a = some (.dK kvs) ∧ y = kV k ∧ kvs.length < sizeLine ∧ ∀ H4, Wr H3 a (.dK (putK kvs k v)) H4 → nx σ H4) := ⟨k_dput⟩
instance rd_k_sl {r : V → Option Int → Option Int → Hp → VK → Prop} {tl th : TO} : Rd (tSl r te tl th σ H Q) (te σ H fun x H1 => tl σ H1 fun l H2 => th σ H2 fun u H3 => r x l u H3 Q) := ⟨k_sl⟩
instance rd_k_noPart {Q : Option Int → Hp → Prop} : Rd (tNoPart σ H Q) (Q none H) := ⟨k_noPart⟩
instance rd_k_part {Q : Option Int → Hp → Prop} : Rd (tPart te σ H Q) (te σ H fun x H1 => ∃ i, x = .int i ∧ Q (some i) H1) := ⟨k_part⟩
instance rd_k_int1 {a : Int} {A : Int → Prop} : Rd (∃ i, V.int a = .int i ∧ A i) (A a) := ⟨k_int1⟩
instance rd_k_retN  : Rd (tRetN ⟨nx, rt, bk, ct⟩ σ H) (rt .non H) := ⟨k_retN⟩
instance rd_v_addI {i j : Int} : Rd (rAdd K (.int i) (.int j) H Q) (Q (.int (i + j)) H) := ⟨v_addI⟩
instance rd_v_sub {i j : Int} : Rd (rSub (.int i) (.int j) H Q) (Q (.int (i - j)) H) := ⟨v_sub⟩
instance rd_v_neg {i : Int} : Rd (rNeg (.int i) H Q) (Q (.int (-i)) H) := ⟨v_neg⟩
instance rd_v_pow6  : Rd (rPow (.int 10) (.int 6) H Q) (Q (.int 1000000) H) := ⟨v_pow6⟩
instance rd_v_lt {i j : Int} : Rd (rLt (.int i) (.int j) H Q) (Q (.bl (decide (i < j))) H) := ⟨v_lt⟩
instance rd_v_le {i j : Int} : Rd (rLe (.int i) (.int j) H Q) (Q (.bl (decide (i ≤ j))) H) := ⟨v_le⟩
instance rd_v_gt {i j : Int} : Rd (rGt (.int i) (.int j) H Q) (Q (.bl (decide (j < i))) H) := ⟨v_gt⟩
instance rd_v_ge {i j : Int} : Rd (rGe (.int i) (.int j) H Q) (Q (.bl (decide (j ≤ i))) H) := ⟨v_ge⟩
instance rd_v_eqI {i j : Int} : Rd (rEqA K (.int i) (.int j) H Q) (Q (.bl (decide (i = j))) H) := ⟨v_eqI⟩
instance rd_v_eqS {i j : Str} : Rd (rEqA K (.str i) (.str j) H Q) (Q (.bl (decide (i = j))) H) := ⟨v_eqS⟩
instance rd_v_eqB {i j : Bool} : Rd (rEqA K (.bl i) (.bl j) H Q) (Q (.bl (decide (i = j))) H) := ⟨v_eqB⟩
instance rd_v_eqSI {i : Str} {j : Int} : Rd (rEqA K (.str i) (.int j) H Q) (Q (.bl false) H) := ⟨v_eqSI⟩
instance rd_v_eqIS {i : Int} {j : Str} : Rd (rEqA K (.int i) (.str j) H Q) (Q (.bl false) H) := ⟨v_eqIS⟩
instance rd_v_neI {i j : Int} : Rd (rNeA K (.int i) (.int j) H Q) (Q (.bl (!decide (i = j))) H) := ⟨v_neI⟩
instance rd_v_neS {i j : Str} : Rd (rNeA K (.str i) (.str j) H Q) (Q (.bl (!decide (i = j))) H) := ⟨v_neS⟩
instance rd_v_neB {i j : Bool} : Rd (rNeA K (.bl i) (.bl j) H Q) (Q (.bl (!decide (i = j))) H) := ⟨v_neB⟩
instance rd_v_isN  : Rd (rIs .non .non H Q) (Q (.bl true) H) := ⟨v_isN⟩
instance rd_v_isI {i : Int} : Rd (rIs (.int i) .non H Q) (Q (.bl false) H) := ⟨v_isI⟩
instance rd_v_isS {i : Str} : Rd (rIs (.str i) .non H Q) (Q (.bl false) H) := ⟨v_isS⟩
instance rd_v_isR {a : Addr} : Rd (rIs (.ref a) .non H Q) (Q (.bl false) H) := ⟨v_isR⟩
instance rd_v_nisN  : Rd (rIsNot .non .non H Q) (Q (.bl false) H) := ⟨v_nisN⟩
instance rd_v_nisI {i : Int} : Rd (rIsNot (.int i) .non H Q) (Q (.bl true) H) := ⟨v_nisI⟩
instance rd_v_nisS {i : Str} : Rd (rIsNot (.str i) .non H Q) (Q (.bl true) H) := ⟨v_nisS⟩
instance rd_v_nisR {a : Addr} : Rd (rIsNot (.ref a) .non H Q) (Q (.bl true) H) := ⟨v_nisR⟩
instance rd_v_intB {k : Bool} : Rd (rInt [.bl k] H Q) (Q (.int (if k then 1 else 0)) H) := ⟨v_intB⟩
instance rd_v_intI {i : Int} : Rd (rInt [.int i] H Q) (Q (.int i) H) := ⟨v_intI⟩
instance rd_v_min2 {i j : Int} : Rd (rMin2 [.int i, .int j] H Q) (Q (.int (if j < i then j else i)) H) := ⟨v_min2⟩
instance rd_i_T {A B : Prop} : Rd (if true = true then A else B) (A) := ⟨i_T⟩
instance rd_i_F {A B : Prop} : Rd (if false = true then A else B) (B) := ⟨i_F⟩
end
section
variable {K : PySem.W.Frag} {σ : L2.St} {H : Hp} {nx : L2.St → Hp → Prop} {rt : VK} {bk ct : L2.St → Hp → Prop} {tb : TS} {tl : TE} {ta : TA} {gt : TG}
instance rd_k_forL  : Rd (tFor (iList K tl) gt tb ⟨nx, rt, bk, ct⟩ σ H) (tl σ H (ForL K gt tb nx rt σ)) := ⟨k_forL⟩
instance rd_k_forT  : Rd (tFor (iTup K tl) gt tb ⟨nx, rt, bk, ct⟩ σ H) (tl σ H (ForT K gt tb nx rt σ)) := ⟨k_forT⟩
instance rd_k_forR1  : Rd (tFor (iRng1 ta) gt tb ⟨nx, rt, bk, ct⟩ σ H) (ta σ H (ForR1 gt tb nx rt σ)) := ⟨k_forR1⟩
instance rd_k_forR2  : Rd (tFor (iRng2 ta) gt tb ⟨nx, rt, bk, ct⟩ σ H) (ta σ H (ForR2 gt tb nx rt σ)) := ⟨k_forR2⟩
instance rd_k_forE  : Rd (tFor (iEnum K ta) gt tb ⟨nx, rt, bk, ct⟩ σ H) (ta σ H (ForE K gt tb nx rt σ)) := ⟨k_forE⟩
instance rd_k_forZ  : Rd (tFor (iZip K ta) gt tb ⟨nx, rt, bk, ct⟩ σ H) (ta σ H (ForZ K gt tb nx rt σ)) := ⟨k_forZ⟩
instance rd_k_gn {i : Nat} {v : V} {Q : L2.St → Hp → Prop} : Rd (gName i v σ H Q) (Q (σ.set i (some v)) H) := ⟨k_gn⟩
end
section
variable {K : PySem.W.Frag} {σ : L2.St} {H : Hp} {Q : VK} {te tl : TE} {ta : TA} {gt : TG} {tt : TT} {vs : List Nat}
instance rd_k_lcLi  : Rd (tLc (iList K tl) gt tt te vs σ H Q) (tl σ H (LcL K gt tt te vs σ Q)) := ⟨k_lcLi⟩
instance rd_k_lcTu  : Rd (tLc (iTup K tl) gt tt te vs σ H Q) (tl σ H (LcT K gt tt te vs σ Q)) := ⟨k_lcTu⟩
instance rd_k_lcR1  : Rd (tLc (iRng1 ta) gt tt te vs σ H Q) (ta σ H (LcR1 gt tt te vs σ Q)) := ⟨k_lcR1⟩
end
end Tf

set_option Elab.async false
set_option linter.all false
set_option maxRecDepth 100000
set_option maxHeartbeats 4000000
namespace Tf
open PySem L2
/-! ## data: sources, rows, names -/
inductive Src where
  | num (i : Int) | nm (s : Str)
  deriving DecidableEq
def Src.v : Src → V
  | .num i => .int i
  | .nm s => .str s
inductive Wk where
  | add | minus | times | less
  deriving DecidableEq
def Wk.s : Wk → Str
  | .add => "add" | .minus => "minus" | .times => "times" | .less => "less"
def Wk.f : Wk → Int → Int → Int
  | .add, a, b => (a + b) % 1000000
  | .minus, a, b => (a - b) % 1000000
  | .times, a, b => a * b % 1000000
  | .less, a, b => if a < b then 1 else 0
inductive R where
  | put (n : Str) (k : Int) | copy (n : Str) (s : Src) | work (w : Wk) (n : Str) (a b : Src) | tell (s : Src)
  | jump (p : Int) | zero (n : Str) (p : Int) | stop
  | guard (s : Src) (z : Bool) (p st : Int) (rp : List (Str × Src))
  deriving DecidableEq
/-- the places of a row that is no guard -/
def R.vs : R → List V
  | .put n k => [.str "put", .str n, .int k]
  | .copy n s => [.str "copy", .str n, s.v]
  | .work w n a b => [.str w.s, .str n, a.v, b.v]
  | .tell s => [.str "tell", s.v]
  | .jump p => [.str "jump", .int p]
  | .zero n p => [.str "zero", .str n, .int p]
  | .stop => [.str "stop"]
  | .guard .. => []
theorem small_sz {n : Nat} (h : n ≤ 1000) : n < sizeLine := Nat.lt_of_le_of_lt h (by decide)
structure All2 {α β : Type} (F : α → β → Prop) (xs : List α) (ys : List β) : Prop where
  len : xs.length = ys.length
  at_ : ∀ (i : Nat) x y, xs[i]? = some x → ys[i]? = some y → F x y
def PairAt (H : Hp) (v : V) (p : Str × Src) : Prop := ∃ a, v = .ref a ∧ H a = some (.tup [.str p.1, p.2.v])
def RepAt (H : Hp) (q : Addr) (rp : List (Str × Src)) : Prop := ∃ o vs, o.dict = none ∧ H q = some (.frz o (.tup vs)) ∧ All2 (PairAt H) vs rp
def RowO (H : Hp) (a : Addr) : R → Prop
  | .guard s z p st rp => ∃ q, H a = some (.tup [.str "guard", s.v, .bl z, .int p, .int st, .ref q]) ∧ RepAt H q rp
  | r => H a = some (.tup r.vs)
def RowAt (H : Hp) (v : V) (r : R) : Prop := ∃ a, v = .ref a ∧ RowO H a r
def RowsV (H : Hp) (vs : List V) (rs : List R) : Prop := All2 (RowAt H) vs rs
def RowsAt (H : Hp) (a : Addr) (rs : List R) : Prop := ∃ vs, H a = some (.lst vs) ∧ RowsV H vs rs
/-- tuples stay -/
def isTup : HO → Bool
  | .tup _ => true
  | .frz _ (.tup _) => true
  | _ => false
def Tk (H H' : Hp) : Prop := ∀ b u, isTup u = true → H b = some u → H' b = some u
theorem Same.tk {H H' : Hp} (e : Same H H') : Tk H H' := fun b xs _ h => e b _ h
theorem New.tk {H H2 : Hp} {p : Addr} {o : HO} (n : New H p o H2) : Tk H H2 := Same.tk n.sm
theorem Wr.tk {H H2 : Hp} {a : Addr} {o u : HO} (w : Wr H a o H2) (h : H a = some u) (n : isTup u = false) : Tk H H2 := fun b x i hb => by
  rw [w.el b (ne_of hb h (by intro z; subst z; rw [n] at i; cases i))]
  exact hb
theorem Tk.refl (H : Hp) : Tk H H := fun _ _ _ h => h
theorem Tk.trans {H H1 H2 : Hp} (a : Tk H H1) (b : Tk H1 H2) : Tk H H2 := fun c x i h => b c x i (a c x i h)
theorem Same.tr2 {H H1 H2 : Hp} (b : Same H1 H2) (a : Same H H1) : Same H H2 := Same.trans a b
structure NewX (H : Hp) (p : Addr) (o : HO) (H2 : Hp) : Prop where
  fr : H p = none
  sm : Same H H2
  at_ : H2 p = some o
theorem New.x {H H2 : Hp} {p : Addr} {o : HO} (n : New H p o H2) : NewX H p o H2 := ⟨n.fr, n.sm, n.at_⟩
theorem NewX.tk {H H2 : Hp} {p : Addr} {o : HO} (n : NewX H p o H2) : Tk H H2 := Same.tk n.sm
theorem NewX.of {H0 H H2 : Hp} {p : Addr} {o : HO} (e : Same H0 H) (n : NewX H p o H2) : NewX H0 p o H2 := ⟨Same.free e n.fr, Same.trans e n.sm, n.at_⟩
/-- an object made since H0 is written -/
theorem Wr.newX {H0 H H2 : Hp} {p : Addr} {o u : HO} (n : NewX H0 p u H) (w : Wr H p o H2) : NewX H0 p o H2 := ⟨n.fr, w.same n.sm n.fr, w.at_⟩
theorem NewX.up {H0 H H2 : Hp} {p : Addr} {o : HO} (n : NewX H0 p o H) (e : Same H H2) : NewX H0 p o H2 := ⟨n.fr, Same.trans n.sm e, e _ _ n.at_⟩
section
variable {α β : Type} {F G : α → β → Prop} {xs xs' : List α} {ys ys' : List β}
theorem All2.nil : All2 F [] [] := ⟨rfl, fun i x y h => by simp at h⟩
theorem All2.mono (a : All2 F xs ys) (k : ∀ x y, F x y → G x y) : All2 G xs ys := ⟨a.len, fun i x y h1 h2 => k _ _ (a.at_ i x y h1 h2)⟩
theorem All2.get (a : All2 F xs ys) {i : Nat} {x : α} (h : xs[i]? = some x) : ∃ y, ys[i]? = some y ∧ F x y := by
  have hi := (List.getElem?_eq_some_iff.mp h).1
  have hi2 : i < ys.length := by rw [← a.len]; exact hi
  exact ⟨ys[i], List.getElem?_eq_getElem hi2, a.at_ i x _ h (List.getElem?_eq_getElem hi2)⟩
theorem All2.get' (a : All2 F xs ys) {i : Nat} {y : β} (h : ys[i]? = some y) : ∃ x, xs[i]? = some x ∧ F x y := by
  have hi := (List.getElem?_eq_some_iff.mp h).1
  have hi2 : i < xs.length := by rw [a.len]; exact hi
  exact ⟨xs[i], List.getElem?_eq_getElem hi2, a.at_ i _ y (List.getElem?_eq_getElem hi2) h⟩
theorem All2.cons {x : α} {y : β} (h : F x y) (a : All2 F xs ys) : All2 F (x :: xs) (y :: ys) := ⟨by simp [a.len], fun i x' y' h1 h2 => by
  cases i with
  | zero => cases h1; cases h2; exact h
  | succ i => exact a.at_ i x' y' h1 h2⟩
theorem All2.append (a : All2 F xs ys) (b : All2 F xs' ys') : All2 F (xs ++ xs') (ys ++ ys') := ⟨by simp [a.len, b.len], fun i x y h1 h2 => by
  by_cases hi : i < xs.length
  · rw [List.getElem?_append_left hi] at h1
    rw [List.getElem?_append_left (by rw [← a.len]; exact hi)] at h2
    exact a.at_ i x y h1 h2
  · rw [List.getElem?_append_right (by omega)] at h1
    rw [List.getElem?_append_right (by rw [← a.len]; omega), ← a.len] at h2
    exact b.at_ _ x y h1 h2⟩
theorem All2.snoc {x : α} {y : β} (a : All2 F xs ys) (h : F x y) : All2 F (xs ++ [x]) (ys ++ [y]) := a.append (.cons h .nil)
theorem All2.paired : ∀ {xs : List α} {ys : List β}, All2 F xs ys → Paired F xs ys
  | [], [], _ => .nil
  | [], _ :: _, a => absurd a.len (by simp)
  | _ :: _, [], a => absurd a.len (by simp)
  | x :: xs, y :: ys, a => .cons (a.at_ 0 x y rfl rfl) (All2.paired ⟨by have := a.len; simpa using this, fun i x' y' h1 h2 => a.at_ (i + 1) x' y' h1 h2⟩)
end
theorem PairAt.tk {H H' : Hp} (t : Tk H H') {v : V} {p : Str × Src} (h : PairAt H v p) : PairAt H' v p := let ⟨a, e, h⟩ := h; ⟨a, e, t _ _ rfl h⟩
theorem RepAt.tk {H H' : Hp} (t : Tk H H') {q : Addr} {rp : List (Str × Src)} (h : RepAt H q rp) : RepAt H' q rp := let ⟨o, vs, d, h, a⟩ := h; ⟨o, vs, d, t _ _ rfl h, a.mono fun _ _ => PairAt.tk t⟩
theorem RowO.tk {H H' : Hp} (t : Tk H H') {a : Addr} : ∀ {r : R}, RowO H a r → RowO H' a r
  | .guard .., ⟨q, h, k⟩ => ⟨q, t _ _ rfl h, k.tk t⟩
  | .put .., h => t _ _ rfl h
  | .copy .., h => t _ _ rfl h
  | .work .., h => t _ _ rfl h
  | .tell .., h => t _ _ rfl h
  | .jump .., h => t _ _ rfl h
  | .zero .., h => t _ _ rfl h
  | .stop, h => t _ _ rfl h
theorem RowAt.tk {H H' : Hp} (t : Tk H H') {v : V} {r : R} (h : RowAt H v r) : RowAt H' v r := let ⟨a, e, h⟩ := h; ⟨a, e, h.tk t⟩
theorem RowsV.tk {H H' : Hp} (t : Tk H H') {vs : List V} {rs : List R} (h : RowsV H vs rs) : RowsV H' vs rs := All2.mono h fun _ _ => RowAt.tk t
theorem RowsAt.same {H H' : Hp} (t : Same H H') {a : Addr} {rs : List R} (h : RowsAt H a rs) : RowsAt H' a rs := let ⟨vs, h, k⟩ := h; ⟨vs, t _ _ h, RowsV.tk (Same.tk t) k⟩
/-! ### names that hold numbers -/
abbrev En0 := List (Str × Int)
def encE (e : En0) : List (Key × V) := e.map fun p => (Sum.inr p.1, V.int p.2)
def lkE (e : En0) (n : Str) : Option Int := (e.find? fun p => decide (p.1 = n)).map (·.2)
def putE (e : En0) (n : Str) (v : Int) : En0 := if (e.any fun p => decide (p.1 = n)) = true then e.map (fun p => if p.1 = n then (p.1, v) else p) else e ++ [(n, v)]
theorem encE_len (e : En0) : (encE e).length = e.length := List.length_map _
theorem valV_encE (e : En0) (n : Str) : valV (encE e) (.inr n) = (lkE e n).map V.int := by
  induction e with
  | nil => rfl
  | cons p r ih =>
    by_cases h : p.1 = n
    · have h' : (Sum.inr p.1 : Key) = Sum.inr n := by rw [h]
      show valV ((Sum.inr p.1, V.int p.2) :: encE r) (.inr n) = _
      rw [valV_pos h']
      unfold lkE
      rw [List.find?_cons_of_pos (by simpa using h)]
      rfl
    · have h' : ¬ (Sum.inr p.1 : Key) = Sum.inr n := fun z => h (Sum.inr.inj z)
      show valV ((Sum.inr p.1, V.int p.2) :: encE r) (.inr n) = _
      rw [valV_neg h', ih]
      unfold lkE
      rw [List.find?_cons_of_neg (by simpa using h)]
theorem encE_any (e : En0) (n : Str) : ((encE e).any fun kv => decide (kv.1 = (Sum.inr n : Key))) = e.any fun p => decide (p.1 = n) := by
  induction e with
  | nil => rfl
  | cons p r ih =>
    show (decide ((Sum.inr p.1 : Key) = Sum.inr n) || (encE r).any _) = (decide (p.1 = n) || r.any _)
    rw [ih]
    congr 1
    exact key_rr p.1 n
theorem putK_encE (e : En0) (n : Str) (v : Int) : putK (encE e) (.inr n) (.int v) = encE (putE e n v) := by
  unfold putK putE
  rw [encE_any]
  by_cases h : (e.any fun p => decide (p.1 = n)) = true
  · rw [if_pos h, if_pos h]
    unfold encE
    rw [List.map_map, List.map_map]
    refine List.map_congr_left fun p _ => ?_
    show (if (Sum.inr p.1 : Key) = Sum.inr n then ((Sum.inr p.1 : Key), V.int v) else (Sum.inr p.1, V.int p.2)) = _
    by_cases hp : p.1 = n
    · rw [if_pos (by rw [hp])]
      show _ = ((Sum.inr (if p.1 = n then (p.1, v) else p).1 : Key), V.int (if p.1 = n then (p.1, v) else p).2)
      rw [if_pos hp]
    · rw [if_neg (fun z => hp (Sum.inr.inj z))]
      show _ = ((Sum.inr (if p.1 = n then (p.1, v) else p).1 : Key), V.int (if p.1 = n then (p.1, v) else p).2)
      rw [if_neg hp]
  · rw [if_neg h, if_neg h]
    unfold encE
    rw [List.map_append]
    rfl
theorem lkE_putE (e : En0) (n m : Str) (v : Int) : lkE (putE e n v) m = if m = n then some v else lkE e m := by
  have h := valV_put (encE e) (.inr n) (.inr m) (.int v)
  rw [putK_encE, valV_encE, valV_encE] at h
  by_cases c : m = n
  · rw [if_pos (by rw [c])] at h
    rw [if_pos c]
    cases q : lkE (putE e n v) m with
    | none => rw [q] at h; cases h
    | some z => rw [q] at h; cases h; rfl
  · rw [if_neg (fun z => c (Sum.inr.inj z))] at h
    rw [if_neg c]
    cases q : lkE (putE e n v) m with
    | none =>
      rw [q] at h
      cases q2 : lkE e m with
      | none => rfl
      | some z => rw [q2] at h; cases h
    | some z =>
      rw [q] at h
      cases q2 : lkE e m with
      | none => rw [q2] at h; cases h
      | some z2 => rw [q2] at h; cases h; rfl
def keys (e : En0) : List Str := e.map (·.1)
theorem any_keys (e : En0) (n : Str) : (e.any fun p => decide (p.1 = n)) = true ↔ n ∈ keys e := by
  rw [List.any_eq_true]
  constructor
  · rintro ⟨p, hp, h⟩
    exact List.mem_map.mpr ⟨p, hp, of_decide_eq_true h⟩
  · intro h
    obtain ⟨p, hp, e1⟩ := List.mem_map.mp h
    exact ⟨p, hp, decide_eq_true e1⟩
theorem keys_putE (e : En0) (n : Str) (v : Int) : keys (putE e n v) = if n ∈ keys e then keys e else keys e ++ [n] := by
  unfold putE
  by_cases h : (e.any fun p => decide (p.1 = n)) = true
  · rw [if_pos h, if_pos ((any_keys e n).mp h)]
    unfold keys
    rw [List.map_map]
    refine List.map_congr_left fun p _ => ?_
    show (if p.1 = n then (p.1, v) else p).1 = p.1
    split <;> rfl
  · rw [if_neg h, if_neg (fun z => h ((any_keys e n).mpr z))]
    unfold keys
    rw [List.map_append]
    rfl
theorem keys_putE_mem {e : En0} {n : Str} {v : Int} (h : n ∈ keys e) : keys (putE e n v) = keys e := by rw [keys_putE, if_pos h]
theorem lkE_mem {e : En0} {n : Str} (h : n ∈ keys e) : ∃ v, lkE e n = some v := by
  cases q : lkE e n with
  | some v => exact ⟨v, rfl⟩
  | none =>
    exfalso
    obtain ⟨p, hp, e1⟩ := List.mem_map.mp h
    unfold lkE at q
    rw [Option.map_eq_none_iff] at q
    have := List.find?_eq_none.mp q p hp
    exact this (decide_eq_true e1)
theorem lkE_some {e : En0} {n : Str} {v : Int} (h : lkE e n = some v) : (n, v) ∈ e := by
  unfold lkE at h
  obtain ⟨p, hp, rfl⟩ := Option.map_eq_some_iff.mp h
  have h1 := List.mem_of_find?_eq_some hp
  have h2 : p.1 = n := of_decide_eq_true (List.find?_some (p := fun p : Str × Int => decide (p.1 = n)) hp)
  rw [← h2]
  exact h1
/-- numbers within their bound -/
def EnOk (e : En0) : Prop := ∀ p ∈ e, 0 ≤ p.2 ∧ p.2 < 1000000
theorem EnOk.lk {e : En0} (h : EnOk e) {n : Str} {v : Int} (q : lkE e n = some v) : 0 ≤ v ∧ v < 1000000 := h _ (lkE_some q)
theorem putE_mem {e : En0} {n : Str} {v : Int} {p : Str × Int} (h : p ∈ putE e n v) : p ∈ e ∨ p.2 = v := by
  unfold putE at h
  split at h
  · obtain ⟨q, hq, rfl⟩ := List.mem_map.mp h
    split
    · exact .inr rfl
    · exact .inl hq
  · rcases List.mem_append.mp h with h | h
    · exact .inl h
    · exact .inr (by rw [List.mem_singleton.mp h])
theorem EnOk.put {e : En0} (h : EnOk e) {n : Str} {v : Int} (hv : 0 ≤ v ∧ v < 1000000) : EnOk (putE e n v) := fun p hp => by
  rcases putE_mem hp with q | q
  · exact h p q
  · rw [q]; exact hv
/-- what a source is -/
def srcV (e : En0) : Src → Int
  | .num i => i
  | .nm n => (lkE e n).getD 0
def srcIn (e : En0) : Src → Prop
  | .num _ => True
  | .nm n => n ∈ keys e
def srcOk : Src → Prop
  | .num i => 0 ≤ i ∧ i < 1000000
  | .nm _ => True
theorem Wk.f_ok (w : Wk) {a b : Int} : 0 ≤ w.f a b ∧ w.f a b < 1000000 := by
  cases w <;> simp only [Wk.f]
  · omega
  · omega
  · exact ⟨Int.emod_nonneg _ (by decide), Int.emod_lt_of_pos _ (by decide)⟩
  · split <;> omega
theorem srcV_ok {e : En0} {s : Src} (h : EnOk e) (hi : srcIn e s) (ho : srcOk s) : 0 ≤ srcV e s ∧ srcV e s < 1000000 := by
  cases s with
  | num i => exact ho
  | nm n =>
    obtain ⟨v, hv⟩ := lkE_mem (show n ∈ keys e from hi)
    show 0 ≤ (lkE e n).getD 0 ∧ (lkE e n).getD 0 < 1000000
    rw [hv]
    exact h.lk hv
end Tf

set_option Elab.async false
set_option linter.all false
set_option maxRecDepth 100000
set_option maxHeartbeats 0
namespace Tf
open PySem L2
def t_worked (g : En) : TS := tSeq (tIfS (tTest (tOp (rEqA g.K) (tVar 0) (tC (.str "add")))) (tRet (tOp (rMod) (tOp (rAdd g.K) (tVar 1) (tVar 2)) (tC (.int 1000000)))) (tNext))
    (tSeq (tIfS (tTest (tOp (rEqA g.K) (tVar 0) (tC (.str "minus")))) (tRet (tOp (rMod) (tOp (rSub) (tVar 1) (tVar 2)) (tC (.int 1000000)))) (tNext))
    (tSeq (tIfS (tTest (tOp (rEqA g.K) (tVar 0) (tC (.str "times")))) (tRet (tOp (rMod) (tOp (rMul) (tVar 1) (tVar 2)) (tC (.int 1000000)))) (tNext))
    (tRet (tCB (rInt) (tCons (tOp (rLt) (tVar 1) (tVar 2)) (tNil))))))
def sp_worked (g : En) : Sp := fun vs H Q _ => ∃ a0 a1 a2, vs = [a0, a1, a2] ∧ t_worked g ⟨fun _ H1 => Q .non H1, Q, fun _ _ => False, fun _ _ => False⟩ [some a0, some a1, some a2] H
def t_value_of (g : En) : TS := tSeq (tIfS (tB (tCB (rIsX g.K) (tCons (tVar 1) (tCons (tC (.ty "int")) (tNil))))) (tRet (tVar 1)) (tNext))
    (tRet (tOp (rIxA g.K) (tVar 0) (tVar 1)))
def sp_value_of (g : En) : Sp := fun vs H Q _ => ∃ a0 a1, vs = [a0, a1] ∧ t_value_of g ⟨fun _ H1 => Q .non H1, Q, fun _ _ => False, fun _ _ => False⟩ [some a0, some a1] H
def t_done (g : En) : TS := tSeq (tAsg (tCB (rDict) (tCons (tVar 1) (tNil))) (gName 2))
    (tSeq (tIfS (tTest (tOp (rInA g.K) (tOp (rIxA g.K) (tVar 0) (tC (.int 0))) (tTupN (tCons (tC (.str "put")) (tCons (tC (.str "copy")) (tNil)))))) (sDPutN (tVar 2) (tOp (rIxA g.K) (tVar 0) (tC (.int 1))) (tCall (sp_value_of g) [] E0 (tCons (tVar 1) (tCons (tOp (rIxA g.K) (tVar 0) (tC (.int 2))) (tNil))))) (tIfS (tTest (tOp (rNeA g.K) (tOp (rIxA g.K) (tVar 0) (tC (.int 0))) (tC (.str "tell")))) (sDPutN (tVar 2) (tOp (rIxA g.K) (tVar 0) (tC (.int 1))) (tCall (sp_worked g) [] E0 (tCons (tOp (rIxA g.K) (tVar 0) (tC (.int 0))) (tCons (tCall (sp_value_of g) [] E0 (tCons (tVar 1) (tCons (tOp (rIxA g.K) (tVar 0) (tC (.int 2))) (tNil)))) (tCons (tCall (sp_value_of g) [] E0 (tCons (tVar 1) (tCons (tOp (rIxA g.K) (tVar 0) (tC (.int 3))) (tNil)))) (tNil)))))) (tNext)))
    (tRet (tVar 2)))
def sp_done (g : En) : Sp := fun vs H Q _ => ∃ a0 a1, vs = [a0, a1] ∧ t_done g ⟨fun _ H1 => Q .non H1, Q, fun _ _ => False, fun _ _ => False⟩ [some a0, some a1, none] H
def t_told_by (g : En) : TS := tSeq (tIfS (tTest (tOp (rEqA g.K) (tOp (rIxA g.K) (tVar 0) (tC (.int 0))) (tC (.str "tell")))) (tRet (tLstN (tCons (tCall (sp_value_of g) [] E0 (tCons (tVar 1) (tCons (tOp (rIxA g.K) (tVar 0) (tC (.int 1))) (tNil)))) (tNil)))) (tNext))
    (tRet (tLstN (tNil)))
def sp_told_by (g : En) : Sp := fun vs H Q _ => ∃ a0 a1, vs = [a0, a1] ∧ t_told_by g ⟨fun _ H1 => Q .non H1, Q, fun _ _ => False, fun _ _ => False⟩ [some a0, some a1] H
def t_next_place (g : En) : TS := tSeq (tIfS (tTest (tOp (rEqA g.K) (tOp (rIxA g.K) (tVar 0) (tC (.int 0))) (tC (.str "jump")))) (tRet (tOp (rIxA g.K) (tVar 0) (tC (.int 1)))) (tNext))
    (tSeq (tIfS (tAnd (tTest (tOp (rEqA g.K) (tOp (rIxA g.K) (tVar 0) (tC (.int 0))) (tC (.str "zero")))) (tTest (tOp (rEqA g.K) (tOp (rIxA g.K) (tVar 2) (tOp (rIxA g.K) (tVar 0) (tC (.int 1)))) (tC (.int 0))))) (tRet (tOp (rIxA g.K) (tVar 0) (tC (.int 2)))) (tNext))
    (tRet (tOp (rAdd g.K) (tVar 1) (tC (.int 1)))))
def sp_next_place (g : En) : Sp := fun vs H Q _ => ∃ a0 a1 a2, vs = [a0, a1, a2] ∧ t_next_place g ⟨fun _ H1 => Q .non H1, Q, fun _ _ => False, fun _ _ => False⟩ [some a0, some a1, some a2] H
def t_stepped (g : En) : TS := tSeq (tAsg (tOp (rIxA g.K) (tVar 0) (tVar 1)) (gName 3))
    (tSeq (tIfS (tTest (tOp (rInA g.K) (tOp (rIxA g.K) (tVar 3) (tC (.int 0))) (tTupN (tCons (tC (.str "jump")) (tCons (tC (.str "zero")) (tNil)))))) (tRet (tTupN (tCons (tCall (sp_next_place g) [] E0 (tCons (tVar 3) (tCons (tVar 1) (tCons (tVar 2) (tNil))))) (tCons (tCB (rDict) (tCons (tVar 2) (tNil))) (tCons (tLstN (tNil)) (tNil)))))) (tNext))
    (tRet (tTupN (tCons (tOp (rAdd g.K) (tVar 1) (tC (.int 1))) (tCons (tCall (sp_done g) [] E0 (tCons (tVar 3) (tCons (tVar 2) (tNil)))) (tCons (tCall (sp_told_by g) [] E0 (tCons (tVar 3) (tCons (tVar 2) (tNil)))) (tNil)))))))
def sp_stepped (g : En) : Sp := fun vs H Q _ => ∃ a0 a1 a2, vs = [a0, a1, a2] ∧ t_stepped g ⟨fun _ H1 => Q .non H1, Q, fun _ _ => False, fun _ _ => False⟩ [some a0, some a1, some a2, none] H
def t_law_cell_at (g : En) : TS := tSeq (tIfS (tTest (tOp (rLt) (tVar 1) (tCB (rLen g.K) (tCons (tVar 0) (tNil))))) (tRet (tOp (rIxA g.K) (tVar 0) (tVar 1))) (tNext))
    (tRet (tC (.int 0)))
def sp_law_cell_at (g : En) : Sp := fun vs H Q _ => ∃ a0 a1, vs = [a0, a1] ∧ t_law_cell_at g ⟨fun _ H1 => Q .non H1, Q, fun _ _ => False, fun _ _ => False⟩ [some a0, some a1] H
def t_law_whole (g : En) : TS := tRet (tAndV (tCB (rIsX g.K) (tCons (tVar 0) (tCons (tC (.ty "int")) (tNil)))) (tNotV (tCB (rIsX g.K) (tCons (tVar 0) (tCons (tC (.ty "bool")) (tNil))))))
def sp_law_whole (g : En) : Sp := fun vs H Q _ => ∃ a0, vs = [a0] ∧ t_law_whole g ⟨fun _ H1 => Q .non H1, Q, fun _ _ => False, fun _ _ => False⟩ [some a0] H
def t_law_names (g : En) : TS := tSeq (tAsg (tC (.str "abcdefghijklmnopqrstuvwxyz")) (gName 1))
    (tSeq (tAsg (tOp (rAdd g.K) (tC (.int 1)) (tOp (rMod) (tOp (rFdiv) (tVar 0) (tC (.int 3))) (tC (.int 8)))) (gName 2))
    (tSeq (tAsg (tLstN (tNil)) (gName 3))
    (tSeq (tFor (iRng1 (tCons (tC (.int 6)) (tNil))) (gName 4) (tSeq (tAsg (tOp (rIxA g.K) (tVar 1) (tOp (rMod) (tOp (rAdd g.K) (tOp (rFdiv) (tVar 0) (tC (.int 24))) (tOp (rMul) (tC (.int 5)) (tVar 4))) (tC (.int 26)))) (gName 5))
    (tIfS (tTest (tOp (rEqA g.K) (tOp (rMod) (tVar 0) (tC (.int 3))) (tC (.int 0)))) (tDrop (tBM g.K "list" rAppN (tVar 3) (tCons (tOp (rMul) (tOp (rIxA g.K) (tVar 1) (tOp (rMod) (tOp (rFdiv) (tVar 0) (tC (.int 24))) (tC (.int 26)))) (tOp (rAdd g.K) (tVar 4) (tC (.int 1)))) tNil))) (tSeq (tAsg (tOp (rMod) (tOp (rFdiv) (tVar 0) (tC (.int 5))) (tVar 2)) (gName 6))
    (tSeq (tAsg (tOp (rMul) (tOp (rIxA g.K) (tVar 1) (tVar 2)) (tVar 6)) (gName 7))
    (tSeq (tAsg (tOp (rMul) (tOp (rIxA g.K) (tVar 1) (tOp (rAdd g.K) (tVar 2) (tOp (rMod) (tVar 0) (tC (.int 3))))) (tOp (rSub) (tOp (rSub) (tVar 2) (tC (.int 1))) (tVar 6))) (gName 8))
    (tDrop (tBM g.K "list" rAppN (tVar 3) (tCons (tOp (rAdd g.K) (tOp (rAdd g.K) (tVar 7) (tVar 5)) (tVar 8)) tNil)))))))))
    (tRet (tVar 3)))))
def sp_law_names (g : En) : Sp := fun vs H Q _ => ∃ a0, vs = [a0] ∧ t_law_names g ⟨fun _ H1 => Q .non H1, Q, fun _ _ => False, fun _ _ => False⟩ [some a0, none, none, none, none, none, none, none, none] H
def t_law_number (g : En) : TS := tSeq (tIfS (tTest (tOp (rEqA g.K) (tOp (rMod) (tVar 0) (tC (.int 4))) (tC (.int 3)))) (tRet (tOp (rMod) (tOp (rFdiv) (tVar 0) (tC (.int 4))) (tOp (rPow) (tC (.int 10)) (tC (.int 6))))) (tNext))
    (tSeq (tIfS (tTest (tOp (rEqA g.K) (tOp (rMod) (tVar 0) (tC (.int 4))) (tC (.int 2)))) (tRet (tOp (rSub) (tOp (rSub) (tOp (rPow) (tC (.int 10)) (tC (.int 6))) (tC (.int 1))) (tOp (rMod) (tOp (rFdiv) (tVar 0) (tC (.int 4))) (tC (.int 3))))) (tNext))
    (tRet (tOp (rMod) (tOp (rFdiv) (tVar 0) (tC (.int 4))) (tC (.int 3)))))
def sp_law_number (g : En) : Sp := fun vs H Q _ => ∃ a0, vs = [a0] ∧ t_law_number g ⟨fun _ H1 => Q .non H1, Q, fun _ _ => False, fun _ _ => False⟩ [some a0] H
def t_law_straight (g : En) : TS := tSeq (tAsg (tOp (rIxA g.K) (tVar 2) (tOp (rAdd g.K) (tC (.int 2)) (tOp (rMod) (tVar 1) (tC (.int 3))))) (gName 3))
    (tSeq (tAsg (tOp (rIxA g.K) (tVar 2) (tOp (rMod) (tOp (rFdiv) (tVar 1) (tC (.int 3))) (tC (.int 5)))) (gName 4))
    (tSeq (tAsg (tOp (rIxA g.K) (tVar 2) (tOp (rMod) (tOp (rFdiv) (tVar 1) (tC (.int 15))) (tC (.int 5)))) (gName 5))
    (tSeq (tAsg (tOp (rIxA g.K) (tLstN (tCons (tC (.str "put")) (tCons (tC (.str "copy")) (tCons (tC (.str "add")) (tCons (tC (.str "minus")) (tCons (tC (.str "times")) (tCons (tC (.str "less")) (tCons (tC (.str "tell")) (tNil))))))))) (tOp (rMod) (tVar 0) (tC (.int 7)))) (gName 6))
    (tSeq (tIfS (tTest (tOp (rEqA g.K) (tVar 6) (tC (.str "put")))) (tRet (tTupN (tCons (tVar 6) (tCons (tVar 3) (tCons (tCall (sp_law_number g) [] E0 (tCons (tOp (rFdiv) (tVar 1) (tC (.int 3))) (tNil))) (tNil)))))) (tNext))
    (tSeq (tIfS (tTest (tOp (rEqA g.K) (tVar 6) (tC (.str "copy")))) (tRet (tTupN (tCons (tVar 6) (tCons (tVar 3) (tCons (tVar 4) (tNil)))))) (tNext))
    (tSeq (tIfS (tTest (tOp (rEqA g.K) (tVar 6) (tC (.str "tell")))) (tRet (tTupN (tCons (tVar 6) (tCons (tVar 4) (tNil))))) (tNext))
    (tRet (tTupN (tCons (tVar 6) (tCons (tVar 3) (tCons (tVar 4) (tCons (tVar 5) (tNil)))))))))))))
def sp_law_straight (g : En) : Sp := fun vs H Q _ => ∃ a0 a1 a2, vs = [a0, a1, a2] ∧ t_law_straight g ⟨fun _ H1 => Q .non H1, Q, fun _ _ => False, fun _ _ => False⟩ [some a0, some a1, some a2, none, none, none, none] H
def t_law_body (g : En) : TS := tSeq (tAsg (tLstN (tNil)) (gName 5))
    (tSeq (tFor (iRng1 (tCons (tVar 2) (tNil))) (gName 6) (tSeq (tAsg (tOp (rMod) (tCall (sp_law_cell_at g) [] E0 (tCons (tVar 0) (tCons (tOp (rAdd g.K) (tVar 1) (tOp (rMul) (tC (.int 2)) (tVar 6))) (tNil)))) (tC (.int 11))) (gName 7))
    (tSeq (tAsg (tCall (sp_law_cell_at g) [] E0 (tCons (tVar 0) (tCons (tOp (rAdd g.K) (tOp (rAdd g.K) (tVar 1) (tOp (rMul) (tC (.int 2)) (tVar 6))) (tC (.int 1))) (tNil)))) (gName 8))
    (tIfS (tTest (tOp (rGt) (tVar 7) (tC (.int 8)))) (tDrop (tBM g.K "list" rAppN (tVar 5) (tCons (tTupN (tCons (tC (.str "zero")) (tCons (tOp (rIxA g.K) (tVar 3) (tOp (rAdd g.K) (tC (.int 1)) (tOp (rMod) (tVar 8) (tC (.int 4))))) (tCons (tOp (rAdd g.K) (tVar 4) (tCB (rMin2) (tCons (tVar 2) (tCons (tOp (rAdd g.K) (tOp (rAdd g.K) (tVar 6) (tC (.int 1))) (tOp (rMod) (tOp (rFdiv) (tVar 8) (tC (.int 4))) (tC (.int 4)))) (tNil))))) (tNil))))) tNil))) (tIfS (tAnd (tTest (tOp (rEqA g.K) (tVar 7) (tC (.int 8)))) (tTest (tOp (rEqA g.K) (tOp (rMod) (tVar 8) (tC (.int 3))) (tC (.int 0))))) (tDrop (tBM g.K "list" rAppN (tVar 5) (tCons (tTupN (tCons (tC (.str "jump")) (tCons (tOp (rAdd g.K) (tVar 4) (tCB (rMin2) (tCons (tVar 2) (tCons (tOp (rAdd g.K) (tOp (rAdd g.K) (tVar 6) (tC (.int 1))) (tOp (rMod) (tOp (rFdiv) (tVar 8) (tC (.int 3))) (tC (.int 2)))) (tNil))))) (tNil)))) tNil))) (tDrop (tBM g.K "list" rAppN (tVar 5) (tCons (tCall (sp_law_straight g) [] E0 (tCons (tVar 7) (tCons (tVar 8) (tCons (tVar 3) (tNil))))) tNil))))))))
    (tRet (tVar 5)))
def sp_law_body (g : En) : Sp := fun vs H Q _ => ∃ a0 a1 a2 a3 a4, vs = [a0, a1, a2, a3, a4] ∧ t_law_body g ⟨fun _ H1 => Q .non H1, Q, fun _ _ => False, fun _ _ => False⟩ [some a0, some a1, some a2, some a3, some a4, none, none, none, none] H
def t_law_wild (g : En) : TS := tSeq (tAsg (tLstN (tNil)) (gName 4))
    (tSeq (tFor (iRng1 (tCons (tVar 2) (tNil))) (gName 5) (tSeq (tAsg (tOp (rMod) (tCall (sp_law_cell_at g) [] E0 (tCons (tVar 0) (tCons (tOp (rAdd g.K) (tVar 1) (tOp (rMul) (tC (.int 2)) (tVar 5))) (tNil)))) (tC (.int 12))) (gName 6))
    (tSeq (tAsg (tCall (sp_law_cell_at g) [] E0 (tCons (tVar 0) (tCons (tOp (rAdd g.K) (tOp (rAdd g.K) (tVar 1) (tOp (rMul) (tC (.int 2)) (tVar 5))) (tC (.int 1))) (tNil)))) (gName 7))
    (tIfS (tTest (tOp (rGt) (tVar 6) (tC (.int 9)))) (tDrop (tBM g.K "list" rAppN (tVar 4) (tCons (tTupN (tCons (tC (.str "zero")) (tCons (tOp (rIxA g.K) (tVar 3) (tOp (rMod) (tVar 7) (tC (.int 5)))) (tCons (tOp (rMod) (tOp (rFdiv) (tVar 7) (tC (.int 5))) (tVar 2)) (tNil))))) tNil))) (tIfS (tTest (tOp (rEqA g.K) (tVar 6) (tC (.int 9)))) (tDrop (tBM g.K "list" rAppN (tVar 4) (tCons (tOp (rIxA g.K) (tLstN (tCons (tTupN (tCons (tC (.str "jump")) (tCons (tOp (rMod) (tOp (rFdiv) (tVar 7) (tC (.int 3))) (tVar 2)) (tNil)))) (tCons (tTupN (tCons (tC (.str "stop")) (tNil))) (tCons (tTupN (tCons (tC (.str "jump")) (tCons (tOp (rFdiv) (tVar 5) (tC (.int 2))) (tNil)))) (tNil))))) (tOp (rMod) (tVar 7) (tC (.int 3)))) tNil))) (tDrop (tBM g.K "list" rAppN (tVar 4) (tCons (tCall (sp_law_straight g) [] E0 (tCons (tVar 6) (tCons (tVar 7) (tCons (tVar 3) (tNil))))) tNil))))))))
    (tRet (tVar 4)))
def sp_law_wild (g : En) : Sp := fun vs H Q _ => ∃ a0 a1 a2 a3, vs = [a0, a1, a2, a3] ∧ t_law_wild g ⟨fun _ H1 => Q .non H1, Q, fun _ _ => False, fun _ _ => False⟩ [some a0, some a1, some a2, some a3, none, none, none, none] H
def t_law_turn (g : En) : TS := tSeq (tIfS (tTest (tOp (rNeA g.K) (tOp (rMod) (tVar 0) (tC (.int 4))) (tC (.int 1)))) (tRet (tLstN (tNil))) (tNext))
    (tSeq (tAsg (tLstN (tCons (tTupN (tCons (tC (.str "put")) (tCons (tOp (rIxA g.K) (tVar 1) (tC (.int 3))) (tCons (tOp (rAdd g.K) (tC (.int 2)) (tOp (rMod) (tOp (rFdiv) (tVar 0) (tC (.int 4))) (tC (.int 8)))) (tNil))))) (tCons (tTupN (tCons (tC (.str "less")) (tCons (tOp (rIxA g.K) (tVar 1) (tC (.int 2))) (tCons (tOp (rIxA g.K) (tVar 1) (tC (.int 0))) (tCons (tOp (rIxA g.K) (tVar 1) (tC (.int 3))) (tNil)))))) (tNil)))) (gName 2))
    (tRet (tOp (rAdd g.K) (tVar 2) (tLstN (tCons (tTupN (tCons (tC (.str "zero")) (tCons (tOp (rIxA g.K) (tVar 1) (tC (.int 2))) (tCons (tC (.int 7)) (tNil))))) (tCons (tTupN (tCons (tC (.str "add")) (tCons (tOp (rIxA g.K) (tVar 1) (tC (.int 4))) (tCons (tOp (rIxA g.K) (tVar 1) (tC (.int 4))) (tCons (tOp (rIxA g.K) (tVar 1) (tC (.int 1))) (tNil)))))) (tNil)))))))
def sp_law_turn (g : En) : Sp := fun vs H Q _ => ∃ a0 a1, vs = [a0, a1] ∧ t_law_turn g ⟨fun _ H1 => Q .non H1, Q, fun _ _ => False, fun _ _ => False⟩ [some a0, some a1, none] H
def t_law_program (g : En) : TS := tSeq (tAsg (tCall (sp_law_names g) [] E0 (tCons (tCall (sp_law_cell_at g) [] E0 (tCons (tVar 0) (tCons (tC (.int 2)) (tNil)))) (tNil))) (gName 1))
    (tSeq (tAsg (tOp (rMod) (tCall (sp_law_cell_at g) [] E0 (tCons (tVar 0) (tCons (tC (.int 0)) (tNil)))) (tC (.int 10))) (gName 2))
    (tSeq (tIfS (tTest (tOp (rGt) (tCB (rLen g.K) (tCons (tVar 0) (tNil))) (tC (.int 63)))) (tAsg (tOp (rAdd g.K) (tVar 2) (tC (.int 20))) (gName 2)) (tNext))
    (tSeq (tAsg (tCall (sp_law_cell_at g) [] E0 (tCons (tVar 0) (tCons (tC (.int 3)) (tNil)))) (gName 3))
    (tSeq (tAsg (tOp (rMod) (tCall (sp_law_cell_at g) [] E0 (tCons (tVar 0) (tCons (tC (.int 4)) (tNil)))) (tC (.int 5))) (gName 4))
    (tSeq (tIfS (tTest (tOp (rEqA g.K) (tVar 4) (tC (.int 4)))) (tRet (tCall (sp_law_wild g) [] E0 (tCons (tVar 0) (tCons (tC (.int 5)) (tCons (tVar 2) (tCons (tVar 1) (tNil))))))) (tNext))
    (tSeq (tAsg (tCall (sp_law_turn g) [] E0 (tCons (tVar 3) (tCons (tVar 1) (tNil)))) (gName 5))
    (tSeq (tAsg (tOp (rAdd g.K) (tVar 5) (tCall (sp_law_body g) [] E0 (tCons (tVar 0) (tCons (tC (.int 5)) (tCons (tVar 2) (tCons (tVar 1) (tCons (tOp (rAdd g.K) (tC (.int 3)) (tCB (rLen g.K) (tCons (tVar 5) (tNil)))) (tNil)))))))) (gName 6))
    (tSeq (tIfS (tTest (tOp (rEqA g.K) (tOp (rMod) (tVar 3) (tC (.int 4))) (tC (.int 2)))) (tAsg (tLc (iRng1 (tCons (tOp (rIxA g.K) (tLstN (tCons (tC (.int 57)) (tCons (tC (.int 58)) (tNil)))) (tOp (rMod) (tOp (rFdiv) (tVar 3) (tC (.int 4))) (tC (.int 2)))) (tNil))) (gName 10) (tYes) (tTupN (tCons (tC (.str "put")) (tCons (tOp (rIxA g.K) (tVar 1) (tC (.int 4))) (tCons (tVar 10) (tNil))))) [10]) (gName 6)) (tNext))
    (tSeq (tAsg (tOp (rIxA g.K) (tLstN (tCons (tOp (rAdd g.K) (tC (.int 1)) (tOp (rMod) (tVar 3) (tC (.int 12)))) (tCons (tC (.int 12)) (tNil)))) (tCB (rInt) (tCons (tOp (rGt) (tCB (rLen g.K) (tCons (tVar 5) (tNil))) (tC (.int 0))) (tNil)))) (gName 7))
    (tSeq (tAsg (tLstN (tCons (tTupN (tCons (tC (.str "put")) (tCons (tOp (rIxA g.K) (tVar 1) (tC (.int 5))) (tCons (tOp (rAdd g.K) (tC (.int 1)) (tOp (rMod) (tOp (rFdiv) (tVar 3) (tC (.int 12))) (tC (.int 5)))) (tNil))))) (tCons (tTupN (tCons (tC (.str "put")) (tCons (tOp (rIxA g.K) (tVar 1) (tC (.int 1))) (tCons (tC (.int 1)) (tNil))))) (tCons (tTupN (tCons (tC (.str "put")) (tCons (tOp (rIxA g.K) (tVar 1) (tC (.int 0))) (tCons (tVar 7) (tNil))))) (tNil))))) (gName 8))
    (tSeq (tAsg (tOp (rAdd g.K) (tC (.int 3)) (tCB (rLen g.K) (tCons (tVar 6) (tNil)))) (gName 9))
    (tSeq (tAsg (tOp (rAdd g.K) (tOp (rAdd g.K) (tVar 8) (tVar 6)) (tLstN (tCons (tTupN (tCons (tC (.str "minus")) (tCons (tOp (rIxA g.K) (tVar 1) (tC (.int 0))) (tCons (tOp (rIxA g.K) (tVar 1) (tC (.int 0))) (tCons (tOp (rIxA g.K) (tVar 1) (tC (.int 1))) (tNil)))))) (tCons (tTupN (tCons (tC (.str "zero")) (tCons (tOp (rIxA g.K) (tVar 1) (tC (.int 0))) (tCons (tOp (rAdd g.K) (tVar 9) (tC (.int 3))) (tNil))))) (tCons (tTupN (tCons (tC (.str "jump")) (tCons (tC (.int 3)) (tNil)))) (tNil)))))) (gName 8))
    (tSeq (tIfS (tTest (tOp (rGt) (tVar 4) (tC (.int 0)))) (tAsg (tOp (rAdd g.K) (tVar 8) (tLstN (tCons (tTupN (tCons (tC (.str "minus")) (tCons (tOp (rIxA g.K) (tVar 1) (tC (.int 5))) (tCons (tOp (rIxA g.K) (tVar 1) (tC (.int 5))) (tCons (tOp (rIxA g.K) (tVar 1) (tC (.int 1))) (tNil)))))) (tCons (tTupN (tCons (tC (.str "zero")) (tCons (tOp (rIxA g.K) (tVar 1) (tC (.int 5))) (tCons (tOp (rAdd g.K) (tVar 9) (tC (.int 6))) (tNil))))) (tCons (tTupN (tCons (tC (.str "jump")) (tCons (tC (.int 2)) (tNil)))) (tNil)))))) (gName 8)) (tNext))
    (tRet (tOp (rAdd g.K) (tVar 8) (tSl (rSlX g.K) (tLstN (tCons (tTupN (tCons (tC (.str "tell")) (tCons (tOp (rIxA g.K) (tVar 1) (tC (.int 2))) (tNil)))) (tCons (tTupN (tCons (tC (.str "tell")) (tCons (tOp (rIxA g.K) (tVar 1) (tC (.int 3))) (tNil)))) (tCons (tTupN (tCons (tC (.str "stop")) (tNil))) (tNil))))) (tNoPart) (tPart (tOp (rSub) (tC (.int 4)) (tVar 4)))))))))))))))))))
def sp_law_program (g : En) : Sp := fun vs H Q _ => ∃ a0, vs = [a0] ∧ t_law_program g ⟨fun _ H1 => Q .non H1, Q, fun _ _ => False, fun _ _ => False⟩ [some a0, none, none, none, none, none, none, none, none, none, none] H
def t_law_value (g : En) : TS := tSeq (tIfS (tB (tCB (rIsX g.K) (tCons (tVar 1) (tCons (tC (.ty "int")) (tNil))))) (tRet (tVar 1)) (tNext))
    (tRet (tOp (rIxA g.K) (tVar 0) (tVar 1)))
def sp_law_value (g : En) : Sp := fun vs H Q _ => ∃ a0 a1, vs = [a0, a1] ∧ t_law_value g ⟨fun _ H1 => Q .non H1, Q, fun _ _ => False, fun _ _ => False⟩ [some a0, some a1] H
def t_law_done (g : En) : TS := tSeq (tAsg (tCB (rDict) (tCons (tVar 1) (tNil))) (gName 2))
    (tSeq (tIfS (tTest (tOp (rEqA g.K) (tOp (rIxA g.K) (tVar 0) (tC (.int 0))) (tC (.str "tell")))) (tRet (tVar 2)) (tNext))
    (tSeq (tAsg (tCall (sp_law_value g) [] E0 (tCons (tVar 1) (tCons (tOp (rIxA g.K) (tVar 0) (tC (.int 2))) (tNil)))) (gName 3))
    (tSeq (tIfS (tTest (tOp (rInA g.K) (tOp (rIxA g.K) (tVar 0) (tC (.int 0))) (tLstN (tCons (tC (.str "put")) (tCons (tC (.str "copy")) (tNil)))))) (tSeq (sDPutN (tVar 2) (tOp (rIxA g.K) (tVar 0) (tC (.int 1))) (tVar 3))
    (tRet (tVar 2))) (tNext))
    (tSeq (tAsg (tCall (sp_law_value g) [] E0 (tCons (tVar 1) (tCons (tOp (rIxA g.K) (tVar 0) (tC (.int 3))) (tNil)))) (gName 4))
    (tSeq (tIfS (tTest (tOp (rEqA g.K) (tOp (rIxA g.K) (tVar 0) (tC (.int 0))) (tC (.str "less")))) (sDPutN (tVar 2) (tOp (rIxA g.K) (tVar 0) (tC (.int 1))) (tCB (rInt) (tCons (tOp (rLt) (tVar 3) (tVar 4)) (tNil)))) (tSeq (tAsg (tDispN [(tC (.str "add"), tOp (rAdd g.K) (tVar 3) (tVar 4)), (tC (.str "minus"), tOp (rSub) (tVar 3) (tVar 4)), (tC (.str "times"), tOp (rMul) (tVar 3) (tVar 4))]) (gName 5))
    (sDPutN (tVar 2) (tOp (rIxA g.K) (tVar 0) (tC (.int 1))) (tOp (rMod) (tOp (rIxA g.K) (tVar 5) (tOp (rIxA g.K) (tVar 0) (tC (.int 0)))) (tOp (rPow) (tC (.int 10)) (tC (.int 6)))))))
    (tRet (tVar 2)))))))
def sp_law_done (g : En) : Sp := fun vs H Q _ => ∃ a0 a1, vs = [a0, a1] ∧ t_law_done g ⟨fun _ H1 => Q .non H1, Q, fun _ _ => False, fun _ _ => False⟩ [some a0, some a1, none, none, none, none] H
def t_law_told (g : En) : TS := tSeq (tIfS (tTest (tOp (rEqA g.K) (tOp (rIxA g.K) (tVar 0) (tC (.int 0))) (tC (.str "tell")))) (tRet (tLstN (tCons (tCall (sp_law_value g) [] E0 (tCons (tVar 1) (tCons (tOp (rIxA g.K) (tVar 0) (tC (.int 1))) (tNil)))) (tNil)))) (tNext))
    (tRet (tLstN (tNil)))
def sp_law_told (g : En) : Sp := fun vs H Q _ => ∃ a0 a1, vs = [a0, a1] ∧ t_law_told g ⟨fun _ H1 => Q .non H1, Q, fun _ _ => False, fun _ _ => False⟩ [some a0, some a1] H
def t_law_step (g : En) : TS := tSeq (tAsg (tOp (rIxA g.K) (tVar 0) (tVar 1)) (gName 3))
    (tSeq (tIfS (tTest (tOp (rEqA g.K) (tOp (rIxA g.K) (tVar 3) (tC (.int 0))) (tC (.str "jump")))) (tRet (tTupN (tCons (tOp (rIxA g.K) (tVar 3) (tC (.int 1))) (tCons (tVar 2) (tCons (tLstN (tNil)) (tNil)))))) (tNext))
    (tSeq (tIfS (tTest (tOp (rEqA g.K) (tOp (rIxA g.K) (tVar 3) (tC (.int 0))) (tC (.str "zero")))) (tSeq (tIfS (tTest (tOp (rEqA g.K) (tOp (rIxA g.K) (tVar 2) (tOp (rIxA g.K) (tVar 3) (tC (.int 1)))) (tC (.int 0)))) (tRet (tTupN (tCons (tOp (rIxA g.K) (tVar 3) (tC (.int 2))) (tCons (tVar 2) (tCons (tLstN (tNil)) (tNil)))))) (tNext))
    (tRet (tTupN (tCons (tOp (rAdd g.K) (tVar 1) (tC (.int 1))) (tCons (tVar 2) (tCons (tLstN (tNil)) (tNil))))))) (tNext))
    (tRet (tTupN (tCons (tOp (rAdd g.K) (tVar 1) (tC (.int 1))) (tCons (tCall (sp_law_done g) [] E0 (tCons (tVar 3) (tCons (tVar 2) (tNil)))) (tCons (tCall (sp_law_told g) [] E0 (tCons (tVar 3) (tCons (tVar 2) (tNil)))) (tNil))))))))
def sp_law_step (g : En) : Sp := fun vs H Q _ => ∃ a0 a1 a2, vs = [a0, a1, a2] ∧ t_law_step g ⟨fun _ H1 => Q .non H1, Q, fun _ _ => False, fun _ _ => False⟩ [some a0, some a1, some a2, none] H
def t_law_all (g : En) : TS := tSeq (tAsg (tDNewN) (gName 1))
    (tSeq (tFor (iList g.K (tVar 0)) (gName 2) (tFor (iTup g.K (tSl (rSlX g.K) (tVar 2) (tPart (tC (.int 1))) (tNoPart))) (gName 3) (tIfS (tB (tCB (rIsX g.K) (tCons (tVar 3) (tCons (tC (.ty "str")) (tNil))))) (sDPutN (tVar 1) (tVar 3) (tC (.int 0))) (tNext))))
    (tRet (tVar 1)))
def sp_law_all (g : En) : Sp := fun vs H Q _ => ∃ a0, vs = [a0] ∧ t_law_all g ⟨fun _ H1 => Q .non H1, Q, fun _ _ => False, fun _ _ => False⟩ [some a0, none, none, none] H
def t_law_numbers (g : En) : TS := tSeq (tIfS (tOr (tNot (tB (tCB (rIsX g.K) (tCons (tVar 0) (tCons (tC (.ty "dict")) (tNil)))))) (tTest (tOp (rNeA g.K) (tCB (rLen g.K) (tCons (tVar 0) (tNil))) (tCB (rLen g.K) (tCons (tVar 1) (tNil)))))) (tRet (tC (.bl false))) (tNext))
    (tRet (tAndV (tOp (rEqA g.K) (tVar 0) (tVar 1)) (tCB (rAll g.K) (tCons (tLockE (tLc (iKeys (tVar 1)) (gName 2) (tYes) (tCall (sp_law_whole g) [] E0 (tCons (tOp (rIxA g.K) (tVar 0) (tVar 2)) (tNil))) [2])) (tNil)))))
def sp_law_numbers (g : En) : Sp := fun vs H Q _ => ∃ a0 a1, vs = [a0, a1] ∧ t_law_numbers g ⟨fun _ H1 => Q .non H1, Q, fun _ _ => False, fun _ _ => False⟩ [some a0, some a1, none] H
def t_law_list (g : En) : TS := tRet (tAndV (tCB (rIsX g.K) (tCons (tVar 0) (tCons (tC (.ty "list")) (tNil)))) (tAndV (tOp (rEqA g.K) (tVar 0) (tVar 1)) (tCB (rAll g.K) (tCons (tLc (iList g.K (tVar 0)) (gName 2) (tYes) (tCall (sp_law_whole g) [] E0 (tCons (tVar 2) (tNil))) [2]) (tNil)))))
def sp_law_list (g : En) : Sp := fun vs H Q _ => ∃ a0 a1, vs = [a0, a1] ∧ t_law_list g ⟨fun _ H1 => Q .non H1, Q, fun _ _ => False, fun _ _ => False⟩ [some a0, some a1, none] H
def t_law_alike (g : En) : TS := tRet (tAndV (tCB (rIsX g.K) (tCons (tVar 0) (tCons (tC (.ty "list")) (tNil)))) (tAndV (tOp (rEqA g.K) (tCB (rLen g.K) (tCons (tVar 0) (tNil))) (tCB (rLen g.K) (tCons (tVar 1) (tNil)))) (tOp (rEqA g.K) (tVar 0) (tVar 1))))
def sp_law_alike (g : En) : Sp := fun vs H Q _ => ∃ a0 a1, vs = [a0, a1] ∧ t_law_alike g ⟨fun _ H1 => Q .non H1, Q, fun _ _ => False, fun _ _ => False⟩ [some a0, some a1] H
def t_law_stepped (g : En) : TS := tSeq (tIfS (tOr (tNot (tB (tCB (rIsX g.K) (tCons (tVar 0) (tCons (tC (.ty "tuple")) (tNil)))))) (tOr (tTest (tOp (rNeA g.K) (tCB (rLen g.K) (tCons (tVar 0) (tNil))) (tC (.int 3)))) (tOr (tNot (tB (tCall (sp_law_whole g) [] E0 (tCons (tOp (rIxA g.K) (tVar 0) (tC (.int 0))) (tNil))))) (tTest (tOp (rNeA g.K) (tOp (rIxA g.K) (tVar 0) (tC (.int 0))) (tOp (rIxA g.K) (tVar 1) (tC (.int 0)))))))) (tRet (tC (.bl false))) (tNext))
    (tRet (tAndV (tCall (sp_law_numbers g) [] E0 (tCons (tOp (rIxA g.K) (tVar 0) (tC (.int 1))) (tCons (tOp (rIxA g.K) (tVar 1) (tC (.int 1))) (tNil)))) (tCall (sp_law_list g) [] E0 (tCons (tOp (rIxA g.K) (tVar 0) (tC (.int 2))) (tCons (tOp (rIxA g.K) (tVar 1) (tC (.int 2))) (tNil))))))
def sp_law_stepped (g : En) : Sp := fun vs H Q _ => ∃ a0 a1, vs = [a0, a1] ∧ t_law_stepped g ⟨fun _ H1 => Q .non H1, Q, fun _ _ => False, fun _ _ => False⟩ [some a0, some a1] H
def t_law_k01 (g : En) : TS := tSeq (tAsg (tCall (sp_law_program g) [] E0 (tCons (tVar 0) (tNil))) (gName 1))
    (tSeq (tAsg (tCall (sp_law_all g) [] E0 (tCons (tVar 1) (tNil))) (gName 2))
    (tSeq (tFor (iEnum g.K (tCons (tCB (rList g.K) (tCons (tVar 2) (tNil))) (tNil))) (gTup g.K 2 (gCons (gName 3) (gCons (gName 4) (gNil)))) (sDPutN (tVar 2) (tVar 4) (tCall (sp_law_number g) [] E0 (tCons (tCall (sp_law_cell_at g) [] E0 (tCons (tVar 0) (tCons (tOp (rAdd g.K) (tC (.int 2)) (tVar 3)) (tNil)))) (tNil)))))
    (tSeq (tAsg (tCB (rList g.K) (tCons (tVar 1) (tNil))) (gName 5))
    (tSeq (tAsg (tCB (rDict) (tCons (tVar 2) (tNil))) (gName 6))
    (tSeq (tFor (iEnum g.K (tCons (tVar 1) (tNil))) (gTup g.K 2 (gCons (gName 7) (gCons (gName 8) (gNil)))) (tIfS (tTest (tOp (rNeA g.K) (tOp (rIxA g.K) (tVar 8) (tC (.int 0))) (tC (.str "stop")))) (tSeq (tAsg (tCall (sp_law_step g) [] E0 (tCons (tVar 1) (tCons (tVar 7) (tCons (tVar 2) (tNil))))) (gName 9))
    (tSeq (tAsg (tCall (sp_stepped g) [] E0 (tCons (tVar 5) (tCons (tVar 7) (tCons (tVar 6) (tNil))))) (gName 10))
    (tSeq (tIfS (tNot (tB (tCall (sp_law_stepped g) [] E0 (tCons (tVar 10) (tCons (tVar 9) (tNil)))))) (tRet (tC (.bl false))) (tNext))
    (tSeq (tDrop (tBM0 g.K "dict" rDClearN (tOp (rIxA g.K) (tVar 10) (tC (.int 1)))))
    (tSeq (tDrop (tBM g.K "list" rAppN (tOp (rIxA g.K) (tVar 10) (tC (.int 2))) (tCons (tC (.int 1)) tNil)))
    (tIfS (tNot (tB (tCall (sp_law_stepped g) [] E0 (tCons (tCall (sp_stepped g) [] E0 (tCons (tVar 5) (tCons (tVar 7) (tCons (tVar 6) (tNil))))) (tCons (tVar 9) (tNil)))))) (tRet (tC (.bl false))) (tNext))))))) (tNext)))
    (tSeq (tAsg (tLc (iList g.K (tCB (rList g.K) (tCons (tVar 2) (tNil)))) (gName 4) (tYes) (tOp (rIxA g.K) (tVar 2) (tVar 4)) [4]) (gName 11))
    (tSeq (tFor (iZip g.K (tCons (tVar 11) (tCons (tOp (rAdd g.K) (tSl (rSlX g.K) (tVar 11) (tPart (tC (.int 1))) (tNoPart)) (tSl (rSlX g.K) (tVar 11) (tNoPart) (tPart (tC (.int 1))))) (tNil)))) (gTup g.K 2 (gCons (gName 12) (gCons (gName 13) (gNil)))) (tFor (iList g.K (tLstN (tCons (tC (.str "add")) (tCons (tC (.str "minus")) (tCons (tC (.str "times")) (tCons (tC (.str "less")) (tNil))))))) (gName 14) (tFor (iList g.K (tLstN (tCons (tTupN (tCons (tVar 14) (tCons (tC (.str "x")) (tCons (tC (.str "y")) (tCons (tC (.str "z")) (tNil)))))) (tCons (tTupN (tCons (tVar 14) (tCons (tC (.str "x")) (tCons (tC (.str "y")) (tCons (tC (.str "y")) (tNil)))))) (tNil))))) (gName 8) (tSeq (tAsg (tDispN [(tC (.str "x"), tC (.int 5)), (tC (.str "y"), tVar 12), (tC (.str "z"), tVar 13)]) (gName 15))
    (tIfS (tNot (tB (tCall (sp_law_stepped g) [] E0 (tCons (tCall (sp_stepped g) [] E0 (tCons (tLstN (tCons (tVar 8) (tNil))) (tCons (tC (.int 0)) (tCons (tVar 15) (tNil))))) (tCons (tCall (sp_law_step g) [] E0 (tCons (tLstN (tCons (tVar 8) (tNil))) (tCons (tC (.int 0)) (tCons (tVar 15) (tNil))))) (tNil)))))) (tRet (tC (.bl false))) (tNext))))))
    (tRet (tAndV (tOp (rEqA g.K) (tVar 6) (tVar 2)) (tCall (sp_law_alike g) [] E0 (tCons (tVar 5) (tCons (tVar 1) (tNil)))))))))))))
def sp_law_k01 (g : En) : Sp := fun vs H Q _ => ∃ a0, vs = [a0] ∧ t_law_k01 g ⟨fun _ H1 => Q .non H1, Q, fun _ _ => False, fun _ _ => False⟩ [some a0, none, none, none, none, none, none, none, none, none, none, none, none, none, none, none] H
def t_is_word (g : En) : TS := tSeq (tIfS (tOr (tNot (tB (tCB (rIsX g.K) (tCons (tVar 0) (tCons (tC (.ty "str")) (tNil)))))) (tOr (tTest (tOp (rEqA g.K) (tCB (rLen g.K) (tCons (tVar 0) (tNil))) (tC (.int 0)))) (tTest (tOp (rGt) (tCB (rLen g.K) (tCons (tVar 0) (tNil))) (tC (.int 8)))))) (tRet (tC (.bl false))) (tNext))
    (tRet (tCB (rAll g.K) (tCons (tLc (iStr (tVar 0)) (gName 1) (tYes) (tOp (rInA g.K) (tVar 1) (tC (.str "abcdefghijklmnopqrstuvwxyz"))) [1]) (tNil))))
def sp_is_word (g : En) : Sp := fun vs H Q _ => ∃ a0, vs = [a0] ∧ t_is_word g ⟨fun _ H1 => Q .non H1, Q, fun _ _ => False, fun _ _ => False⟩ [some a0, none] H
def t_is_number (g : En) : TS := tRet (tAndV (tCB (rIsX g.K) (tCons (tVar 0) (tCons (tC (.ty "int")) (tNil)))) (tAndV (tNotV (tCB (rIsX g.K) (tCons (tVar 0) (tCons (tC (.ty "bool")) (tNil))))) (tAndV (tOp (rLe) (tC (.int 0)) (tVar 0)) (tOp (rLt) (tVar 0) (tC (.int 1000000))))))
def sp_is_number (g : En) : Sp := fun vs H Q _ => ∃ a0, vs = [a0] ∧ t_is_number g ⟨fun _ H1 => Q .non H1, Q, fun _ _ => False, fun _ _ => False⟩ [some a0] H
def t_is_place (g : En) : TS := tRet (tAndV (tCB (rIsX g.K) (tCons (tVar 0) (tCons (tC (.ty "int")) (tNil)))) (tNotV (tCB (rIsX g.K) (tCons (tVar 0) (tCons (tC (.ty "bool")) (tNil))))))
def sp_is_place (g : En) : Sp := fun vs H Q _ => ∃ a0, vs = [a0] ∧ t_is_place g ⟨fun _ H1 => Q .non H1, Q, fun _ _ => False, fun _ _ => False⟩ [some a0] H
def t_is_row (g : En) : TS := tSeq (tIfS (tOr (tNot (tB (tCB (rIsX g.K) (tCons (tVar 0) (tCons (tC (.ty "tuple")) (tNil)))))) (tOr (tTest (tOp (rEqA g.K) (tCB (rLen g.K) (tCons (tVar 0) (tNil))) (tC (.int 0)))) (tNot (tB (tCB (rIsX g.K) (tCons (tOp (rIxA g.K) (tVar 0) (tC (.int 0))) (tCons (tC (.ty "str")) (tNil)))))))) (tRet (tC (.bl false))) (tNext))
    (tSeq (tIfS (tTest (tOp (rEqA g.K) (tOp (rIxA g.K) (tVar 0) (tC (.int 0))) (tC (.str "stop")))) (tRet (tOp (rEqA g.K) (tCB (rLen g.K) (tCons (tVar 0) (tNil))) (tC (.int 1)))) (tNext))
    (tSeq (tIfS (tTest (tOp (rEqA g.K) (tOp (rIxA g.K) (tVar 0) (tC (.int 0))) (tC (.str "jump")))) (tRet (tAndV (tOp (rEqA g.K) (tCB (rLen g.K) (tCons (tVar 0) (tNil))) (tC (.int 2))) (tCall (sp_is_place g) [] E0 (tCons (tOp (rIxA g.K) (tVar 0) (tC (.int 1))) (tNil))))) (tNext))
    (tSeq (tIfS (tOr (tTest (tOp (rLt) (tCB (rLen g.K) (tCons (tVar 0) (tNil))) (tC (.int 2)))) (tNot (tB (tCall (sp_is_word g) [] E0 (tCons (tOp (rIxA g.K) (tVar 0) (tC (.int 1))) (tNil)))))) (tRet (tC (.bl false))) (tNext))
    (tSeq (tIfS (tTest (tOp (rEqA g.K) (tOp (rIxA g.K) (tVar 0) (tC (.int 0))) (tC (.str "tell")))) (tRet (tOp (rEqA g.K) (tCB (rLen g.K) (tCons (tVar 0) (tNil))) (tC (.int 2)))) (tNext))
    (tSeq (tIfS (tTest (tOp (rEqA g.K) (tOp (rIxA g.K) (tVar 0) (tC (.int 0))) (tC (.str "zero")))) (tRet (tAndV (tOp (rEqA g.K) (tCB (rLen g.K) (tCons (tVar 0) (tNil))) (tC (.int 3))) (tCall (sp_is_place g) [] E0 (tCons (tOp (rIxA g.K) (tVar 0) (tC (.int 2))) (tNil))))) (tNext))
    (tSeq (tIfS (tTest (tOp (rEqA g.K) (tOp (rIxA g.K) (tVar 0) (tC (.int 0))) (tC (.str "put")))) (tRet (tAndV (tOp (rEqA g.K) (tCB (rLen g.K) (tCons (tVar 0) (tNil))) (tC (.int 3))) (tCall (sp_is_number g) [] E0 (tCons (tOp (rIxA g.K) (tVar 0) (tC (.int 2))) (tNil))))) (tNext))
    (tSeq (tIfS (tTest (tOp (rEqA g.K) (tOp (rIxA g.K) (tVar 0) (tC (.int 0))) (tC (.str "copy")))) (tRet (tAndV (tOp (rEqA g.K) (tCB (rLen g.K) (tCons (tVar 0) (tNil))) (tC (.int 3))) (tCall (sp_is_word g) [] E0 (tCons (tOp (rIxA g.K) (tVar 0) (tC (.int 2))) (tNil))))) (tNext))
    (tRet (tAndV (tOp (rInA g.K) (tOp (rIxA g.K) (tVar 0) (tC (.int 0))) (tC (.ref g.wk))) (tAndV (tOp (rEqA g.K) (tCB (rLen g.K) (tCons (tVar 0) (tNil))) (tC (.int 4))) (tAndV (tCall (sp_is_word g) [] E0 (tCons (tOp (rIxA g.K) (tVar 0) (tC (.int 2))) (tNil))) (tCall (sp_is_word g) [] E0 (tCons (tOp (rIxA g.K) (tVar 0) (tC (.int 3))) (tNil))))))))))))))
def sp_is_row (g : En) : Sp := fun vs H Q _ => ∃ a0, vs = [a0] ∧ t_is_row g ⟨fun _ H1 => Q .non H1, Q, fun _ _ => False, fun _ _ => False⟩ [some a0] H
def t_checked (g : En) : TS := tFor (iEnum g.K (tCons (tVar 0) (tNil))) (gTup g.K 2 (gCons (gName 1) (gCons (gName 2) (gNil)))) (tSeq (tIfS (tNot (tB (tCall (sp_is_row g) [] E0 (tCons (tVar 2) (tNil))))) (tNever) (tNext))
    (tIfS (tAnd (tTest (tOp (rInA g.K) (tOp (rIxA g.K) (tVar 2) (tC (.int 0))) (tTupN (tCons (tC (.str "jump")) (tCons (tC (.str "zero")) (tNil)))))) (tNot (tTest (tChain (rLe) (rLt) (tC (.int 0)) (tOp (rIxA g.K) (tVar 2) (tUn rNeg (tC (.int 1)))) (tCB (rLen g.K) (tCons (tVar 0) (tNil))))))) (tNever) (tNext)))
def sp_checked (g : En) : Sp := fun vs H Q _ => ∃ a0, vs = [a0] ∧ t_checked g ⟨fun _ H1 => Q .non H1, Q, fun _ _ => False, fun _ _ => False⟩ [some a0, none, none] H
def t_names_of (g : En) : TS := tSeq (tIfS (tTest (tOp (rInA g.K) (tOp (rIxA g.K) (tVar 0) (tC (.int 0))) (tTupN (tCons (tC (.str "stop")) (tCons (tC (.str "jump")) (tNil)))))) (tRet (tLstN (tNil))) (tNext))
    (tRet (tLc (iTup g.K (tSl (rSlX g.K) (tVar 0) (tPart (tC (.int 1))) (tNoPart))) (gName 1) (tB (tCB (rIsX g.K) (tCons (tVar 1) (tCons (tC (.ty "str")) (tNil))))) (tVar 1) [1]))
def sp_names_of (g : En) : Sp := fun vs H Q _ => ∃ a0, vs = [a0] ∧ t_names_of g ⟨fun _ H1 => Q .non H1, Q, fun _ _ => False, fun _ _ => False⟩ [some a0, none] H
def t_names_in (g : En) : TS := tSeq (tAsg (tDNewN) (gName 1))
    (tSeq (tFor (iList g.K (tVar 0)) (gName 2) (tFor (iList g.K (tCall (sp_names_of g) [] E0 (tCons (tVar 2) (tNil)))) (gName 3) (sDPutN (tVar 1) (tVar 3) (tC (.bl true)))))
    (tRet (tCB (rSortedS g.K) (tCons (tCB (rList g.K) (tCons (tVar 1) (tNil))) (tNil)))))
def sp_names_in (g : En) : Sp := fun vs H Q _ => ∃ a0, vs = [a0] ∧ t_names_in g ⟨fun _ H1 => Q .non H1, Q, fun _ _ => False, fun _ _ => False⟩ [some a0, none, none, none] H
def t_is_over (g : En) : TS := tRet (tOrV (tOp (rGe) (tVar 1) (tCB (rLen g.K) (tCons (tVar 0) (tNil)))) (tOp (rEqA g.K) (tOp (rIxA g.K) (tOp (rIxA g.K) (tVar 0) (tVar 1)) (tC (.int 0))) (tC (.str "stop"))))
def sp_is_over (g : En) : Sp := fun vs H Q _ => ∃ a0 a1, vs = [a0, a1] ∧ t_is_over g ⟨fun _ H1 => Q .non H1, Q, fun _ _ => False, fun _ _ => False⟩ [some a0, some a1] H
def t_begun (g : En) : TS := tSeq (tAsg (tDNewN) (gName 1))
    (tSeq (tFor (iList g.K (tCall (sp_names_in g) [] E0 (tCons (tVar 0) (tNil)))) (gName 2) (sDPutN (tVar 1) (tVar 2) (tC (.int 0))))
    (tRet (tVar 1)))
def sp_begun (g : En) : Sp := fun vs H Q _ => ∃ a0, vs = [a0] ∧ t_begun g ⟨fun _ H1 => Q .non H1, Q, fun _ _ => False, fun _ _ => False⟩ [some a0, none, none] H
def t_plain (g : En) : TS := tSeq (tDrop (tCall (sp_checked g) [] E0 (tCons (tVar 0) (tNil))))
    (tSeq (tAsg (tLstN (tNil)) (gName 2))
    (tSeq (tAsg (tC (.int 0)) (gName 3))
    (tSeq (tAsg (tCall (sp_begun g) [] E0 (tCons (tVar 0) (tNil))) (gName 4))
    (tSeq (tAsg (tC (.int 0)) (gName 5))
    (tSeq (tWhile (tAnd (tTest (tOp (rLt) (tVar 5) (tVar 1))) (tNot (tB (tCall (sp_is_over g) [] E0 (tCons (tVar 0) (tCons (tVar 3) (tNil))))))) (tSeq (tAsg (tCall (sp_stepped g) [] E0 (tCons (tVar 0) (tCons (tVar 3) (tCons (tVar 4) (tNil))))) (gName 6))
    (tSeq (tAsg (tOp (rIxA g.K) (tVar 6) (tC (.int 0))) (gName 3))
    (tSeq (tAsg (tOp (rIxA g.K) (tVar 6) (tC (.int 1))) (gName 4))
    (tSeq (tAsg (tOp (rAdd g.K) (tVar 2) (tOp (rIxA g.K) (tVar 6) (tC (.int 2)))) (gName 2))
    (tAsg (tOp (rAdd g.K) (tVar 5) (tC (.int 1))) (gName 5)))))))
    (tRet (tTupN (tCons (tVar 2) (tCons (tVar 3) (tCons (tVar 4) (tCons (tVar 5) (tNil))))))))))))
def sp_plain (g : En) : Sp := fun vs H Q _ => ∃ a0 a1, vs = [a0, a1] ∧ t_plain g ⟨fun _ H1 => Q .non H1, Q, fun _ _ => False, fun _ _ => False⟩ [some a0, some a1, none, none, none, none, none] H
def t_law_most (g : En) : TS := tSeq (tAsg (tCall (sp_law_cell_at g) [] E0 (tCons (tVar 0) (tCons (tC (.int 1)) (tNil)))) (gName 1))
    (tRet (tOp (rIxA g.K) (tLstN (tCons (tC (.int 0)) (tCons (tC (.int 1)) (tCons (tC (.int 17)) (tCons (tC (.int 60)) (tCons (tC (.int 120)) (tCons (tC (.int 200)) (tCons (tC (.int 260)) (tCons (tOp (rMod) (tOp (rFdiv) (tVar 1) (tC (.int 8))) (tC (.int 301))) (tNil)))))))))) (tOp (rMod) (tVar 1) (tC (.int 8)))))
def sp_law_most (g : En) : Sp := fun vs H Q _ => ∃ a0, vs = [a0] ∧ t_law_most g ⟨fun _ H1 => Q .non H1, Q, fun _ _ => False, fun _ _ => False⟩ [some a0, none] H
def t_law_over (g : En) : TS := tRet (tOrV (tOp (rGe) (tVar 1) (tCB (rLen g.K) (tCons (tVar 0) (tNil)))) (tOp (rEqA g.K) (tOp (rIxA g.K) (tOp (rIxA g.K) (tVar 0) (tVar 1)) (tC (.int 0))) (tC (.str "stop"))))
def sp_law_over (g : En) : Sp := fun vs H Q _ => ∃ a0 a1, vs = [a0, a1] ∧ t_law_over g ⟨fun _ H1 => Q .non H1, Q, fun _ _ => False, fun _ _ => False⟩ [some a0, some a1] H
def t_law_plain (g : En) : TS := tSeq (tAsg (tLstN (tCons (tTupN (tCons (tC (.int 0)) (tCons (tCall (sp_law_all g) [] E0 (tCons (tVar 0) (tNil))) (tCons (tLstN (tNil)) (tNil))))) (tNil))) (gName 2))
    (tSeq (tWhile (tAnd (tTest (tOp (rLe) (tCB (rLen g.K) (tCons (tVar 2) (tNil))) (tVar 1))) (tNot (tB (tCall (sp_law_over g) [] E0 (tCons (tVar 0) (tCons (tOp (rIxA g.K) (tOp (rIxA g.K) (tVar 2) (tUn rNeg (tC (.int 1)))) (tC (.int 0))) (tNil))))))) (tSeq (tAsg (tCall (sp_law_step g) [] E0 (tCons (tVar 0) (tCons (tOp (rIxA g.K) (tOp (rIxA g.K) (tVar 2) (tUn rNeg (tC (.int 1)))) (tC (.int 0))) (tCons (tOp (rIxA g.K) (tOp (rIxA g.K) (tVar 2) (tUn rNeg (tC (.int 1)))) (tC (.int 1))) (tNil))))) (gName 3))
    (tDrop (tBM g.K "list" rAppN (tVar 2) (tCons (tTupN (tCons (tOp (rIxA g.K) (tVar 3) (tC (.int 0))) (tCons (tOp (rIxA g.K) (tVar 3) (tC (.int 1))) (tCons (tOp (rAdd g.K) (tOp (rIxA g.K) (tOp (rIxA g.K) (tVar 2) (tUn rNeg (tC (.int 1)))) (tC (.int 2))) (tOp (rIxA g.K) (tVar 3) (tC (.int 2)))) (tNil))))) tNil)))))
    (tRet (tVar 2)))
def sp_law_plain (g : En) : Sp := fun vs H Q _ => ∃ a0 a1, vs = [a0, a1] ∧ t_law_plain g ⟨fun _ H1 => Q .non H1, Q, fun _ _ => False, fun _ _ => False⟩ [some a0, some a1, none, none] H
def t_law_bits (g : En) : TS := tSeq (tIfS (tOr (tNot (tB (tCB (rIsX g.K) (tCons (tVar 0) (tCons (tC (.ty "tuple")) (tNil)))))) (tOr (tTest (tOp (rLt) (tCB (rLen g.K) (tCons (tVar 0) (tNil))) (tC (.int 4)))) (tNot (tB (tCB (rIsX g.K) (tCons (tOp (rIxA g.K) (tVar 0) (tC (.int 0))) (tCons (tC (.ty "list")) (tNil)))))))) (tRet (tC (.bl false))) (tNext))
    (tSeq (tIfS (tNot (tB (tCB (rIsX g.K) (tCons (tOp (rIxA g.K) (tVar 0) (tC (.int 2))) (tCons (tC (.ty "dict")) (tNil)))))) (tRet (tC (.bl false))) (tNext))
    (tSeq (tIfS (tOr (tNot (tB (tCB (rAll g.K) (tCons (tLc (iList g.K (tOp (rIxA g.K) (tVar 0) (tC (.int 0)))) (gName 2) (tYes) (tCall (sp_law_whole g) [] E0 (tCons (tVar 2) (tNil))) [2]) (tNil))))) (tOr (tNot (tB (tCall (sp_law_whole g) [] E0 (tCons (tOp (rIxA g.K) (tVar 0) (tC (.int 1))) (tNil))))) (tNot (tB (tCall (sp_law_whole g) [] E0 (tCons (tOp (rIxA g.K) (tVar 0) (tC (.int 3))) (tNil))))))) (tRet (tC (.bl false))) (tNext))
    (tRet (tCB (rAll g.K) (tCons (tLc (iList g.K (tCB (rList g.K) (tCons (tOp (rIxA g.K) (tVar 0) (tC (.int 2))) (tNil)))) (gName 1) (tYes) (tAndV (tCB (rIsX g.K) (tCons (tVar 1) (tCons (tC (.ty "str")) (tNil)))) (tCall (sp_law_whole g) [] E0 (tCons (tOp (rIxA g.K) (tOp (rIxA g.K) (tVar 0) (tC (.int 2))) (tVar 1)) (tNil)))) [1]) (tNil))))))
def sp_law_bits (g : En) : Sp := fun vs H Q _ => ∃ a0, vs = [a0] ∧ t_law_bits g ⟨fun _ H1 => Q .non H1, Q, fun _ _ => False, fun _ _ => False⟩ [some a0, none, none] H
def t_law_k03 (g : En) : TS := tSeq (tAsg (tCall (sp_law_program g) [] E0 (tCons (tVar 0) (tNil))) (gName 1))
    (tSeq (tAsg (tCall (sp_law_most g) [] E0 (tCons (tVar 0) (tNil))) (gName 2))
    (tSeq (tAsg (tCall (sp_law_plain g) [] E0 (tCons (tVar 1) (tCons (tVar 2) (tNil)))) (gName 3))
    (tSeq (tAsg (tOp (rIxA g.K) (tVar 3) (tUn rNeg (tC (.int 1)))) (gName 4))
    (tSeq (tAsg (tTupN (tCons (tOp (rIxA g.K) (tVar 4) (tC (.int 2))) (tCons (tOp (rIxA g.K) (tVar 4) (tC (.int 0))) (tCons (tOp (rIxA g.K) (tVar 4) (tC (.int 1))) (tCons (tOp (rSub) (tCB (rLen g.K) (tCons (tVar 3) (tNil))) (tC (.int 1))) (tNil)))))) (gName 5))
    (tSeq (tAsg (tCB (rList g.K) (tCons (tVar 1) (tNil))) (gName 6))
    (tSeq (tAsg (tCall (sp_plain g) [] E0 (tCons (tVar 6) (tCons (tVar 2) (tNil)))) (gName 7))
    (tSeq (tIfS (tOr (tNot (tB (tCall (sp_law_bits g) [] E0 (tCons (tVar 7) (tNil))))) (tTest (tOp (rNeA g.K) (tVar 7) (tVar 5)))) (tRet (tC (.bl false))) (tNext))
    (tSeq (tDrop (tBM g.K "list" rAppN (tOp (rIxA g.K) (tVar 7) (tC (.int 0))) (tCons (tC (.int 1)) tNil)))
    (tSeq (tDrop (tBM0 g.K "dict" rDClearN (tOp (rIxA g.K) (tVar 7) (tC (.int 2)))))
    (tRet (tAndV (tOp (rEqA g.K) (tCall (sp_plain g) [] E0 (tCons (tVar 6) (tCons (tVar 2) (tNil)))) (tVar 5)) (tCall (sp_law_alike g) [] E0 (tCons (tVar 6) (tCons (tVar 1) (tNil)))))))))))))))
def sp_law_k03 (g : En) : Sp := fun vs H Q _ => ∃ a0, vs = [a0] ∧ t_law_k03 g ⟨fun _ H1 => Q .non H1, Q, fun _ _ => False, fun _ _ => False⟩ [some a0, none, none, none, none, none, none, none] H
def t_guard_of (g : En) : TS := tSeq (tAsg (tOp (rEqA g.K) (tOp (rIxA g.K) (tVar 2) (tOp (rIxA g.K) (tVar 0) (tC (.int 1)))) (tC (.int 0))) (gName 4))
    (tSeq (tAsg (tOp (rIxA g.K) (tVar 0) (tC (.int 2))) (gName 5))
    (tSeq (tIfS (tB (tVar 4)) (tAsg (tOp (rAdd g.K) (tVar 1) (tC (.int 1))) (gName 5)) (tNext))
    (tRet (tTupN (tCons (tC (.str "guard")) (tCons (tOp (rIxA g.K) (tVar 0) (tC (.int 1))) (tCons (tVar 4) (tCons (tVar 5) (tCons (tVar 3) (tCons (tTupF (tNil)) (tNil)))))))))))
def sp_guard_of (g : En) : Sp := fun vs H Q _ => ∃ a0 a1 a2 a3, vs = [a0, a1, a2, a3] ∧ t_guard_of g ⟨fun _ H1 => Q .non H1, Q, fun _ _ => False, fun _ _ => False⟩ [some a0, some a1, some a2, some a3, none, none] H
def t_written (g : En) : TS := tSeq (tAsg (tLstN (tNil)) (gName 4))
    (tSeq (tAsg (tVar 1) (gName 5))
    (tSeq (tAsg (tC (.int 0)) (gName 6))
    (tSeq (tWhile (tAnd (tTest (tOp (rLt) (tVar 6) (tVar 3))) (tNot (tB (tCall (sp_is_over g) [] E0 (tCons (tVar 0) (tCons (tVar 5) (tNil))))))) (tSeq (tAsg (tOp (rIxA g.K) (tVar 0) (tVar 5)) (gName 7))
    (tSeq (tAsg (tOp (rAdd g.K) (tVar 6) (tC (.int 1))) (gName 6))
    (tSeq (tIfS (tTest (tOp (rEqA g.K) (tOp (rIxA g.K) (tVar 7) (tC (.int 0))) (tC (.str "zero")))) (tSeq (tDrop (tBM g.K "list" rAppN (tVar 4) (tCons (tCall (sp_guard_of g) [] E0 (tCons (tVar 7) (tCons (tVar 5) (tCons (tVar 2) (tCons (tVar 6) (tNil)))))) tNil)))
    (tAsg (tCall (sp_next_place g) [] E0 (tCons (tVar 7) (tCons (tVar 5) (tCons (tVar 2) (tNil))))) (gName 5))) (tIfS (tTest (tOp (rEqA g.K) (tOp (rIxA g.K) (tVar 7) (tC (.int 0))) (tC (.str "jump")))) (tAsg (tOp (rIxA g.K) (tVar 7) (tC (.int 1))) (gName 5)) (tSeq (tDrop (tBM g.K "list" rAppN (tVar 4) (tCons (tVar 7) tNil)))
    (tSeq (tAsg (tCall (sp_done g) [] E0 (tCons (tVar 7) (tCons (tVar 2) (tNil)))) (gName 2))
    (tAsg (tOp (rAdd g.K) (tVar 5) (tC (.int 1))) (gName 5))))))
    (tIfS (tTest (tOp (rEqA g.K) (tVar 5) (tVar 1))) (tRet (tTupN (tCons (tVar 1) (tCons (tVar 4) (tCons (tVar 6) (tNil)))))) (tNext))))))
    (tRet (tC .non)))))
def sp_written (g : En) : Sp := fun vs H Q _ => ∃ a0 a1 a2 a3, vs = [a0, a1, a2, a3] ∧ t_written g ⟨fun _ H1 => Q .non H1, Q, fun _ _ => False, fun _ _ => False⟩ [some a0, some a1, some a2, some a3, none, none, none, none] H
def t_law_source (g : En) : TS := tRet (tOrV (tCB (rIsX g.K) (tCons (tVar 0) (tCons (tC (.ty "str")) (tNil)))) (tAndV (tCall (sp_law_whole g) [] E0 (tCons (tVar 0) (tNil))) (tChain (rLe) (rLt) (tC (.int 0)) (tVar 0) (tOp (rPow) (tC (.int 10)) (tC (.int 6))))))
def sp_law_source (g : En) : Sp := fun vs H Q _ => ∃ a0, vs = [a0] ∧ t_law_source g ⟨fun _ H1 => Q .non H1, Q, fun _ _ => False, fun _ _ => False⟩ [some a0] H
def t_law_guard (g : En) : TS := tSeq (tIfS (tOr (tTest (tOp (rNeA g.K) (tCB (rLen g.K) (tCons (tVar 0) (tNil))) (tC (.int 6)))) (tOr (tNot (tB (tCall (sp_law_source g) [] E0 (tCons (tOp (rIxA g.K) (tVar 0) (tC (.int 1))) (tNil))))) (tOr (tNot (tB (tCB (rIsX g.K) (tCons (tOp (rIxA g.K) (tVar 0) (tC (.int 2))) (tCons (tC (.ty "bool")) (tNil)))))) (tNot (tB (tCB (rIsX g.K) (tCons (tOp (rIxA g.K) (tVar 0) (tC (.int 5))) (tCons (tC (.ty "tuple")) (tNil))))))))) (tRet (tC (.bl false))) (tNext))
    (tSeq (tIfS (tOr (tNot (tB (tCall (sp_law_whole g) [] E0 (tCons (tOp (rIxA g.K) (tVar 0) (tC (.int 3))) (tNil))))) (tNot (tB (tCall (sp_law_whole g) [] E0 (tCons (tOp (rIxA g.K) (tVar 0) (tC (.int 4))) (tNil)))))) (tRet (tC (.bl false))) (tNext))
    (tSeq (tFor (iTup g.K (tOp (rIxA g.K) (tVar 0) (tC (.int 5)))) (gName 1) (tIfS (tOr (tNot (tB (tCB (rIsX g.K) (tCons (tVar 1) (tCons (tC (.ty "tuple")) (tNil)))))) (tOr (tTest (tOp (rNeA g.K) (tCB (rLen g.K) (tCons (tVar 1) (tNil))) (tC (.int 2)))) (tOr (tNot (tB (tCB (rIsX g.K) (tCons (tOp (rIxA g.K) (tVar 1) (tC (.int 0))) (tCons (tC (.ty "str")) (tNil)))))) (tNot (tB (tCall (sp_law_source g) [] E0 (tCons (tOp (rIxA g.K) (tVar 1) (tC (.int 1))) (tNil)))))))) (tRet (tC (.bl false))) (tNext)))
    (tRet (tOp (rEqA g.K) (tCB (rLen g.K) (tCons (tCB (rDictP g.K) (tCons (tOp (rIxA g.K) (tVar 0) (tC (.int 5))) (tNil))) (tNil))) (tCB (rLen g.K) (tCons (tOp (rIxA g.K) (tVar 0) (tC (.int 5))) (tNil)))))))
def sp_law_guard (g : En) : Sp := fun vs H Q _ => ∃ a0, vs = [a0] ∧ t_law_guard g ⟨fun _ H1 => Q .non H1, Q, fun _ _ => False, fun _ _ => False⟩ [some a0, none] H
def t_law_trace (g : En) : TS := tSeq (tIfS (tOr (tNot (tB (tCB (rIsX g.K) (tCons (tVar 0) (tCons (tC (.ty "tuple")) (tNil)))))) (tOr (tTest (tOp (rNeA g.K) (tCB (rLen g.K) (tCons (tVar 0) (tNil))) (tC (.int 3)))) (tNot (tB (tCB (rIsX g.K) (tCons (tOp (rIxA g.K) (tVar 0) (tC (.int 1))) (tCons (tC (.ty "list")) (tNil)))))))) (tRet (tC (.bl false))) (tNext))
    (tSeq (tAsg (tDispN [(tC (.str "put"), tC (.int 3)), (tC (.str "copy"), tC (.int 3)), (tC (.str "add"), tC (.int 4)), (tC (.str "minus"), tC (.int 4)), (tC (.str "times"), tC (.int 4)), (tC (.str "less"), tC (.int 4)), (tC (.str "tell"), tC (.int 2))]) (gName 1))
    (tSeq (tFor (iList g.K (tOp (rIxA g.K) (tVar 0) (tC (.int 1)))) (gName 2) (tSeq (tIfS (tOr (tNot (tB (tCB (rIsX g.K) (tCons (tVar 2) (tCons (tC (.ty "tuple")) (tNil)))))) (tOr (tTest (tOp (rLt) (tCB (rLen g.K) (tCons (tVar 2) (tNil))) (tC (.int 2)))) (tNot (tB (tCB (rIsX g.K) (tCons (tOp (rIxA g.K) (tVar 2) (tC (.int 0))) (tCons (tC (.ty "str")) (tNil)))))))) (tRet (tC (.bl false))) (tNext))
    (tIfS (tTest (tOp (rEqA g.K) (tOp (rIxA g.K) (tVar 2) (tC (.int 0))) (tC (.str "guard")))) (tIfS (tNot (tB (tCall (sp_law_guard g) [] E0 (tCons (tVar 2) (tNil))))) (tRet (tC (.bl false))) (tNext)) (tIfS (tOr (tTest (tOp (rNeA g.K) (tCB (rLen g.K) (tCons (tVar 2) (tNil))) (tDG2 (tVar 1) (tOp (rIxA g.K) (tVar 2) (tC (.int 0))) (tC (.int 0))))) (tNot (tB (tCB (rAll g.K) (tCons (tLc (iTup g.K (tSl (rSlX g.K) (tVar 2) (tPart (tC (.int 1))) (tNoPart))) (gName 3) (tYes) (tCall (sp_law_source g) [] E0 (tCons (tVar 3) (tNil))) [3]) (tNil)))))) (tRet (tC (.bl false))) (tIfS (tOr (tAnd (tTest (tOp (rNeA g.K) (tOp (rIxA g.K) (tVar 2) (tC (.int 0))) (tC (.str "tell")))) (tNot (tB (tCB (rIsX g.K) (tCons (tOp (rIxA g.K) (tVar 2) (tC (.int 1))) (tCons (tC (.ty "str")) (tNil))))))) (tAnd (tTest (tOp (rEqA g.K) (tOp (rIxA g.K) (tVar 2) (tC (.int 0))) (tC (.str "put")))) (tNot (tB (tCall (sp_law_whole g) [] E0 (tCons (tOp (rIxA g.K) (tVar 2) (tC (.int 2))) (tNil))))))) (tRet (tC (.bl false))) (tNext))))))
    (tRet (tAndV (tCall (sp_law_whole g) [] E0 (tCons (tOp (rIxA g.K) (tVar 0) (tC (.int 0))) (tNil))) (tCall (sp_law_whole g) [] E0 (tCons (tOp (rIxA g.K) (tVar 0) (tC (.int 2))) (tNil)))))))
def sp_law_trace (g : En) : Sp := fun vs H Q _ => ∃ a0, vs = [a0] ∧ t_law_trace g ⟨fun _ H1 => Q .non H1, Q, fun _ _ => False, fun _ _ => False⟩ [some a0, none, none, none] H
def t_law_due_row (g : En) : TS := tSeq (tAsg (tOp (rIxA g.K) (tVar 0) (tVar 1)) (gName 4))
    (tSeq (tIfS (tTest (tOp (rEqA g.K) (tOp (rIxA g.K) (tVar 4) (tC (.int 0))) (tC (.str "jump")))) (tRet (tLstN (tNil))) (tNext))
    (tSeq (tIfS (tTest (tOp (rNeA g.K) (tOp (rIxA g.K) (tVar 4) (tC (.int 0))) (tC (.str "zero")))) (tRet (tLstN (tCons (tVar 4) (tNil)))) (tNext))
    (tSeq (tIfS (tTest (tOp (rEqA g.K) (tOp (rIxA g.K) (tVar 2) (tOp (rIxA g.K) (tVar 4) (tC (.int 1)))) (tC (.int 0)))) (tRet (tLstN (tCons (tTupN (tCons (tC (.str "guard")) (tCons (tOp (rIxA g.K) (tVar 4) (tC (.int 1))) (tCons (tC (.bl true)) (tCons (tOp (rAdd g.K) (tVar 1) (tC (.int 1))) (tCons (tVar 3) (tCons (tTupF (tNil)) (tNil)))))))) (tNil)))) (tNext))
    (tRet (tLstN (tCons (tTupN (tCons (tC (.str "guard")) (tCons (tOp (rIxA g.K) (tVar 4) (tC (.int 1))) (tCons (tC (.bl false)) (tCons (tOp (rIxA g.K) (tVar 4) (tC (.int 2))) (tCons (tVar 3) (tCons (tTupF (tNil)) (tNil)))))))) (tNil)))))))
def sp_law_due_row (g : En) : Sp := fun vs H Q _ => ∃ a0 a1 a2 a3, vs = [a0, a1, a2, a3] ∧ t_law_due_row g ⟨fun _ H1 => Q .non H1, Q, fun _ _ => False, fun _ _ => False⟩ [some a0, some a1, some a2, some a3, none] H
def t_law_written (g : En) : TS := tSeq (tAsg (tLstN (tNil)) (gName 4))
    (tSeq (tAsg (tVar 1) (gName 5))
    (tSeq (tFor (iRng2 (tCons (tC (.int 1)) (tCons (tOp (rAdd g.K) (tVar 3) (tC (.int 1))) (tNil)))) (gName 6) (tSeq (tIfS (tB (tCall (sp_law_over g) [] E0 (tCons (tVar 0) (tCons (tVar 5) (tNil))))) (tRet (tC .non)) (tNext))
    (tSeq (tAsg (tOp (rAdd g.K) (tVar 4) (tCall (sp_law_due_row g) [] E0 (tCons (tVar 0) (tCons (tVar 5) (tCons (tVar 2) (tCons (tVar 6) (tNil))))))) (gName 4))
    (tSeq (tAsg (tCall (sp_law_step g) [] E0 (tCons (tVar 0) (tCons (tVar 5) (tCons (tVar 2) (tNil))))) (gName 7))
    (tSeq (tAsg (tOp (rIxA g.K) (tVar 7) (tC (.int 0))) (gName 5))
    (tSeq (tAsg (tOp (rIxA g.K) (tVar 7) (tC (.int 1))) (gName 2))
    (tIfS (tTest (tOp (rEqA g.K) (tVar 5) (tVar 1))) (tRet (tTupN (tCons (tVar 1) (tCons (tVar 4) (tCons (tVar 6) (tNil)))))) (tNext))))))))
    (tRet (tC .non))))
def sp_law_written (g : En) : Sp := fun vs H Q _ => ∃ a0 a1 a2 a3, vs = [a0, a1, a2, a3] ∧ t_law_written g ⟨fun _ H1 => Q .non H1, Q, fun _ _ => False, fun _ _ => False⟩ [some a0, some a1, some a2, some a3, none, none, none, none] H
def t_law_k04 (g : En) : TS := tSeq (tAsg (tCall (sp_law_program g) [] E0 (tCons (tVar 0) (tNil))) (gName 1))
    (tSeq (tIfS (tTest (tOp (rEqA g.K) (tCB (rLen g.K) (tCons (tVar 1) (tNil))) (tC (.int 0)))) (tRet (tC (.bl true))) (tNext))
    (tSeq (tAsg (tOp (rIxA g.K) (tLstN (tCons (tOp (rMod) (tC (.int 3)) (tCB (rLen g.K) (tCons (tVar 1) (tNil)))) (tCons (tOp (rMod) (tC (.int 2)) (tCB (rLen g.K) (tCons (tVar 1) (tNil)))) (tCons (tOp (rMod) (tCB (rSum g.K) (tCons (tVar 0) (tNil))) (tCB (rLen g.K) (tCons (tVar 1) (tNil)))) (tNil))))) (tOp (rMod) (tOp (rFdiv) (tCB (rSum g.K) (tCons (tVar 0) (tNil))) (tC (.int 7))) (tC (.int 3)))) (gName 2))
    (tSeq (tAsg (tCall (sp_law_all g) [] E0 (tCons (tVar 1) (tNil))) (gName 3))
    (tSeq (tFor (iEnum g.K (tCons (tCB (rList g.K) (tCons (tVar 3) (tNil))) (tNil))) (gTup g.K 2 (gCons (gName 4) (gCons (gName 5) (gNil)))) (sDPutN (tVar 3) (tVar 5) (tCall (sp_law_number g) [] E0 (tCons (tCall (sp_law_cell_at g) [] E0 (tCons (tVar 0) (tCons (tOp (rAdd g.K) (tC (.int 2)) (tVar 4)) (tNil)))) (tNil)))))
    (tSeq (tAsg (tCall (sp_law_most g) [] E0 (tCons (tVar 0) (tNil))) (gName 6))
    (tSeq (tAsg (tCB (rList g.K) (tCons (tVar 1) (tNil))) (gName 7))
    (tSeq (tAsg (tCB (rDict) (tCons (tVar 3) (tNil))) (gName 8))
    (tSeq (tAsg (tCall (sp_law_written g) [] E0 (tCons (tVar 1) (tCons (tVar 2) (tCons (tVar 3) (tCons (tVar 6) (tNil)))))) (gName 9))
    (tSeq (tAsg (tCall (sp_written g) [] E0 (tCons (tVar 7) (tCons (tVar 2) (tCons (tVar 8) (tCons (tVar 6) (tNil)))))) (gName 10))
    (tSeq (tIfS (tOr (tTest (tOp (rIs) (tVar 9) (tC .non))) (tTest (tOp (rIs) (tVar 10) (tC .non)))) (tRet (tAndV (tOp (rIs) (tVar 9) (tC .non)) (tOp (rIs) (tVar 10) (tC .non)))) (tNext))
    (tSeq (tIfS (tOr (tNot (tB (tCall (sp_law_trace g) [] E0 (tCons (tVar 10) (tNil))))) (tTest (tOp (rNeA g.K) (tVar 10) (tVar 9)))) (tRet (tC (.bl false))) (tNext))
    (tSeq (tDrop (tBM0 g.K "list" rClearN (tOp (rIxA g.K) (tVar 10) (tC (.int 1)))))
    (tRet (tAndV (tOp (rEqA g.K) (tCall (sp_written g) [] E0 (tCons (tVar 7) (tCons (tVar 2) (tCons (tVar 8) (tCons (tVar 6) (tNil)))))) (tVar 9)) (tAndV (tOp (rEqA g.K) (tVar 8) (tVar 3)) (tCall (sp_law_alike g) [] E0 (tCons (tVar 7) (tCons (tVar 1) (tNil)))))))))))))))))))
def sp_law_k04 (g : En) : Sp := fun vs H Q _ => ∃ a0, vs = [a0] ∧ t_law_k04 g ⟨fun _ H1 => Q .non H1, Q, fun _ _ => False, fun _ _ => False⟩ [some a0, none, none, none, none, none, none, none, none, none, none] H
def t_mended (g : En) : TS := tSeq (tAsg (tCB (rDict) (tCons (tVar 0) (tNil))) (gName 2))
    (tSeq (tFor (iTup g.K (tVar 1)) (gTup g.K 2 (gCons (gName 3) (gCons (gName 4) (gNil)))) (sDPutN (tVar 2) (tVar 3) (tCall (sp_value_of g) [] E0 (tCons (tVar 0) (tCons (tVar 4) (tNil))))))
    (tRet (tVar 2)))
def sp_mended (g : En) : Sp := fun vs H Q _ => ∃ a0 a1, vs = [a0, a1] ∧ t_mended g ⟨fun _ H1 => Q .non H1, Q, fun _ _ => False, fun _ _ => False⟩ [some a0, some a1, none, none, none] H
def t_round_of (g : En) : TS := tSeq (tAsg (tLstN (tNil)) (gName 2))
    (tSeq (tAsg (tCB (rDict) (tCons (tVar 1) (tNil))) (gName 1))
    (tSeq (tFor (iList g.K (tOp (rIxA g.K) (tVar 0) (tC (.int 1)))) (gName 3) (tIfS (tTest (tOp (rEqA g.K) (tOp (rIxA g.K) (tVar 3) (tC (.int 0))) (tC (.str "guard")))) (tIfS (tTest (tOp (rNeA g.K) (tOp (rEqA g.K) (tCall (sp_value_of g) [] E0 (tCons (tVar 1) (tCons (tOp (rIxA g.K) (tVar 3) (tC (.int 1))) (tNil)))) (tC (.int 0))) (tOp (rIxA g.K) (tVar 3) (tC (.int 2))))) (tRet (tTupN (tCons (tC (.bl false)) (tCons (tOp (rIxA g.K) (tVar 3) (tC (.int 3))) (tCons (tCall (sp_mended g) [] E0 (tCons (tVar 1) (tCons (tOp (rIxA g.K) (tVar 3) (tC (.int 5))) (tNil)))) (tCons (tVar 2) (tCons (tOp (rIxA g.K) (tVar 3) (tC (.int 4))) (tNil)))))))) (tNext)) (tSeq (tAsg (tOp (rAdd g.K) (tVar 2) (tCall (sp_told_by g) [] E0 (tCons (tVar 3) (tCons (tVar 1) (tNil))))) (gName 2))
    (tAsg (tCall (sp_done g) [] E0 (tCons (tVar 3) (tCons (tVar 1) (tNil)))) (gName 1)))))
    (tRet (tTupN (tCons (tC (.bl true)) (tCons (tOp (rIxA g.K) (tVar 0) (tC (.int 0))) (tCons (tVar 1) (tCons (tVar 2) (tCons (tOp (rIxA g.K) (tVar 0) (tC (.int 2))) (tNil))))))))))
def sp_round_of (g : En) : Sp := fun vs H Q _ => ∃ a0 a1, vs = [a0, a1] ∧ t_round_of g ⟨fun _ H1 => Q .non H1, Q, fun _ _ => False, fun _ _ => False⟩ [some a0, some a1, none, none] H
def t_law_mixed (g : En) : TS := tSeq (tIfS (tTest (tOp (rEqA g.K) (tOp (rMod) (tVar 0) (tC (.int 4))) (tC (.int 3)))) (tRet (tCall (sp_law_number g) [] E0 (tCons (tOp (rFdiv) (tVar 0) (tC (.int 4))) (tNil)))) (tNext))
    (tRet (tOp (rIxA g.K) (tVar 1) (tOp (rMod) (tOp (rFdiv) (tVar 0) (tC (.int 4))) (tC (.int 4)))))
def sp_law_mixed (g : En) : Sp := fun vs H Q _ => ∃ a0 a1, vs = [a0, a1] ∧ t_law_mixed g ⟨fun _ H1 => Q .non H1, Q, fun _ _ => False, fun _ _ => False⟩ [some a0, some a1] H
def t_law_drawn_row (g : En) : TS := tSeq (tAsg (tOp (rIxA g.K) (tVar 3) (tOp (rMod) (tOp (rAdd g.K) (tVar 1) (tVar 2)) (tC (.int 4)))) (gName 5))
    (tSeq (tIfS (tTest (tOp (rGt) (tOp (rMod) (tVar 0) (tC (.int 9))) (tC (.int 6)))) (tSeq (tAsg (tTupF (tCons (tTupN (tCons (tVar 5) (tCons (tCall (sp_law_mixed g) [] E0 (tCons (tOp (rFdiv) (tVar 2) (tC (.int 2))) (tCons (tVar 3) (tNil)))) (tNil)))) (tCons (tTupN (tCons (tOp (rIxA g.K) (tVar 3) (tOp (rMod) (tOp (rAdd g.K) (tOp (rAdd g.K) (tVar 1) (tVar 2)) (tC (.int 1))) (tC (.int 4)))) (tCons (tCall (sp_law_mixed g) [] E0 (tCons (tVar 1) (tCons (tVar 3) (tNil)))) (tNil)))) (tNil)))) (gName 6))
    (tRet (tTupN (tCons (tC (.str "guard")) (tCons (tCall (sp_law_mixed g) [] E0 (tCons (tVar 1) (tCons (tVar 3) (tNil)))) (tCons (tOp (rEqA g.K) (tOp (rMod) (tVar 2) (tC (.int 2))) (tC (.int 0))) (tCons (tOp (rMod) (tOp (rFdiv) (tVar 2) (tC (.int 2))) (tC (.int 60))) (tCons (tOp (rAdd g.K) (tVar 4) (tC (.int 1))) (tCons (tSl (rSlF) (tVar 6) (tNoPart) (tPart (tOp (rMod) (tOp (rFdiv) (tVar 0) (tC (.int 9))) (tC (.int 3))))) (tNil)))))))))) (tNext))
    (tSeq (tAsg (tOp (rIxA g.K) (tLstN (tCons (tC (.str "put")) (tCons (tC (.str "copy")) (tCons (tC (.str "add")) (tCons (tC (.str "minus")) (tCons (tC (.str "times")) (tCons (tC (.str "less")) (tCons (tC (.str "tell")) (tNil))))))))) (tOp (rMod) (tVar 0) (tC (.int 9)))) (gName 7))
    (tSeq (tIfS (tTest (tOp (rEqA g.K) (tVar 7) (tC (.str "put")))) (tRet (tTupN (tCons (tVar 7) (tCons (tVar 5) (tCons (tCall (sp_law_number g) [] E0 (tCons (tVar 2) (tNil))) (tNil)))))) (tNext))
    (tSeq (tIfS (tTest (tOp (rEqA g.K) (tVar 7) (tC (.str "tell")))) (tRet (tTupN (tCons (tVar 7) (tCons (tCall (sp_law_mixed g) [] E0 (tCons (tVar 2) (tCons (tVar 3) (tNil)))) (tNil))))) (tNext))
    (tSeq (tIfS (tTest (tOp (rEqA g.K) (tVar 7) (tC (.str "copy")))) (tRet (tTupN (tCons (tVar 7) (tCons (tVar 5) (tCons (tCall (sp_law_mixed g) [] E0 (tCons (tVar 2) (tCons (tVar 3) (tNil)))) (tNil)))))) (tNext))
    (tRet (tTupN (tCons (tVar 7) (tCons (tVar 5) (tCons (tCall (sp_law_mixed g) [] E0 (tCons (tVar 1) (tCons (tVar 3) (tNil)))) (tCons (tCall (sp_law_mixed g) [] E0 (tCons (tVar 2) (tCons (tVar 3) (tNil)))) (tNil))))))))))))
def sp_law_drawn_row (g : En) : Sp := fun vs H Q _ => ∃ a0 a1 a2 a3 a4, vs = [a0, a1, a2, a3, a4] ∧ t_law_drawn_row g ⟨fun _ H1 => Q .non H1, Q, fun _ _ => False, fun _ _ => False⟩ [some a0, some a1, some a2, some a3, some a4, none, none, none] H
def t_law_pattern (g : En) : TS := tSeq (tAsg (tOp (rIxA g.K) (tVar 2) (tOp (rMod) (tVar 1) (tC (.int 4)))) (gName 3))
    (tSeq (tAsg (tOp (rIxA g.K) (tVar 2) (tOp (rMod) (tOp (rAdd g.K) (tVar 1) (tC (.int 1))) (tC (.int 4)))) (gName 4))
    (tSeq (tAsg (tOp (rIxA g.K) (tVar 2) (tOp (rMod) (tOp (rAdd g.K) (tVar 1) (tC (.int 2))) (tC (.int 4)))) (gName 5))
    (tSeq (tAsg (tTupN (tCons (tC (.str "guard")) (tCons (tVar 3) (tCons (tC (.bl false)) (tCons (tOp (rMod) (tVar 1) (tC (.int 60))) (tCons (tOp (rAdd g.K) (tC (.int 1)) (tOp (rMod) (tVar 1) (tC (.int 9)))) (tCons (tTupF (tNil)) (tNil)))))))) (gName 6))
    (tSeq (tIfS (tTest (tOp (rEqA g.K) (tVar 0) (tC (.int 0)))) (tRet (tLstN (tCons (tVar 6) (tCons (tTupN (tCons (tOp (rIxA g.K) (tLstN (tCons (tC (.str "minus")) (tCons (tC (.str "less")) (tNil)))) (tOp (rMod) (tOp (rFdiv) (tVar 1) (tC (.int 4))) (tC (.int 2)))) (tCons (tVar 3) (tCons (tVar 4) (tCons (tVar 5) (tNil)))))) (tCons (tTupN (tCons (tC (.str "guard")) (tCons (tVar 3) (tCons (tC (.bl false)) (tCons (tC (.int 7)) (tCons (tC (.int 9)) (tCons (tTupF (tNil)) (tNil)))))))) (tCons (tTupN (tCons (tC (.str "tell")) (tCons (tVar 3) (tNil)))) (tNil))))))) (tNext))
    (tSeq (tIfS (tTest (tOp (rEqA g.K) (tVar 0) (tC (.int 1)))) (tRet (tLstN (tCons (tTupN (tCons (tC (.str "copy")) (tCons (tVar 4) (tCons (tVar 3) (tNil))))) (tCons (tTupN (tCons (tC (.str "add")) (tCons (tVar 3) (tCons (tVar 3) (tCons (tVar 5) (tNil)))))) (tCons (tTupN (tCons (tC (.str "tell")) (tCons (tVar 4) (tNil)))) (tCons (tTupN (tCons (tC (.str "guard")) (tCons (tVar 4) (tCons (tC (.bl true)) (tCons (tC (.int 5)) (tCons (tC (.int 6)) (tCons (tTupF (tNil)) (tNil)))))))) (tNil))))))) (tNext))
    (tSeq (tAsg (tLstN (tCons (tTupN (tCons (tC (.str "guard")) (tCons (tVar 5) (tCons (tOp (rEqA g.K) (tOp (rMod) (tOp (rFdiv) (tVar 1) (tC (.int 4))) (tC (.int 2))) (tC (.int 0))) (tCons (tC (.int 8)) (tCons (tC (.int 3)) (tCons (tTupF (tNil)) (tNil)))))))) (tCons (tTupN (tCons (tC (.str "put")) (tCons (tVar 4) (tCons (tC (.int 3)) (tNil))))) (tCons (tTupN (tCons (tC (.str "put")) (tCons (tVar 3) (tCons (tC (.int 1)) (tNil))))) (tNil))))) (gName 7))
    (tSeq (tIfS (tTest (tOp (rEqA g.K) (tVar 0) (tC (.int 2)))) (tRet (tOp (rAdd g.K) (tLstN (tCons (tTupN (tCons (tC (.str "copy")) (tCons (tVar 3) (tCons (tVar 4) (tNil))))) (tCons (tTupN (tCons (tOp (rIxA g.K) (tLstN (tCons (tC (.str "add")) (tCons (tC (.str "minus")) (tNil)))) (tOp (rMod) (tOp (rFdiv) (tVar 1) (tC (.int 4))) (tC (.int 2)))) (tCons (tVar 4) (tCons (tVar 5) (tCons (tVar 5) (tNil)))))) (tNil)))) (tVar 7))) (tNext))
    (tSeq (tIfS (tTest (tOp (rEqA g.K) (tVar 0) (tC (.int 3)))) (tRet (tOp (rAdd g.K) (tLstN (tCons (tTupN (tCons (tC (.str "put")) (tCons (tVar 4) (tCons (tC (.int 7)) (tNil))))) (tCons (tTupN (tCons (tC (.str "copy")) (tCons (tVar 3) (tCons (tVar 4) (tNil))))) (tNil)))) (tVar 7))) (tNext))
    (tSeq (tIfS (tTest (tOp (rEqA g.K) (tVar 0) (tC (.int 4)))) (tRet (tLstN (tCons (tTupN (tCons (tC (.str "times")) (tCons (tVar 4) (tCons (tVar 3) (tCons (tVar 3) (tNil)))))) (tCons (tTupN (tCons (tOp (rIxA g.K) (tLstN (tCons (tC (.str "minus")) (tCons (tC (.str "less")) (tNil)))) (tOp (rMod) (tOp (rFdiv) (tVar 1) (tC (.int 4))) (tC (.int 2)))) (tCons (tVar 5) (tCons (tVar 3) (tCons (tVar 3) (tNil)))))) (tCons (tTupN (tCons (tC (.str "tell")) (tCons (tVar 4) (tNil)))) (tNil)))))) (tNext))
    (tRet (tOp (rAdd g.K) (tLstN (tCons (tTupN (tCons (tC (.str "put")) (tCons (tVar 3) (tCons (tC (.int 2)) (tNil))))) (tCons (tTupN (tCons (tC (.str "less")) (tCons (tVar 4) (tCons (tVar 3) (tCons (tVar 5) (tNil)))))) (tCons (tTupN (tCons (tC (.str "copy")) (tCons (tVar 5) (tCons (tVar 4) (tNil))))) (tCons (tTupN (tCons (tC (.str "guard")) (tCons (tVar 4) (tCons (tC (.bl true)) (tCons (tC (.int 6)) (tCons (tC (.int 4)) (tCons (tTupF (tNil)) (tNil)))))))) (tNil)))))) (tVar 7))))))))))))
def sp_law_pattern (g : En) : Sp := fun vs H Q _ => ∃ a0 a1 a2, vs = [a0, a1, a2] ∧ t_law_pattern g ⟨fun _ H1 => Q .non H1, Q, fun _ _ => False, fun _ _ => False⟩ [some a0, some a1, some a2, none, none, none, none, none] H
def t_law_drawn_trace (g : En) : TS := tSeq (tAsg (tOp (rMod) (tCall (sp_law_cell_at g) [] E0 (tCons (tVar 0) (tCons (tC (.int 0)) (tNil)))) (tC (.int 14))) (gName 2))
    (tSeq (tIfS (tTest (tOp (rGt) (tCB (rLen g.K) (tCons (tVar 0) (tNil))) (tC (.int 63)))) (tAsg (tOp (rAdd g.K) (tVar 2) (tC (.int 30))) (gName 2)) (tNext))
    (tSeq (tAsg (tLstN (tNil)) (gName 3))
    (tSeq (tFor (iRng1 (tCons (tVar 2) (tNil))) (gName 4) (tSeq (tAsg (tCall (sp_law_cell_at g) [] E0 (tCons (tVar 0) (tCons (tOp (rAdd g.K) (tC (.int 3)) (tOp (rMul) (tC (.int 3)) (tVar 4))) (tNil)))) (gName 5))
    (tDrop (tBM g.K "list" rAppN (tVar 3) (tCons (tCall (sp_law_drawn_row g) [] E0 (tCons (tVar 5) (tCons (tCall (sp_law_cell_at g) [] E0 (tCons (tVar 0) (tCons (tOp (rAdd g.K) (tC (.int 4)) (tOp (rMul) (tC (.int 3)) (tVar 4))) (tNil)))) (tCons (tCall (sp_law_cell_at g) [] E0 (tCons (tVar 0) (tCons (tOp (rAdd g.K) (tC (.int 5)) (tOp (rMul) (tC (.int 3)) (tVar 4))) (tNil)))) (tCons (tVar 1) (tCons (tVar 4) (tNil))))))) tNil)))))
    (tSeq (tAsg (tOp (rMod) (tOp (rAdd g.K) (tCall (sp_law_cell_at g) [] E0 (tCons (tVar 0) (tCons (tC (.int 0)) (tNil)))) (tCall (sp_law_cell_at g) [] E0 (tCons (tVar 0) (tCons (tC (.int 1)) (tNil))))) (tC (.int 8))) (gName 5))
    (tSeq (tIfS (tTest (tOp (rLt) (tVar 5) (tC (.int 6)))) (tSeq (tAsg (tOp (rMod) (tCall (sp_law_cell_at g) [] E0 (tCons (tVar 0) (tCons (tC (.int 3)) (tNil)))) (tOp (rAdd g.K) (tCB (rLen g.K) (tCons (tVar 3) (tNil))) (tC (.int 1)))) (gName 6))
    (tAsg (tOp (rAdd g.K) (tOp (rAdd g.K) (tSl (rSlX g.K) (tVar 3) (tNoPart) (tPart (tVar 6))) (tCall (sp_law_pattern g) [] E0 (tCons (tVar 5) (tCons (tCall (sp_law_cell_at g) [] E0 (tCons (tVar 0) (tCons (tC (.int 4)) (tNil)))) (tCons (tVar 1) (tNil)))))) (tSl (rSlX g.K) (tVar 3) (tPart (tVar 6)) (tNoPart))) (gName 3))) (tNext))
    (tRet (tTupN (tCons (tOp (rMod) (tCall (sp_law_cell_at g) [] E0 (tCons (tVar 0) (tCons (tC (.int 1)) (tNil)))) (tC (.int 60))) (tCons (tVar 3) (tCons (tOp (rAdd g.K) (tVar 2) (tOp (rMod) (tOp (rFdiv) (tCall (sp_law_cell_at g) [] E0 (tCons (tVar 0) (tCons (tC (.int 1)) (tNil)))) (tC (.int 60))) (tC (.int 9)))) (tNil)))))))))))
def sp_law_drawn_trace (g : En) : Sp := fun vs H Q _ => ∃ a0 a1, vs = [a0, a1] ∧ t_law_drawn_trace g ⟨fun _ H1 => Q .non H1, Q, fun _ _ => False, fun _ _ => False⟩ [some a0, some a1, none, none, none, none, none] H
def t_law_drawn_values (g : En) : TS := tSeq (tAsg (tDNewN) (gName 3))
    (tSeq (tFor (iRng1 (tCons (tC (.int 5)) (tNil))) (gName 4) (tSeq (tAsg (tCall (sp_law_cell_at g) [] E0 (tCons (tVar 0) (tCons (tOp (rAdd g.K) (tC (.int 1)) (tOp (rMod) (tOp (rAdd g.K) (tVar 4) (tOp (rMul) (tC (.int 5)) (tVar 2))) (tCB (rMax2) (tCons (tC (.int 1)) (tCons (tCB (rLen g.K) (tCons (tVar 0) (tNil))) (tNil)))))) (tNil)))) (gName 5))
    (sDPutN (tVar 3) (tOp (rIxA g.K) (tVar 1) (tVar 4)) (tOp (rIxA g.K) (tLstN (tCons (tOp (rMod) (tOp (rFdiv) (tVar 5) (tC (.int 3))) (tC (.int 2))) (tCons (tOp (rMod) (tOp (rFdiv) (tVar 5) (tC (.int 3))) (tC (.int 3))) (tCons (tCall (sp_law_number g) [] E0 (tCons (tOp (rFdiv) (tVar 5) (tC (.int 3))) (tNil))) (tNil))))) (tOp (rMod) (tVar 5) (tC (.int 3)))))))
    (tRet (tVar 3)))
def sp_law_drawn_values (g : En) : Sp := fun vs H Q _ => ∃ a0 a1 a2, vs = [a0, a1, a2] ∧ t_law_drawn_values g ⟨fun _ H1 => Q .non H1, Q, fun _ _ => False, fun _ _ => False⟩ [some a0, some a1, some a2, none, none, none] H
def t_law_round (g : En) : TS := tSeq (tAsg (tLstN (tNil)) (gName 2))
    (tSeq (tFor (iList g.K (tOp (rIxA g.K) (tVar 0) (tC (.int 1)))) (gName 3) (tIfS (tTest (tOp (rNeA g.K) (tOp (rIxA g.K) (tVar 3) (tC (.int 0))) (tC (.str "guard")))) (tSeq (tAsg (tOp (rAdd g.K) (tVar 2) (tCall (sp_law_told g) [] E0 (tCons (tVar 3) (tCons (tVar 1) (tNil))))) (gName 2))
    (tAsg (tCall (sp_law_done g) [] E0 (tCons (tVar 3) (tCons (tVar 1) (tNil)))) (gName 1))) (tIfS (tTest (tOp (rNeA g.K) (tOp (rEqA g.K) (tCall (sp_law_value g) [] E0 (tCons (tVar 1) (tCons (tOp (rIxA g.K) (tVar 3) (tC (.int 1))) (tNil)))) (tC (.int 0))) (tOp (rIxA g.K) (tVar 3) (tC (.int 2))))) (tSeq (tAsg (tCB (rDict) (tCons (tVar 1) (tNil))) (gName 4))
    (tSeq (tFor (iTup g.K (tOp (rIxA g.K) (tVar 3) (tC (.int 5)))) (gTup g.K 2 (gCons (gName 5) (gCons (gName 6) (gNil)))) (sDPutN (tVar 4) (tVar 5) (tCall (sp_law_value g) [] E0 (tCons (tVar 1) (tCons (tVar 6) (tNil))))))
    (tRet (tTupN (tCons (tC (.bl false)) (tCons (tOp (rIxA g.K) (tVar 3) (tC (.int 3))) (tCons (tVar 4) (tCons (tVar 2) (tCons (tOp (rIxA g.K) (tVar 3) (tC (.int 4))) (tNil)))))))))) (tNext))))
    (tRet (tTupN (tCons (tC (.bl true)) (tCons (tOp (rIxA g.K) (tVar 0) (tC (.int 0))) (tCons (tVar 1) (tCons (tVar 2) (tCons (tOp (rIxA g.K) (tVar 0) (tC (.int 2))) (tNil)))))))))
def sp_law_round (g : En) : Sp := fun vs H Q _ => ∃ a0 a1, vs = [a0, a1] ∧ t_law_round g ⟨fun _ H1 => Q .non H1, Q, fun _ _ => False, fun _ _ => False⟩ [some a0, some a1, none, none, none, none, none] H
def t_law_k05 (g : En) : TS := tSeq (tAsg (tCall (sp_law_names g) [] E0 (tCons (tCall (sp_law_cell_at g) [] E0 (tCons (tVar 0) (tCons (tC (.int 2)) (tNil)))) (tNil))) (gName 1))
    (tSeq (tAsg (tCall (sp_law_drawn_trace g) [] E0 (tCons (tVar 0) (tCons (tVar 1) (tNil)))) (gName 2))
    (tSeq (tFor (iRng1 (tCons (tC (.int 2)) (tNil))) (gName 3) (tSeq (tAsg (tCall (sp_law_drawn_values g) [] E0 (tCons (tVar 0) (tCons (tVar 1) (tCons (tVar 3) (tNil))))) (gName 4))
    (tSeq (tAsg (tCB (rDict) (tCons (tVar 4) (tNil))) (gName 5))
    (tSeq (tAsg (tTupN (tCons (tOp (rIxA g.K) (tVar 2) (tC (.int 0))) (tCons (tCB (rList g.K) (tCons (tOp (rIxA g.K) (tVar 2) (tC (.int 1))) (tNil))) (tCons (tOp (rIxA g.K) (tVar 2) (tC (.int 2))) (tNil))))) (gName 6))
    (tSeq (tAsg (tCall (sp_law_round g) [] E0 (tCons (tVar 2) (tCons (tVar 4) (tNil)))) (gName 7))
    (tSeq (tAsg (tCall (sp_round_of g) [] E0 (tCons (tVar 6) (tCons (tVar 5) (tNil)))) (gName 8))
    (tSeq (tIfS (tOr (tNot (tB (tCB (rIsX g.K) (tCons (tVar 8) (tCons (tC (.ty "tuple")) (tNil)))))) (tOr (tTest (tOp (rNeA g.K) (tCB (rLen g.K) (tCons (tVar 8) (tNil))) (tC (.int 5)))) (tNot (tB (tCB (rIsX g.K) (tCons (tOp (rIxA g.K) (tVar 8) (tC (.int 0))) (tCons (tC (.ty "bool")) (tNil)))))))) (tRet (tC (.bl false))) (tNext))
    (tSeq (tIfS (tOr (tNot (tB (tCall (sp_law_whole g) [] E0 (tCons (tOp (rIxA g.K) (tVar 8) (tC (.int 1))) (tNil))))) (tOr (tNot (tB (tCall (sp_law_whole g) [] E0 (tCons (tOp (rIxA g.K) (tVar 8) (tC (.int 4))) (tNil))))) (tNot (tB (tCall (sp_law_list g) [] E0 (tCons (tOp (rIxA g.K) (tVar 8) (tC (.int 3))) (tCons (tOp (rIxA g.K) (tVar 7) (tC (.int 3))) (tNil)))))))) (tRet (tC (.bl false))) (tNext))
    (tIfS (tOr (tNot (tB (tCall (sp_law_numbers g) [] E0 (tCons (tOp (rIxA g.K) (tVar 8) (tC (.int 2))) (tCons (tOp (rIxA g.K) (tVar 7) (tC (.int 2))) (tNil)))))) (tOr (tTest (tOp (rNeA g.K) (tVar 8) (tVar 7))) (tOr (tTest (tOp (rNeA g.K) (tVar 5) (tVar 4))) (tTest (tOp (rNeA g.K) (tVar 6) (tVar 2)))))) (tRet (tC (.bl false))) (tNext))))))))))
    (tRet (tC (.bl true)))))
def sp_law_k05 (g : En) : Sp := fun vs H Q _ => ∃ a0, vs = [a0] ∧ t_law_k05 g ⟨fun _ H1 => Q .non H1, Q, fun _ _ => False, fun _ _ => False⟩ [some a0, none, none, none, none, none, none, none, none] H
def t_Facts_init (g : En) : TS := tSeq (sFld g.K (tVar 0) (tDNewN) "alike")
    (sFld g.K (tVar 0) (tDNewN) "some")
def sp_Facts_init (g : En) : Sp := fun vs H Q _ => ∃ a0, vs = [a0] ∧ t_Facts_init g ⟨fun _ H1 => Q .non H1, Q, fun _ _ => False, fun _ _ => False⟩ [some a0] H
def t_Facts_root (g : En) : TS := tSeq (tIfS (tB (tCB (rIsX g.K) (tCons (tVar 1) (tCons (tC (.ty "int")) (tNil))))) (tRet (tVar 1)) (tNext))
    (tSeq (tAsg (tDG2 (tFld g.K (tVar 0) "alike") (tVar 1) (tVar 1)) (gName 2))
    (tSeq (tIfS (tB (tCB (rIsX g.K) (tCons (tVar 2) (tCons (tC (.ty "int")) (tNil))))) (tRet (tVar 2)) (tNext))
    (tRet (tDG2 (tFld g.K (tVar 0) "alike") (tVar 2) (tVar 2)))))
def sp_Facts_root (g : En) : Sp := fun vs H Q _ => ∃ a0 a1, vs = [a0, a1] ∧ t_Facts_root g ⟨fun _ H1 => Q .non H1, Q, fun _ _ => False, fun _ _ => False⟩ [some a0, some a1, none] H
def t_Facts_forget (g : En) : TS := tSeq (tDrop (tDP2 (tFld g.K (tVar 0) "alike") (tVar 1) (tC .non)))
    (tSeq (tDrop (tDP2 (tFld g.K (tVar 0) "some") (tVar 1) (tC .non)))
    (tFor (iList g.K (tCB (rList g.K) (tCons (tFld g.K (tVar 0) "alike") (tNil)))) (gName 2) (tIfS (tTest (tOp (rEqA g.K) (tOp (rIxA g.K) (tFld g.K (tVar 0) "alike") (tVar 2)) (tVar 1))) (tDrop (tDP1 (tFld g.K (tVar 0) "alike") (tVar 2))) (tNext))))
def sp_Facts_forget (g : En) : Sp := fun vs H Q _ => ∃ a0 a1, vs = [a0, a1] ∧ t_Facts_forget g ⟨fun _ H1 => Q .non H1, Q, fun _ _ => False, fun _ _ => False⟩ [some a0, some a1, none] H
def t_Facts_note (g : En) : TS := tSeq (tDrop (tMeth g.fc "forget" (sp_Facts_forget g) [] E0 (tVar 0) (tCons (tVar 1) (tNil))))
    (sDPutN (tFld g.K (tVar 0) "alike") (tVar 1) (tVar 2))
def sp_Facts_note (g : En) : Sp := fun vs H Q _ => ∃ a0 a1 a2, vs = [a0, a1, a2] ∧ t_Facts_note g ⟨fun _ H1 => Q .non H1, Q, fun _ _ => False, fun _ _ => False⟩ [some a0, some a1, some a2] H
def t_Facts_passed (g : En) : TS := tIfS (tB (tVar 2)) (sDPutN (tFld g.K (tVar 0) "alike") (tVar 1) (tC (.int 0))) (sDPutN (tFld g.K (tVar 0) "some") (tVar 1) (tC (.bl true)))
def sp_Facts_passed (g : En) : Sp := fun vs H Q _ => ∃ a0 a1 a2, vs = [a0, a1, a2] ∧ t_Facts_passed g ⟨fun _ H1 => Q .non H1, Q, fun _ _ => False, fun _ _ => False⟩ [some a0, some a1, some a2] H
def t_Facts_holds (g : En) : TS := tSeq (tIfS (tB (tCB (rIsX g.K) (tCons (tVar 1) (tCons (tC (.ty "int")) (tNil))))) (tRet (tOp (rEqA g.K) (tOp (rEqA g.K) (tVar 1) (tC (.int 0))) (tVar 2))) (tNext))
    (tRet (tAndV (tNotV (tVar 2)) (tOp (rInA g.K) (tVar 1) (tFld g.K (tVar 0) "some"))))
def sp_Facts_holds (g : En) : Sp := fun vs H Q _ => ∃ a0 a1 a2, vs = [a0, a1, a2] ∧ t_Facts_holds g ⟨fun _ H1 => Q .non H1, Q, fun _ _ => False, fun _ _ => False⟩ [some a0, some a1, some a2] H
def t_simple (g : En) : TS := tSeq (tIfS (tAnd (tB (tCB (rIsX g.K) (tCons (tVar 1) (tCons (tC (.ty "int")) (tNil))))) (tB (tCB (rIsX g.K) (tCons (tVar 2) (tCons (tC (.ty "int")) (tNil)))))) (tRet (tCall (sp_worked g) [] E0 (tCons (tVar 0) (tCons (tVar 1) (tCons (tVar 2) (tNil)))))) (tNext))
    (tSeq (tIfS (tAnd (tTest (tOp (rInA g.K) (tVar 0) (tTupN (tCons (tC (.str "minus")) (tCons (tC (.str "less")) (tNil)))))) (tTest (tOp (rEqA g.K) (tVar 1) (tVar 2)))) (tRet (tC (.int 0))) (tNext))
    (tSeq (tIfS (tAnd (tTest (tOp (rInA g.K) (tVar 0) (tTupN (tCons (tC (.str "add")) (tCons (tC (.str "minus")) (tNil)))))) (tTest (tOp (rEqA g.K) (tVar 2) (tC (.int 0))))) (tRet (tVar 1)) (tNext))
    (tSeq (tIfS (tAnd (tTest (tOp (rEqA g.K) (tVar 0) (tC (.str "add")))) (tTest (tOp (rEqA g.K) (tVar 1) (tC (.int 0))))) (tRet (tVar 2)) (tNext))
    (tSeq (tIfS (tOr (tAnd (tTest (tOp (rEqA g.K) (tVar 0) (tC (.str "less")))) (tTest (tOp (rEqA g.K) (tVar 2) (tC (.int 0))))) (tAnd (tTest (tOp (rEqA g.K) (tVar 0) (tC (.str "times")))) (tTest (tOp (rInA g.K) (tC (.int 0)) (tTupN (tCons (tVar 1) (tCons (tVar 2) (tNil)))))))) (tRet (tC (.int 0))) (tNext))
    (tSeq (tIfS (tAnd (tTest (tOp (rEqA g.K) (tVar 0) (tC (.str "times")))) (tTest (tOp (rEqA g.K) (tVar 2) (tC (.int 1))))) (tRet (tVar 1)) (tNext))
    (tSeq (tIfS (tAnd (tTest (tOp (rEqA g.K) (tVar 0) (tC (.str "times")))) (tTest (tOp (rEqA g.K) (tVar 1) (tC (.int 1))))) (tRet (tVar 2)) (tNext))
    (tRet (tC .non))))))))
def sp_simple (g : En) : Sp := fun vs H Q _ => ∃ a0 a1 a2, vs = [a0, a1, a2] ∧ t_simple g ⟨fun _ H1 => Q .non H1, Q, fun _ _ => False, fun _ _ => False⟩ [some a0, some a1, some a2] H
def t_set_row (g : En) : TS := tSeq (tIfS (tTest (tOp (rEqA g.K) (tMeth g.fc "root" (sp_Facts_root g) [] E0 (tVar 0) (tCons (tVar 1) (tNil))) (tVar 2))) (tRet (tLstN (tNil))) (tNext))
    (tSeq (tDrop (tMeth g.fc "note" (sp_Facts_note g) [] E0 (tVar 0) (tCons (tVar 1) (tCons (tVar 2) (tNil)))))
    (tSeq (tIfS (tB (tCB (rIsX g.K) (tCons (tVar 2) (tCons (tC (.ty "int")) (tNil))))) (tRet (tLstN (tCons (tTupN (tCons (tC (.str "put")) (tCons (tVar 1) (tCons (tVar 2) (tNil))))) (tNil)))) (tNext))
    (tRet (tLstN (tCons (tTupN (tCons (tC (.str "copy")) (tCons (tVar 1) (tCons (tVar 2) (tNil))))) (tNil))))))
def sp_set_row (g : En) : Sp := fun vs H Q _ => ∃ a0 a1 a2, vs = [a0, a1, a2] ∧ t_set_row g ⟨fun _ H1 => Q .non H1, Q, fun _ _ => False, fun _ _ => False⟩ [some a0, some a1, some a2] H
def t_work_row (g : En) : TS := tSeq (tAsg (tMeth g.fc "root" (sp_Facts_root g) [] E0 (tVar 0) (tCons (tOp (rIxA g.K) (tVar 1) (tC (.int 2))) (tNil))) (gName 2))
    (tSeq (tAsg (tMeth g.fc "root" (sp_Facts_root g) [] E0 (tVar 0) (tCons (tOp (rIxA g.K) (tVar 1) (tC (.int 3))) (tNil))) (gName 3))
    (tSeq (tAsg (tCall (sp_simple g) [] E0 (tCons (tOp (rIxA g.K) (tVar 1) (tC (.int 0))) (tCons (tVar 2) (tCons (tVar 3) (tNil))))) (gName 4))
    (tSeq (tIfS (tTest (tOp (rIsNot) (tVar 4) (tC .non))) (tRet (tCall (sp_set_row g) [] E0 (tCons (tVar 0) (tCons (tOp (rIxA g.K) (tVar 1) (tC (.int 1))) (tCons (tVar 4) (tNil)))))) (tNext))
    (tSeq (tDrop (tMeth g.fc "forget" (sp_Facts_forget g) [] E0 (tVar 0) (tCons (tOp (rIxA g.K) (tVar 1) (tC (.int 1))) (tNil))))
    (tRet (tLstN (tCons (tTupN (tCons (tOp (rIxA g.K) (tVar 1) (tC (.int 0))) (tCons (tOp (rIxA g.K) (tVar 1) (tC (.int 1))) (tCons (tVar 2) (tCons (tVar 3) (tNil)))))) (tNil))))))))
def sp_work_row (g : En) : Sp := fun vs H Q _ => ∃ a0 a1, vs = [a0, a1] ∧ t_work_row g ⟨fun _ H1 => Q .non H1, Q, fun _ _ => False, fun _ _ => False⟩ [some a0, some a1, none, none, none] H
def t_guard_row (g : En) : TS := tSeq (tAsg (tMeth g.fc "root" (sp_Facts_root g) [] E0 (tVar 0) (tCons (tOp (rIxA g.K) (tVar 1) (tC (.int 1))) (tNil))) (gName 2))
    (tSeq (tIfS (tB (tMeth g.fc "holds" (sp_Facts_holds g) [] E0 (tVar 0) (tCons (tVar 2) (tCons (tOp (rIxA g.K) (tVar 1) (tC (.int 2))) (tNil))))) (tRet (tLstN (tNil))) (tNext))
    (tSeq (tIfS (tNot (tB (tCB (rIsX g.K) (tCons (tVar 2) (tCons (tC (.ty "int")) (tNil)))))) (tDrop (tMeth g.fc "passed" (sp_Facts_passed g) [] E0 (tVar 0) (tCons (tVar 2) (tCons (tOp (rIxA g.K) (tVar 1) (tC (.int 2))) (tNil))))) (tNext))
    (tRet (tLstN (tCons (tTupN (tCons (tC (.str "guard")) (tCons (tVar 2) (tCons (tOp (rIxA g.K) (tVar 1) (tC (.int 2))) (tCons (tOp (rIxA g.K) (tVar 1) (tC (.int 3))) (tCons (tOp (rIxA g.K) (tVar 1) (tC (.int 4))) (tCons (tOp (rIxA g.K) (tVar 1) (tC (.int 5))) (tNil)))))))) (tNil))))))
def sp_guard_row (g : En) : Sp := fun vs H Q _ => ∃ a0 a1, vs = [a0, a1] ∧ t_guard_row g ⟨fun _ H1 => Q .non H1, Q, fun _ _ => False, fun _ _ => False⟩ [some a0, some a1, none] H
def t_known (g : En) : TS := tSeq (tAsg (tMake g.fc (sp_Facts_init g) [] E0 tNil) (gName 1))
    (tSeq (tAsg (tLstN (tNil)) (gName 2))
    (tSeq (tFor (iList g.K (tOp (rIxA g.K) (tVar 0) (tC (.int 1)))) (gName 3) (tIfS (tTest (tOp (rInA g.K) (tOp (rIxA g.K) (tVar 3) (tC (.int 0))) (tTupN (tCons (tC (.str "put")) (tCons (tC (.str "copy")) (tNil)))))) (tAsg (tOp (rAdd g.K) (tVar 2) (tCall (sp_set_row g) [] E0 (tCons (tVar 1) (tCons (tOp (rIxA g.K) (tVar 3) (tC (.int 1))) (tCons (tMeth g.fc "root" (sp_Facts_root g) [] E0 (tVar 1) (tCons (tOp (rIxA g.K) (tVar 3) (tC (.int 2))) (tNil))) (tNil)))))) (gName 2)) (tIfS (tTest (tOp (rEqA g.K) (tOp (rIxA g.K) (tVar 3) (tC (.int 0))) (tC (.str "tell")))) (tDrop (tBM g.K "list" rAppN (tVar 2) (tCons (tTupN (tCons (tC (.str "tell")) (tCons (tMeth g.fc "root" (sp_Facts_root g) [] E0 (tVar 1) (tCons (tOp (rIxA g.K) (tVar 3) (tC (.int 1))) (tNil))) (tNil)))) tNil))) (tIfS (tTest (tOp (rEqA g.K) (tOp (rIxA g.K) (tVar 3) (tC (.int 0))) (tC (.str "guard")))) (tAsg (tOp (rAdd g.K) (tVar 2) (tCall (sp_guard_row g) [] E0 (tCons (tVar 1) (tCons (tVar 3) (tNil))))) (gName 2)) (tAsg (tOp (rAdd g.K) (tVar 2) (tCall (sp_work_row g) [] E0 (tCons (tVar 1) (tCons (tVar 3) (tNil))))) (gName 2))))))
    (tRet (tTupN (tCons (tOp (rIxA g.K) (tVar 0) (tC (.int 0))) (tCons (tVar 2) (tCons (tOp (rIxA g.K) (tVar 0) (tC (.int 2))) (tNil))))))))
def sp_known (g : En) : Sp := fun vs H Q _ => ∃ a0, vs = [a0] ∧ t_known g ⟨fun _ H1 => Q .non H1, Q, fun _ _ => False, fun _ _ => False⟩ [some a0, none, none, none] H
def t_law_give (g : En) : TS := tSeq (tIfS (tB (tCB (rIsX g.K) (tCons (tVar 0) (tCons (tC (.ty "int")) (tNil))))) (tRet (tVar 0)) (tNext))
    (tSeq (tAsg (tDG2 (tVar 2) (tVar 0) (tVar 0)) (gName 3))
    (tSeq (tIfS (tTest (tOp (rGe) (tDG2 (tVar 1) (tVar 0) (tUn rNeg (tC (.int 1)))) (tC (.int 0)))) (tRet (tOp (rIxA g.K) (tVar 1) (tVar 0))) (tNext))
    (tSeq (tIfS (tTest (tOp (rGe) (tDG2 (tVar 1) (tVar 3) (tUn rNeg (tC (.int 1)))) (tC (.int 0)))) (tRet (tOp (rIxA g.K) (tVar 1) (tVar 3))) (tNext))
    (tRet (tVar 3)))))
def sp_law_give (g : En) : Sp := fun vs H Q _ => ∃ a0 a1 a2, vs = [a0, a1, a2] ∧ t_law_give g ⟨fun _ H1 => Q .non H1, Q, fun _ _ => False, fun _ _ => False⟩ [some a0, some a1, some a2, none] H
def t_law_easy (g : En) : TS := tSeq (tIfS (tAnd (tB (tCB (rIsX g.K) (tCons (tVar 1) (tCons (tC (.ty "int")) (tNil))))) (tB (tCB (rIsX g.K) (tCons (tVar 2) (tCons (tC (.ty "int")) (tNil)))))) (tRet (tOp (rIxA g.K) (tCall (sp_law_done g) [] E0 (tCons (tTupN (tCons (tVar 0) (tCons (tC (.str "x")) (tCons (tVar 1) (tCons (tVar 2) (tNil)))))) (tCons (tDNewN) (tNil)))) (tC (.str "x")))) (tNext))
    (tSeq (tIfS (tOr (tAnd (tTest (tOp (rInA g.K) (tVar 0) (tLstN (tCons (tC (.str "minus")) (tCons (tC (.str "less")) (tNil)))))) (tTest (tOp (rEqA g.K) (tVar 1) (tVar 2)))) (tAnd (tTest (tOp (rEqA g.K) (tVar 0) (tC (.str "less")))) (tTest (tOp (rEqA g.K) (tVar 2) (tC (.int 0)))))) (tRet (tC (.int 0))) (tNext))
    (tSeq (tIfS (tAnd (tTest (tOp (rInA g.K) (tVar 0) (tLstN (tCons (tC (.str "add")) (tCons (tC (.str "minus")) (tNil)))))) (tTest (tOp (rEqA g.K) (tVar 2) (tC (.int 0))))) (tRet (tVar 1)) (tNext))
    (tSeq (tIfS (tAnd (tTest (tOp (rEqA g.K) (tVar 0) (tC (.str "add")))) (tTest (tOp (rEqA g.K) (tVar 1) (tC (.int 0))))) (tRet (tVar 2)) (tNext))
    (tSeq (tIfS (tAnd (tTest (tOp (rEqA g.K) (tVar 0) (tC (.str "times")))) (tTest (tOp (rInA g.K) (tC (.int 0)) (tLstN (tCons (tVar 1) (tCons (tVar 2) (tNil))))))) (tRet (tC (.int 0))) (tNext))
    (tSeq (tIfS (tAnd (tTest (tOp (rEqA g.K) (tVar 0) (tC (.str "times")))) (tTest (tOp (rInA g.K) (tC (.int 1)) (tLstN (tCons (tVar 1) (tCons (tVar 2) (tNil))))))) (tRet (tOp (rIxA g.K) (tLstN (tCons (tVar 1) (tCons (tVar 2) (tNil)))) (tCB (rInt) (tCons (tOp (rEqA g.K) (tVar 1) (tC (.int 1))) (tNil))))) (tNext))
    (tRet (tC .non)))))))
def sp_law_easy (g : En) : Sp := fun vs H Q _ => ∃ a0 a1 a2, vs = [a0, a1, a2] ∧ t_law_easy g ⟨fun _ H1 => Q .non H1, Q, fun _ _ => False, fun _ _ => False⟩ [some a0, some a1, some a2] H
def t_law_put_anew (g : En) : TS := tSeq (tDrop (tDP2 (tVar 1) (tVar 0) (tC .non)))
    (tSeq (tDrop (tDP2 (tVar 2) (tVar 0) (tC .non)))
    (tFor (iList g.K (tCB (rList g.K) (tCons (tVar 2) (tNil)))) (gName 3) (tIfS (tTest (tOp (rEqA g.K) (tOp (rIxA g.K) (tVar 2) (tVar 3)) (tVar 0))) (tDrop (tDP1 (tVar 2) (tVar 3))) (tNext))))
def sp_law_put_anew (g : En) : Sp := fun vs H Q _ => ∃ a0 a1 a2, vs = [a0, a1, a2] ∧ t_law_put_anew g ⟨fun _ H1 => Q .non H1, Q, fun _ _ => False, fun _ _ => False⟩ [some a0, some a1, some a2, none] H
def t_law_set (g : En) : TS := tSeq (tIfS (tTest (tOp (rEqA g.K) (tCall (sp_law_give g) [] E0 (tCons (tVar 0) (tCons (tVar 2) (tCons (tVar 3) (tNil))))) (tVar 1))) (tRet (tLstN (tNil))) (tNext))
    (tSeq (tDrop (tCall (sp_law_put_anew g) [] E0 (tCons (tVar 0) (tCons (tVar 2) (tCons (tVar 3) (tNil))))))
    (tSeq (tIfS (tB (tCB (rIsX g.K) (tCons (tVar 1) (tCons (tC (.ty "int")) (tNil))))) (tSeq (sDPutN (tVar 2) (tVar 0) (tVar 1))
    (tRet (tLstN (tCons (tTupN (tCons (tC (.str "put")) (tCons (tVar 0) (tCons (tVar 1) (tNil))))) (tNil))))) (tNext))
    (tSeq (sDPutN (tVar 3) (tVar 0) (tVar 1))
    (tRet (tLstN (tCons (tTupN (tCons (tC (.str "copy")) (tCons (tVar 0) (tCons (tVar 1) (tNil))))) (tNil)))))))
def sp_law_set (g : En) : Sp := fun vs H Q _ => ∃ a0 a1 a2 a3, vs = [a0, a1, a2, a3] ∧ t_law_set g ⟨fun _ H1 => Q .non H1, Q, fun _ _ => False, fun _ _ => False⟩ [some a0, some a1, some a2, some a3] H
def t_law_asked (g : En) : TS := tSeq (tAsg (tCall (sp_law_give g) [] E0 (tCons (tOp (rIxA g.K) (tVar 0) (tC (.int 1))) (tCons (tVar 1) (tCons (tVar 2) (tNil))))) (gName 3))
    (tSeq (tAsg (tVar 3) (gName 4))
    (tSeq (tIfS (tB (tCB (rIsX g.K) (tCons (tVar 3) (tCons (tC (.ty "str")) (tNil))))) (tAsg (tDG2 (tVar 1) (tVar 3) (tUn rNeg (tC (.int 2)))) (gName 4)) (tNext))
    (tSeq (tIfS (tAnd (tTest (tOp (rNeA g.K) (tVar 4) (tUn rNeg (tC (.int 2))))) (tTest (tOp (rEqA g.K) (tOp (rEqA g.K) (tVar 4) (tC (.int 0))) (tOp (rIxA g.K) (tVar 0) (tC (.int 2)))))) (tRet (tLstN (tNil))) (tNext))
    (tSeq (tIfS (tB (tCB (rIsX g.K) (tCons (tVar 3) (tCons (tC (.ty "str")) (tNil))))) (sDPutN (tVar 1) (tVar 3) (tOp (rIxA g.K) (tLstN (tCons (tUn rNeg (tC (.int 1))) (tCons (tC (.int 0)) (tNil)))) (tCB (rInt) (tCons (tOp (rIxA g.K) (tVar 0) (tC (.int 2))) (tNil))))) (tNext))
    (tRet (tLstN (tCons (tOp (rAdd g.K) (tTupN (tCons (tC (.str "guard")) (tCons (tVar 3) (tNil)))) (tSl (rSlX g.K) (tVar 0) (tPart (tC (.int 2))) (tNoPart))) (tNil))))))))
def sp_law_asked (g : En) : Sp := fun vs H Q _ => ∃ a0 a1 a2, vs = [a0, a1, a2] ∧ t_law_asked g ⟨fun _ H1 => Q .non H1, Q, fun _ _ => False, fun _ _ => False⟩ [some a0, some a1, some a2, none, none] H
def t_law_worked (g : En) : TS := tSeq (tAsg (tCall (sp_law_give g) [] E0 (tCons (tOp (rIxA g.K) (tVar 0) (tC (.int 2))) (tCons (tVar 1) (tCons (tVar 2) (tNil))))) (gName 3))
    (tSeq (tIfS (tTest (tOp (rInA g.K) (tOp (rIxA g.K) (tVar 0) (tC (.int 0))) (tLstN (tCons (tC (.str "put")) (tCons (tC (.str "copy")) (tNil)))))) (tRet (tCall (sp_law_set g) [] E0 (tCons (tOp (rIxA g.K) (tVar 0) (tC (.int 1))) (tCons (tVar 3) (tCons (tVar 1) (tCons (tVar 2) (tNil))))))) (tNext))
    (tSeq (tAsg (tCall (sp_law_give g) [] E0 (tCons (tOp (rIxA g.K) (tVar 0) (tC (.int 3))) (tCons (tVar 1) (tCons (tVar 2) (tNil))))) (gName 4))
    (tSeq (tAsg (tCall (sp_law_easy g) [] E0 (tCons (tOp (rIxA g.K) (tVar 0) (tC (.int 0))) (tCons (tVar 3) (tCons (tVar 4) (tNil))))) (gName 5))
    (tSeq (tIfS (tTest (tOp (rIsNot) (tVar 5) (tC .non))) (tRet (tCall (sp_law_set g) [] E0 (tCons (tOp (rIxA g.K) (tVar 0) (tC (.int 1))) (tCons (tVar 5) (tCons (tVar 1) (tCons (tVar 2) (tNil))))))) (tNext))
    (tSeq (tDrop (tCall (sp_law_put_anew g) [] E0 (tCons (tOp (rIxA g.K) (tVar 0) (tC (.int 1))) (tCons (tVar 1) (tCons (tVar 2) (tNil))))))
    (tRet (tLstN (tCons (tTupN (tCons (tOp (rIxA g.K) (tVar 0) (tC (.int 0))) (tCons (tOp (rIxA g.K) (tVar 0) (tC (.int 1))) (tCons (tVar 3) (tCons (tVar 4) (tNil)))))) (tNil)))))))))
def sp_law_worked (g : En) : Sp := fun vs H Q _ => ∃ a0 a1 a2, vs = [a0, a1, a2] ∧ t_law_worked g ⟨fun _ H1 => Q .non H1, Q, fun _ _ => False, fun _ _ => False⟩ [some a0, some a1, some a2, none, none, none] H
def t_law_known (g : En) : TS := tSeq (tAsg (tDNewN) (gName 1))
    (tSeq (tAsg (tDNewN) (gName 2))
    (tSeq (tAsg (tLstN (tNil)) (gName 3))
    (tSeq (tFor (iList g.K (tVar 0)) (gName 4) (tIfS (tTest (tOp (rEqA g.K) (tOp (rIxA g.K) (tVar 4) (tC (.int 0))) (tC (.str "guard")))) (tAsg (tOp (rAdd g.K) (tVar 3) (tCall (sp_law_asked g) [] E0 (tCons (tVar 4) (tCons (tVar 1) (tCons (tVar 2) (tNil)))))) (gName 3)) (tIfS (tTest (tOp (rEqA g.K) (tOp (rIxA g.K) (tVar 4) (tC (.int 0))) (tC (.str "tell")))) (tDrop (tBM g.K "list" rAppN (tVar 3) (tCons (tTupN (tCons (tC (.str "tell")) (tCons (tCall (sp_law_give g) [] E0 (tCons (tOp (rIxA g.K) (tVar 4) (tC (.int 1))) (tCons (tVar 1) (tCons (tVar 2) (tNil))))) (tNil)))) tNil))) (tAsg (tOp (rAdd g.K) (tVar 3) (tCall (sp_law_worked g) [] E0 (tCons (tVar 4) (tCons (tVar 1) (tCons (tVar 2) (tNil)))))) (gName 3)))))
    (tRet (tVar 3)))))
def sp_law_known (g : En) : Sp := fun vs H Q _ => ∃ a0, vs = [a0] ∧ t_law_known g ⟨fun _ H1 => Q .non H1, Q, fun _ _ => False, fun _ _ => False⟩ [some a0, none, none, none, none] H
def t_law_fits_k06 (g : En) : TS := tSeq (tIfS (tOr (tNot (tB (tCall (sp_law_trace g) [] E0 (tCons (tVar 0) (tNil))))) (tOr (tTest (tOp (rNeA g.K) (tOp (rIxA g.K) (tVar 0) (tC (.int 0))) (tOp (rIxA g.K) (tVar 1) (tC (.int 0))))) (tOr (tTest (tOp (rNeA g.K) (tOp (rIxA g.K) (tVar 0) (tC (.int 2))) (tOp (rIxA g.K) (tVar 1) (tC (.int 2))))) (tTest (tOp (rGt) (tCB (rLen g.K) (tCons (tOp (rIxA g.K) (tVar 0) (tC (.int 1))) (tNil))) (tCB (rLen g.K) (tCons (tOp (rIxA g.K) (tVar 1) (tC (.int 1))) (tNil)))))))) (tRet (tC (.bl false))) (tNext))
    (tSeq (tFor (iRng1 (tCons (tC (.int 4)) (tNil))) (gName 4) (tSeq (tAsg (tCall (sp_law_drawn_values g) [] E0 (tCons (tVar 2) (tCons (tVar 3) (tCons (tVar 4) (tNil))))) (gName 5))
    (tIfS (tTest (tOp (rNeA g.K) (tCall (sp_law_round g) [] E0 (tCons (tVar 0) (tCons (tVar 5) (tNil)))) (tCall (sp_law_round g) [] E0 (tCons (tVar 1) (tCons (tVar 5) (tNil)))))) (tRet (tC (.bl false))) (tNext))))
    (tRet (tOp (rEqA g.K) (tOp (rIxA g.K) (tVar 0) (tC (.int 1))) (tCall (sp_law_known g) [] E0 (tCons (tOp (rIxA g.K) (tVar 1) (tC (.int 1))) (tNil))))))
def sp_law_fits_k06 (g : En) : Sp := fun vs H Q _ => ∃ a0 a1 a2 a3, vs = [a0, a1, a2, a3] ∧ t_law_fits_k06 g ⟨fun _ H1 => Q .non H1, Q, fun _ _ => False, fun _ _ => False⟩ [some a0, some a1, some a2, some a3, none, none] H
def t_law_k06 (g : En) : TS := tSeq (tAsg (tCall (sp_law_names g) [] E0 (tCons (tCall (sp_law_cell_at g) [] E0 (tCons (tVar 0) (tCons (tC (.int 2)) (tNil)))) (tNil))) (gName 1))
    (tSeq (tAsg (tCall (sp_law_drawn_trace g) [] E0 (tCons (tVar 0) (tCons (tVar 1) (tNil)))) (gName 2))
    (tSeq (tAsg (tTupN (tCons (tOp (rIxA g.K) (tVar 2) (tC (.int 0))) (tCons (tCB (rList g.K) (tCons (tOp (rIxA g.K) (tVar 2) (tC (.int 1))) (tNil))) (tCons (tOp (rIxA g.K) (tVar 2) (tC (.int 2))) (tNil))))) (gName 3))
    (tSeq (tAsg (tCall (sp_known g) [] E0 (tCons (tVar 3) (tNil))) (gName 4))
    (tSeq (tIfS (tOr (tNot (tB (tCall (sp_law_fits_k06 g) [] E0 (tCons (tVar 4) (tCons (tVar 2) (tCons (tVar 0) (tCons (tVar 1) (tNil)))))))) (tTest (tOp (rNeA g.K) (tVar 3) (tVar 2)))) (tRet (tC (.bl false))) (tNext))
    (tSeq (tAsg (tCB (rList g.K) (tCons (tOp (rIxA g.K) (tVar 4) (tC (.int 1))) (tNil))) (gName 5))
    (tSeq (tDrop (tBM0 g.K "list" rClearN (tOp (rIxA g.K) (tVar 4) (tC (.int 1)))))
    (tSeq (tAsg (tCall (sp_known g) [] E0 (tCons (tVar 3) (tNil))) (gName 4))
    (tRet (tAndV (tCall (sp_law_fits_k06 g) [] E0 (tCons (tVar 4) (tCons (tVar 2) (tCons (tVar 0) (tCons (tVar 1) (tNil)))))) (tOp (rEqA g.K) (tCB (rLen g.K) (tCons (tOp (rIxA g.K) (tVar 4) (tC (.int 1))) (tNil))) (tCB (rLen g.K) (tCons (tVar 5) (tNil)))))))))))))
def sp_law_k06 (g : En) : Sp := fun vs H Q _ => ∃ a0, vs = [a0] ∧ t_law_k06 g ⟨fun _ H1 => Q .non H1, Q, fun _ _ => False, fun _ _ => False⟩ [some a0, none, none, none, none, none] H
def t_sources_of (g : En) : TS := tSeq (tAsg (tCB (rList g.K) (tCons (tSl (rSlX g.K) (tVar 0) (tPart (tC (.int 2))) (tNoPart)) (tNil))) (gName 1))
    (tSeq (tIfS (tTest (tOp (rEqA g.K) (tOp (rIxA g.K) (tVar 0) (tC (.int 0))) (tC (.str "tell")))) (tAsg (tLstN (tCons (tOp (rIxA g.K) (tVar 0) (tC (.int 1))) (tNil))) (gName 1)) (tNext))
    (tSeq (tIfS (tTest (tOp (rEqA g.K) (tOp (rIxA g.K) (tVar 0) (tC (.int 0))) (tC (.str "guard")))) (tAsg (tOp (rAdd g.K) (tLstN (tCons (tOp (rIxA g.K) (tVar 0) (tC (.int 1))) (tNil))) (tLc (iTup g.K (tOp (rIxA g.K) (tVar 0) (tC (.int 5)))) (gTup g.K 2 (gCons (gName 3) (gCons (gName 2) (gNil)))) (tYes) (tVar 2) [3, 2])) (gName 1)) (tNext))
    (tRet (tLc (iList g.K (tVar 1)) (gName 2) (tB (tCB (rIsX g.K) (tCons (tVar 2) (tCons (tC (.ty "str")) (tNil))))) (tVar 2) [2]))))
def sp_sources_of (g : En) : Sp := fun vs H Q _ => ∃ a0, vs = [a0] ∧ t_sources_of g ⟨fun _ H1 => Q .non H1, Q, fun _ _ => False, fun _ _ => False⟩ [some a0, none, none, none] H
def t_next_write (g : En) : TS := tSeq (tFor (iRng2 (tCons (tOp (rAdd g.K) (tVar 1) (tC (.int 1))) (tCons (tCB (rLen g.K) (tCons (tVar 0) (tNil))) (tNil)))) (gName 3) (tIfS (tAnd (tTest (tOp (rNotInA g.K) (tOp (rIxA g.K) (tOp (rIxA g.K) (tVar 0) (tVar 3)) (tC (.int 0))) (tTupN (tCons (tC (.str "tell")) (tCons (tC (.str "guard")) (tNil)))))) (tTest (tOp (rEqA g.K) (tOp (rIxA g.K) (tOp (rIxA g.K) (tVar 0) (tVar 3)) (tC (.int 1))) (tVar 2)))) (tRet (tVar 3)) (tNext)))
    (tRet (tCB (rLen g.K) (tCons (tVar 0) (tNil))))
def sp_next_write (g : En) : Sp := fun vs H Q _ => ∃ a0 a1 a2, vs = [a0, a1, a2] ∧ t_next_write g ⟨fun _ H1 => Q .non H1, Q, fun _ _ => False, fun _ _ => False⟩ [some a0, some a1, some a2, none] H
def t_can_be_owed (g : En) : TS := tSeq (tIfS (tOr (tTest (tOp (rEqA g.K) (tCB (rLen g.K) (tCons (tVar 2) (tNil))) (tC (.int 0)))) (tTest (tOp (rEqA g.K) (tOp (rIxA g.K) (tOp (rIxA g.K) (tVar 0) (tVar 1)) (tC (.int 0))) (tC (.str "put"))))) (tRet (tC (.bl true))) (tNext))
    (tRet (tAndV (tOp (rEqA g.K) (tOp (rIxA g.K) (tOp (rIxA g.K) (tVar 0) (tVar 1)) (tC (.int 0))) (tC (.str "copy"))) (tOp (rGt) (tCall (sp_next_write g) [] E0 (tCons (tVar 0) (tCons (tVar 1) (tCons (tOp (rIxA g.K) (tOp (rIxA g.K) (tVar 0) (tVar 1)) (tC (.int 2))) (tNil))))) (tCB (rMax g.K) (tCons (tVar 2) (tNil))))))
def sp_can_be_owed (g : En) : Sp := fun vs H Q _ => ∃ a0 a1 a2, vs = [a0, a1, a2] ∧ t_can_be_owed g ⟨fun _ H1 => Q .non H1, Q, fun _ _ => False, fun _ _ => False⟩ [some a0, some a1, some a2] H
def t_read_all (g : En) : TS := tFor (iList g.K (tVar 1)) (gName 2) (tDrop (tDP2 (tVar 0) (tVar 2) (tC .non)))
def sp_read_all (g : En) : Sp := fun vs H Q _ => ∃ a0 a1, vs = [a0, a1] ∧ t_read_all g ⟨fun _ H1 => Q .non H1, Q, fun _ _ => False, fun _ _ => False⟩ [some a0, some a1, none] H
def t_back_over (g : En) : TS := tSeq (tAsg (tOp (rIxA g.K) (tVar 0) (tVar 1)) (gName 5))
    (tSeq (tAsg (tDG2 (tVar 2) (tOp (rIxA g.K) (tVar 5) (tC (.int 1))) (tC .non)) (gName 6))
    (tSeq (sDPutN (tVar 2) (tOp (rIxA g.K) (tVar 5) (tC (.int 1))) (tLstN (tNil)))
    (tSeq (tIfS (tOr (tTest (tOp (rIs) (tVar 6) (tC .non))) (tNot (tB (tCall (sp_can_be_owed g) [] E0 (tCons (tVar 0) (tCons (tVar 1) (tCons (tVar 6) (tNil)))))))) (tSeq (tDrop (tCall (sp_read_all g) [] E0 (tCons (tVar 2) (tCons (tCall (sp_sources_of g) [] E0 (tCons (tVar 5) (tNil))) (tNil)))))
    (tRetN)) (tNext))
    (tSeq (sDPutN (tVar 3) (tVar 1) (tC (.bl true)))
    (tSeq (tFor (iList g.K (tVar 6)) (gName 7) (tDrop (tBM g.K "list" rAppN (tOp (rIxA g.K) (tVar 4) (tVar 7)) (tCons (tTupN (tCons (tOp (rIxA g.K) (tVar 5) (tC (.int 1))) (tCons (tOp (rIxA g.K) (tVar 5) (tC (.int 2))) (tNil)))) tNil))))
    (tIfS (tTest (tOp (rGt) (tCB (rLen g.K) (tCons (tVar 6) (tNil))) (tC (.int 0)))) (tDrop (tCall (sp_read_all g) [] E0 (tCons (tVar 2) (tCons (tCall (sp_sources_of g) [] E0 (tCons (tVar 5) (tNil))) (tNil))))) (tNext)))))))
def sp_back_over (g : En) : Sp := fun vs H Q _ => ∃ a0 a1 a2 a3 a4, vs = [a0, a1, a2, a3, a4] ∧ t_back_over g ⟨fun _ H1 => Q .non H1, Q, fun _ _ => False, fun _ _ => False⟩ [some a0, some a1, some a2, some a3, some a4, none, none, none] H
def t_left_out (g : En) : TS := tSeq (tAsg (tDNewN) (gName 1))
    (tSeq (tAsg (tDNewN) (gName 2))
    (tSeq (tAsg (tDNewN) (gName 3))
    (tSeq (tFor (iRng3 (tCons (tOp (rSub) (tCB (rLen g.K) (tCons (tVar 0) (tNil))) (tC (.int 1))) (tCons (tUn rNeg (tC (.int 1))) (tCons (tUn rNeg (tC (.int 1))) (tNil))))) (gName 4) (tSeq (tAsg (tOp (rIxA g.K) (tVar 0) (tVar 4)) (gName 5))
    (tIfS (tTest (tOp (rEqA g.K) (tOp (rIxA g.K) (tVar 5) (tC (.int 0))) (tC (.str "guard")))) (tSeq (sDPutN (tVar 2) (tVar 4) (tLstN (tNil)))
    (tSeq (tAsg (tLc (iTup g.K (tOp (rIxA g.K) (tVar 5) (tC (.int 5)))) (gTup g.K 2 (gCons (gName 6) (gCons (gName 8) (gNil)))) (tYes) (tVar 6) [6, 8]) (gName 7))
    (tSeq (tFor (iList g.K (tCB (rList g.K) (tCons (tVar 3) (tNil)))) (gName 6) (tIfS (tTest (tOp (rNotInA g.K) (tVar 6) (tVar 7))) (sDPutN (tVar 3) (tVar 6) (tOp (rAdd g.K) (tOp (rIxA g.K) (tVar 3) (tVar 6)) (tLstN (tCons (tVar 4) (tNil))))) (tNext)))
    (tDrop (tCall (sp_read_all g) [] E0 (tCons (tVar 3) (tCons (tCall (sp_sources_of g) [] E0 (tCons (tVar 5) (tNil))) (tNil)))))))) (tIfS (tTest (tOp (rEqA g.K) (tOp (rIxA g.K) (tVar 5) (tC (.int 0))) (tC (.str "tell")))) (tDrop (tCall (sp_read_all g) [] E0 (tCons (tVar 3) (tCons (tCall (sp_sources_of g) [] E0 (tCons (tVar 5) (tNil))) (tNil))))) (tDrop (tCall (sp_back_over g) [] E0 (tCons (tVar 0) (tCons (tVar 4) (tCons (tVar 3) (tCons (tVar 1) (tCons (tVar 2) (tNil))))))))))))
    (tRet (tTupN (tCons (tVar 1) (tCons (tVar 2) (tNil))))))))
def sp_left_out (g : En) : Sp := fun vs H Q _ => ∃ a0, vs = [a0] ∧ t_left_out g ⟨fun _ H1 => Q .non H1, Q, fun _ _ => False, fun _ _ => False⟩ [some a0, none, none, none, none, none, none, none, none] H
def t_needed (g : En) : TS := tSeq (tAsg (tOp (rIxA g.K) (tVar 0) (tC (.int 1))) (gName 1))
    (tSeq (tAsg (tCall (sp_left_out g) [] E0 (tCons (tVar 1) (tNil))) (gName 2))
    (tSeq (tAsg (tLstN (tNil)) (gName 3))
    (tSeq (tFor (iEnum g.K (tCons (tVar 1) (tNil))) (gTup g.K 2 (gCons (gName 4) (gCons (gName 5) (gNil)))) (tIfS (tTest (tOp (rEqA g.K) (tOp (rIxA g.K) (tVar 5) (tC (.int 0))) (tC (.str "guard")))) (tDrop (tBM g.K "list" rAppN (tVar 3) (tCons (tOp (rAdd g.K) (tSl (rSlX g.K) (tVar 5) (tNoPart) (tPart (tC (.int 5)))) (tTupN (tCons (tOp (rCatF) (tOp (rIxA g.K) (tVar 5) (tC (.int 5))) (tCB (rTupleF g.K) (tCons (tOp (rIxA g.K) (tOp (rIxA g.K) (tVar 2) (tC (.int 1))) (tVar 4)) (tNil)))) (tNil)))) tNil))) (tIfS (tTest (tOp (rNotInA g.K) (tVar 4) (tOp (rIxA g.K) (tVar 2) (tC (.int 0))))) (tDrop (tBM g.K "list" rAppN (tVar 3) (tCons (tVar 5) tNil))) (tNext))))
    (tRet (tTupN (tCons (tOp (rIxA g.K) (tVar 0) (tC (.int 0))) (tCons (tVar 3) (tCons (tOp (rIxA g.K) (tVar 0) (tC (.int 2))) (tNil)))))))))
def sp_needed (g : En) : Sp := fun vs H Q _ => ∃ a0, vs = [a0] ∧ t_needed g ⟨fun _ H1 => Q .non H1, Q, fun _ _ => False, fun _ _ => False⟩ [some a0, none, none, none, none, none] H
def t_law_pattern_k07 (g : En) : TS := tSeq (tAsg (tOp (rIxA g.K) (tVar 2) (tOp (rMod) (tVar 1) (tC (.int 4)))) (gName 3))
    (tSeq (tAsg (tOp (rIxA g.K) (tVar 2) (tOp (rMod) (tOp (rAdd g.K) (tVar 1) (tC (.int 1))) (tC (.int 4)))) (gName 4))
    (tSeq (tAsg (tOp (rIxA g.K) (tVar 2) (tOp (rMod) (tOp (rAdd g.K) (tVar 1) (tC (.int 2))) (tC (.int 4)))) (gName 5))
    (tSeq (tAsg (tTupN (tCons (tC (.str "guard")) (tCons (tVar 3) (tCons (tC (.bl false)) (tCons (tOp (rMod) (tVar 1) (tC (.int 60))) (tCons (tOp (rAdd g.K) (tC (.int 1)) (tOp (rMod) (tVar 1) (tC (.int 9)))) (tCons (tTupF (tNil)) (tNil)))))))) (gName 6))
    (tSeq (tIfS (tTest (tOp (rEqA g.K) (tVar 0) (tC (.int 0)))) (tRet (tLstN (tCons (tVar 6) (tCons (tTupN (tCons (tOp (rIxA g.K) (tLstN (tCons (tC (.str "minus")) (tCons (tC (.str "less")) (tNil)))) (tOp (rMod) (tOp (rFdiv) (tVar 1) (tC (.int 4))) (tC (.int 2)))) (tCons (tVar 3) (tCons (tVar 4) (tCons (tVar 5) (tNil)))))) (tCons (tTupN (tCons (tC (.str "guard")) (tCons (tVar 3) (tCons (tC (.bl false)) (tCons (tC (.int 7)) (tCons (tC (.int 9)) (tCons (tTupF (tNil)) (tNil)))))))) (tCons (tTupN (tCons (tC (.str "tell")) (tCons (tVar 3) (tNil)))) (tNil))))))) (tNext))
    (tSeq (tIfS (tTest (tOp (rEqA g.K) (tVar 0) (tC (.int 1)))) (tRet (tLstN (tCons (tTupN (tCons (tC (.str "copy")) (tCons (tVar 4) (tCons (tVar 3) (tNil))))) (tCons (tTupN (tCons (tC (.str "add")) (tCons (tVar 3) (tCons (tVar 3) (tCons (tVar 5) (tNil)))))) (tCons (tTupN (tCons (tC (.str "tell")) (tCons (tVar 4) (tNil)))) (tCons (tTupN (tCons (tC (.str "guard")) (tCons (tVar 4) (tCons (tC (.bl true)) (tCons (tC (.int 5)) (tCons (tC (.int 6)) (tCons (tTupF (tNil)) (tNil)))))))) (tNil))))))) (tNext))
    (tSeq (tAsg (tLstN (tCons (tTupN (tCons (tC (.str "guard")) (tCons (tVar 5) (tCons (tOp (rEqA g.K) (tOp (rMod) (tOp (rFdiv) (tVar 1) (tC (.int 4))) (tC (.int 2))) (tC (.int 0))) (tCons (tC (.int 8)) (tCons (tC (.int 3)) (tCons (tTupF (tNil)) (tNil)))))))) (tCons (tTupN (tCons (tC (.str "put")) (tCons (tVar 4) (tCons (tC (.int 3)) (tNil))))) (tCons (tTupN (tCons (tC (.str "put")) (tCons (tVar 3) (tCons (tC (.int 1)) (tNil))))) (tNil))))) (gName 7))
    (tSeq (tIfS (tTest (tOp (rEqA g.K) (tVar 0) (tC (.int 2)))) (tRet (tOp (rAdd g.K) (tLstN (tCons (tTupN (tCons (tC (.str "copy")) (tCons (tVar 3) (tCons (tVar 4) (tNil))))) (tCons (tTupN (tCons (tOp (rIxA g.K) (tLstN (tCons (tC (.str "add")) (tCons (tC (.str "minus")) (tNil)))) (tOp (rMod) (tOp (rFdiv) (tVar 1) (tC (.int 4))) (tC (.int 2)))) (tCons (tVar 4) (tCons (tVar 5) (tCons (tVar 5) (tNil)))))) (tNil)))) (tVar 7))) (tNext))
    (tSeq (tIfS (tTest (tOp (rEqA g.K) (tVar 0) (tC (.int 3)))) (tRet (tOp (rAdd g.K) (tLstN (tCons (tTupN (tCons (tC (.str "put")) (tCons (tVar 4) (tCons (tC (.int 7)) (tNil))))) (tCons (tTupN (tCons (tC (.str "copy")) (tCons (tVar 3) (tCons (tVar 4) (tNil))))) (tNil)))) (tVar 7))) (tNext))
    (tSeq (tIfS (tTest (tOp (rEqA g.K) (tVar 0) (tC (.int 4)))) (tRet (tLstN (tCons (tTupN (tCons (tC (.str "times")) (tCons (tVar 4) (tCons (tVar 3) (tCons (tVar 3) (tNil)))))) (tCons (tTupN (tCons (tOp (rIxA g.K) (tLstN (tCons (tC (.str "minus")) (tCons (tC (.str "less")) (tNil)))) (tOp (rMod) (tOp (rFdiv) (tVar 1) (tC (.int 4))) (tC (.int 2)))) (tCons (tVar 5) (tCons (tVar 3) (tCons (tVar 3) (tNil)))))) (tCons (tTupN (tCons (tC (.str "tell")) (tCons (tVar 4) (tNil)))) (tNil)))))) (tNext))
    (tSeq (tIfS (tTest (tOp (rEqA g.K) (tVar 0) (tC (.int 6)))) (tSeq (tAsg (tTupN (tCons (tC (.str "guard")) (tCons (tVar 5) (tCons (tOp (rEqA g.K) (tOp (rMod) (tOp (rFdiv) (tVar 1) (tC (.int 8))) (tC (.int 2))) (tC (.int 0))) (tCons (tC (.int 8)) (tCons (tC (.int 3)) (tCons (tTupF (tCons (tTupN (tCons (tVar 3) (tCons (tOp (rIxA g.K) (tLstN (tCons (tC (.int 5)) (tCons (tVar 5) (tNil)))) (tOp (rMod) (tOp (rFdiv) (tVar 1) (tC (.int 16))) (tC (.int 2)))) (tNil)))) (tNil))) (tNil)))))))) (gName 8))
    (tSeq (tAsg (tLstN (tCons (tTupN (tCons (tC (.str "put")) (tCons (tVar 3) (tCons (tC (.int 4)) (tNil))))) (tCons (tTupN (tCons (tC (.str "put")) (tCons (tVar 4) (tCons (tC (.int 1)) (tNil))))) (tCons (tTupN (tCons (tC (.str "copy")) (tCons (tVar 3) (tCons (tOp (rIxA g.K) (tLstN (tCons (tVar 3) (tCons (tVar 4) (tNil)))) (tOp (rMod) (tOp (rFdiv) (tVar 1) (tC (.int 4))) (tC (.int 2)))) (tNil))))) (tNil))))) (gName 9))
    (tRet (tOp (rAdd g.K) (tVar 9) (tLstN (tCons (tVar 8) (tCons (tTupN (tCons (tC (.str "put")) (tCons (tVar 3) (tCons (tC (.int 0)) (tNil))))) (tCons (tTupN (tCons (tC (.str "put")) (tCons (tVar 4) (tCons (tC (.int 6)) (tNil))))) (tNil))))))))) (tNext))
    (tRet (tOp (rAdd g.K) (tLstN (tCons (tTupN (tCons (tC (.str "put")) (tCons (tVar 3) (tCons (tC (.int 2)) (tNil))))) (tCons (tTupN (tCons (tC (.str "less")) (tCons (tVar 4) (tCons (tVar 3) (tCons (tVar 5) (tNil)))))) (tCons (tTupN (tCons (tC (.str "copy")) (tCons (tVar 5) (tCons (tVar 4) (tNil))))) (tCons (tTupN (tCons (tC (.str "guard")) (tCons (tVar 4) (tCons (tC (.bl true)) (tCons (tC (.int 6)) (tCons (tC (.int 4)) (tCons (tTupF (tNil)) (tNil)))))))) (tNil)))))) (tVar 7)))))))))))))
def sp_law_pattern_k07 (g : En) : Sp := fun vs H Q _ => ∃ a0 a1 a2, vs = [a0, a1, a2] ∧ t_law_pattern_k07 g ⟨fun _ H1 => Q .non H1, Q, fun _ _ => False, fun _ _ => False⟩ [some a0, some a1, some a2, none, none, none, none, none, none, none] H
def t_law_drawn_trace_k07 (g : En) : TS := tSeq (tAsg (tOp (rMod) (tCall (sp_law_cell_at g) [] E0 (tCons (tVar 0) (tCons (tC (.int 0)) (tNil)))) (tC (.int 14))) (gName 2))
    (tSeq (tIfS (tTest (tOp (rGt) (tCB (rLen g.K) (tCons (tVar 0) (tNil))) (tC (.int 63)))) (tAsg (tOp (rAdd g.K) (tVar 2) (tC (.int 30))) (gName 2)) (tNext))
    (tSeq (tAsg (tLstN (tNil)) (gName 3))
    (tSeq (tFor (iRng1 (tCons (tVar 2) (tNil))) (gName 4) (tSeq (tAsg (tCall (sp_law_cell_at g) [] E0 (tCons (tVar 0) (tCons (tOp (rAdd g.K) (tC (.int 3)) (tOp (rMul) (tC (.int 3)) (tVar 4))) (tNil)))) (gName 5))
    (tDrop (tBM g.K "list" rAppN (tVar 3) (tCons (tCall (sp_law_drawn_row g) [] E0 (tCons (tVar 5) (tCons (tCall (sp_law_cell_at g) [] E0 (tCons (tVar 0) (tCons (tOp (rAdd g.K) (tC (.int 4)) (tOp (rMul) (tC (.int 3)) (tVar 4))) (tNil)))) (tCons (tCall (sp_law_cell_at g) [] E0 (tCons (tVar 0) (tCons (tOp (rAdd g.K) (tC (.int 5)) (tOp (rMul) (tC (.int 3)) (tVar 4))) (tNil)))) (tCons (tVar 1) (tCons (tVar 4) (tNil))))))) tNil)))))
    (tSeq (tAsg (tOp (rMod) (tOp (rAdd g.K) (tCall (sp_law_cell_at g) [] E0 (tCons (tVar 0) (tCons (tC (.int 0)) (tNil)))) (tCall (sp_law_cell_at g) [] E0 (tCons (tVar 0) (tCons (tC (.int 1)) (tNil))))) (tC (.int 9))) (gName 5))
    (tSeq (tIfS (tTest (tOp (rLt) (tVar 5) (tC (.int 7)))) (tSeq (tAsg (tOp (rMod) (tCall (sp_law_cell_at g) [] E0 (tCons (tVar 0) (tCons (tC (.int 3)) (tNil)))) (tOp (rAdd g.K) (tCB (rLen g.K) (tCons (tVar 3) (tNil))) (tC (.int 1)))) (gName 6))
    (tAsg (tOp (rAdd g.K) (tOp (rAdd g.K) (tSl (rSlX g.K) (tVar 3) (tNoPart) (tPart (tVar 6))) (tCall (sp_law_pattern_k07 g) [] E0 (tCons (tVar 5) (tCons (tCall (sp_law_cell_at g) [] E0 (tCons (tVar 0) (tCons (tC (.int 4)) (tNil)))) (tCons (tVar 1) (tNil)))))) (tSl (rSlX g.K) (tVar 3) (tPart (tVar 6)) (tNoPart))) (gName 3))) (tNext))
    (tRet (tTupN (tCons (tOp (rMod) (tCall (sp_law_cell_at g) [] E0 (tCons (tVar 0) (tCons (tC (.int 1)) (tNil)))) (tC (.int 60))) (tCons (tVar 3) (tCons (tOp (rAdd g.K) (tVar 2) (tOp (rMod) (tOp (rFdiv) (tCall (sp_law_cell_at g) [] E0 (tCons (tVar 0) (tCons (tC (.int 1)) (tNil)))) (tC (.int 60))) (tC (.int 9)))) (tNil)))))))))))
def sp_law_drawn_trace_k07 (g : En) : Sp := fun vs H Q _ => ∃ a0 a1, vs = [a0, a1] ∧ t_law_drawn_trace_k07 g ⟨fun _ H1 => Q .non H1, Q, fun _ _ => False, fun _ _ => False⟩ [some a0, some a1, none, none, none, none, none] H
def t_law_sources (g : En) : TS := tSeq (tIfS (tTest (tOp (rEqA g.K) (tOp (rIxA g.K) (tVar 0) (tC (.int 0))) (tC (.str "tell")))) (tRet (tLstN (tCons (tOp (rIxA g.K) (tVar 0) (tC (.int 1))) (tNil)))) (tNext))
    (tSeq (tIfS (tTest (tOp (rEqA g.K) (tOp (rIxA g.K) (tVar 0) (tC (.int 0))) (tC (.str "guard")))) (tRet (tOp (rAdd g.K) (tLstN (tCons (tOp (rIxA g.K) (tVar 0) (tC (.int 1))) (tNil))) (tLc (iTup g.K (tOp (rIxA g.K) (tVar 0) (tC (.int 5)))) (gName 1) (tYes) (tOp (rIxA g.K) (tVar 1) (tC (.int 1))) [1]))) (tNext))
    (tRet (tCB (rList g.K) (tCons (tSl (rSlX g.K) (tVar 0) (tPart (tC (.int 2))) (tNoPart)) (tNil)))))
def sp_law_sources (g : En) : Sp := fun vs H Q _ => ∃ a0, vs = [a0] ∧ t_law_sources g ⟨fun _ H1 => Q .non H1, Q, fun _ _ => False, fun _ _ => False⟩ [some a0, none] H
def t_law_is_read (g : En) : TS := tSeq (tAsg (tC (.int 0)) (gName 2))
    (tSeq (tFor (iList g.K (tSl (rSlX g.K) (tVar 0) (tPart (tOp (rAdd g.K) (tVar 1) (tC (.int 1)))) (tNoPart))) (gName 3) (tSeq (tIfS (tTest (tOp (rInA g.K) (tOp (rIxA g.K) (tOp (rIxA g.K) (tVar 0) (tVar 1)) (tC (.int 1))) (tCall (sp_law_sources g) [] E0 (tCons (tVar 3) (tNil))))) (tRet (tC (.bl true))) (tNext))
    (tIfS (tTest (tOp (rEqA g.K) (tOp (rIxA g.K) (tVar 3) (tC (.int 0))) (tC (.str "guard")))) (tAsg (tOp (rAdd g.K) (tVar 2) (tC (.int 1))) (gName 2)) (tIfS (tAnd (tTest (tOp (rNeA g.K) (tOp (rIxA g.K) (tVar 3) (tC (.int 0))) (tC (.str "tell")))) (tTest (tOp (rEqA g.K) (tOp (rIxA g.K) (tVar 3) (tC (.int 1))) (tOp (rIxA g.K) (tOp (rIxA g.K) (tVar 0) (tVar 1)) (tC (.int 1)))))) (tRet (tAndV (tOp (rGt) (tVar 2) (tC (.int 0))) (tOp (rNeA g.K) (tOp (rIxA g.K) (tOp (rIxA g.K) (tVar 0) (tVar 1)) (tC (.int 0))) (tC (.str "put"))))) (tNext)))))
    (tRet (tC (.bl true))))
def sp_law_is_read (g : En) : Sp := fun vs H Q _ => ∃ a0 a1, vs = [a0, a1] ∧ t_law_is_read g ⟨fun _ H1 => Q .non H1, Q, fun _ _ => False, fun _ _ => False⟩ [some a0, some a1, none, none] H
def t_law_is_short_k07 (g : En) : TS := tSeq (tFor (iEnum g.K (tCons (tVar 0) (tNil))) (gTup g.K 2 (gCons (gName 1) (gCons (gName 2) (gNil)))) (tIfS (tAnd (tTest (tOp (rNotInA g.K) (tOp (rIxA g.K) (tVar 2) (tC (.int 0))) (tLstN (tCons (tC (.str "tell")) (tCons (tC (.str "guard")) (tNil)))))) (tNot (tB (tCall (sp_law_is_read g) [] E0 (tCons (tVar 0) (tCons (tVar 1) (tNil))))))) (tRet (tC (.bl false))) (tNext)))
    (tRet (tC (.bl true)))
def sp_law_is_short_k07 (g : En) : Sp := fun vs H Q _ => ∃ a0, vs = [a0] ∧ t_law_is_short_k07 g ⟨fun _ H1 => Q .non H1, Q, fun _ _ => False, fun _ _ => False⟩ [some a0, none, none] H
def t_law_those_k07 (g : En) : TS := tRet (tLc (iList g.K (tVar 0)) (gName 2) (tTest (tOp (rEqA g.K) (tOp (rIxA g.K) (tVar 2) (tC (.int 0))) (tVar 1))) (tSl (rSlX g.K) (tVar 2) (tNoPart) (tPart (tC (.int 5)))) [2])
def sp_law_those_k07 (g : En) : Sp := fun vs H Q _ => ∃ a0 a1, vs = [a0, a1] ∧ t_law_those_k07 g ⟨fun _ H1 => Q .non H1, Q, fun _ _ => False, fun _ _ => False⟩ [some a0, some a1, none] H
def t_law_stays_k07 (g : En) : TS := tSeq (tAsg (tC (.int 0)) (gName 2))
    (tSeq (tFor (iList g.K (tVar 1)) (gName 3) (tIfS (tAnd (tTest (tOp (rLt) (tVar 2) (tCB (rLen g.K) (tCons (tVar 0) (tNil))))) (tTest (tOp (rEqA g.K) (tSl (rSlX g.K) (tOp (rIxA g.K) (tVar 0) (tVar 2)) (tNoPart) (tPart (tC (.int 5)))) (tSl (rSlX g.K) (tVar 3) (tNoPart) (tPart (tC (.int 5))))))) (tSeq (tIfS (tAnd (tTest (tOp (rEqA g.K) (tOp (rIxA g.K) (tVar 3) (tC (.int 0))) (tC (.str "guard")))) (tTest (tOp (rNeA g.K) (tSl (rSlF) (tOp (rIxA g.K) (tOp (rIxA g.K) (tVar 0) (tVar 2)) (tC (.int 5))) (tNoPart) (tPart (tCB (rLen g.K) (tCons (tOp (rIxA g.K) (tVar 3) (tC (.int 5))) (tNil))))) (tOp (rIxA g.K) (tVar 3) (tC (.int 5)))))) (tRet (tC (.bl false))) (tNext))
    (tAsg (tOp (rAdd g.K) (tVar 2) (tC (.int 1))) (gName 2))) (tNext)))
    (tRet (tOp (rEqA g.K) (tVar 2) (tCB (rLen g.K) (tCons (tVar 0) (tNil))))))
def sp_law_stays_k07 (g : En) : Sp := fun vs H Q _ => ∃ a0 a1, vs = [a0, a1] ∧ t_law_stays_k07 g ⟨fun _ H1 => Q .non H1, Q, fun _ _ => False, fun _ _ => False⟩ [some a0, some a1, none, none] H
def t_law_fits_k07 (g : En) : TS := tSeq (tIfS (tOr (tNot (tB (tCall (sp_law_trace g) [] E0 (tCons (tVar 0) (tNil))))) (tOr (tTest (tOp (rNeA g.K) (tOp (rIxA g.K) (tVar 0) (tC (.int 0))) (tOp (rIxA g.K) (tVar 1) (tC (.int 0))))) (tOr (tTest (tOp (rNeA g.K) (tOp (rIxA g.K) (tVar 0) (tC (.int 2))) (tOp (rIxA g.K) (tVar 1) (tC (.int 2))))) (tTest (tOp (rGt) (tCB (rLen g.K) (tCons (tOp (rIxA g.K) (tVar 0) (tC (.int 1))) (tNil))) (tCB (rLen g.K) (tCons (tOp (rIxA g.K) (tVar 1) (tC (.int 1))) (tNil)))))))) (tRet (tC (.bl false))) (tNext))
    (tSeq (tFor (iRng1 (tCons (tC (.int 4)) (tNil))) (gName 4) (tSeq (tAsg (tCall (sp_law_drawn_values g) [] E0 (tCons (tVar 2) (tCons (tVar 3) (tCons (tVar 4) (tNil))))) (gName 5))
    (tIfS (tTest (tOp (rNeA g.K) (tCall (sp_law_round g) [] E0 (tCons (tVar 0) (tCons (tVar 5) (tNil)))) (tCall (sp_law_round g) [] E0 (tCons (tVar 1) (tCons (tVar 5) (tNil)))))) (tRet (tC (.bl false))) (tNext))))
    (tSeq (tFor (iList g.K (tLstN (tCons (tC (.str "guard")) (tCons (tC (.str "tell")) (tNil))))) (gName 6) (tIfS (tTest (tOp (rNeA g.K) (tCall (sp_law_those_k07 g) [] E0 (tCons (tOp (rIxA g.K) (tVar 0) (tC (.int 1))) (tCons (tVar 6) (tNil)))) (tCall (sp_law_those_k07 g) [] E0 (tCons (tOp (rIxA g.K) (tVar 1) (tC (.int 1))) (tCons (tVar 6) (tNil)))))) (tRet (tC (.bl false))) (tNext)))
    (tRet (tAndV (tCall (sp_law_stays_k07 g) [] E0 (tCons (tOp (rIxA g.K) (tVar 0) (tC (.int 1))) (tCons (tOp (rIxA g.K) (tVar 1) (tC (.int 1))) (tNil)))) (tCall (sp_law_is_short_k07 g) [] E0 (tCons (tOp (rIxA g.K) (tVar 0) (tC (.int 1))) (tNil)))))))
def sp_law_fits_k07 (g : En) : Sp := fun vs H Q _ => ∃ a0 a1 a2 a3, vs = [a0, a1, a2, a3] ∧ t_law_fits_k07 g ⟨fun _ H1 => Q .non H1, Q, fun _ _ => False, fun _ _ => False⟩ [some a0, some a1, some a2, some a3, none, none, none] H
def t_law_k07 (g : En) : TS := tSeq (tAsg (tCall (sp_law_names g) [] E0 (tCons (tCall (sp_law_cell_at g) [] E0 (tCons (tVar 0) (tCons (tC (.int 2)) (tNil)))) (tNil))) (gName 1))
    (tSeq (tAsg (tCall (sp_law_drawn_trace_k07 g) [] E0 (tCons (tVar 0) (tCons (tVar 1) (tNil)))) (gName 2))
    (tSeq (tAsg (tTupN (tCons (tOp (rIxA g.K) (tVar 2) (tC (.int 0))) (tCons (tCB (rList g.K) (tCons (tOp (rIxA g.K) (tVar 2) (tC (.int 1))) (tNil))) (tCons (tOp (rIxA g.K) (tVar 2) (tC (.int 2))) (tNil))))) (gName 3))
    (tSeq (tAsg (tCall (sp_needed g) [] E0 (tCons (tVar 3) (tNil))) (gName 4))
    (tSeq (tIfS (tOr (tNot (tB (tCall (sp_law_fits_k07 g) [] E0 (tCons (tVar 4) (tCons (tVar 2) (tCons (tVar 0) (tCons (tVar 1) (tNil)))))))) (tTest (tOp (rNeA g.K) (tVar 3) (tVar 2)))) (tRet (tC (.bl false))) (tNext))
    (tSeq (tAsg (tCB (rList g.K) (tCons (tOp (rIxA g.K) (tVar 4) (tC (.int 1))) (tNil))) (gName 5))
    (tSeq (tDrop (tBM0 g.K "list" rClearN (tOp (rIxA g.K) (tVar 4) (tC (.int 1)))))
    (tSeq (tAsg (tCall (sp_needed g) [] E0 (tCons (tVar 3) (tNil))) (gName 4))
    (tRet (tAndV (tCall (sp_law_fits_k07 g) [] E0 (tCons (tVar 4) (tCons (tVar 2) (tCons (tVar 0) (tCons (tVar 1) (tNil)))))) (tOp (rEqA g.K) (tCB (rLen g.K) (tCons (tOp (rIxA g.K) (tVar 4) (tC (.int 1))) (tNil))) (tCB (rLen g.K) (tCons (tVar 5) (tNil)))))))))))))
def sp_law_k07 (g : En) : Sp := fun vs H Q _ => ∃ a0, vs = [a0] ∧ t_law_k07 g ⟨fun _ H1 => Q .non H1, Q, fun _ _ => False, fun _ _ => False⟩ [some a0, none, none, none, none, none] H
def t_shortened (g : En) : TS := tRet (tCall (sp_needed g) [] E0 (tCons (tCall (sp_known g) [] E0 (tCons (tVar 0) (tNil))) (tNil)))
def sp_shortened (g : En) : Sp := fun vs H Q _ => ∃ a0, vs = [a0] ∧ t_shortened g ⟨fun _ H1 => Q .non H1, Q, fun _ _ => False, fun _ _ => False⟩ [some a0] H
def t_Folder_init (g : En) : TS := tSeq (sFld g.K (tVar 0) (tVar 1) "rows")
    (tSeq (sFld g.K (tVar 0) (tVar 2) "hot")
    (tSeq (sFld g.K (tVar 0) (tC (.int 0)) "place")
    (tSeq (sFld g.K (tVar 0) (tCall (sp_begun g) [] E0 (tCons (tVar 1) (tNil))) "names")
    (tSeq (sFld g.K (tVar 0) (tLstN (tNil)) "told")
    (tSeq (sFld g.K (tVar 0) (tC (.int 0)) "steps")
    (tSeq (sFld g.K (tVar 0) (tLstN (tNil)) "log")
    (tSeq (sFld g.K (tVar 0) (tDNewN) "counts")
    (tSeq (sFld g.K (tVar 0) (tDNewN) "traces")
    (tSeq (sFld g.K (tVar 0) (tDNewN) "bad")
    (sFld g.K (tVar 0) (tC (.bl true)) "is_fresh"))))))))))
def sp_Folder_init (g : En) : Sp := fun vs H Q _ => ∃ a0 a1 a2, vs = [a0, a1, a2] ∧ t_Folder_init g ⟨fun _ H1 => Q .non H1, Q, fun _ _ => False, fun _ _ => False⟩ [some a0, some a1, some a2] H
def t_Folder_counted (g : En) : TS := tSeq (tAsg (tOp (rAdd g.K) (tDG2 (tFld g.K (tVar 0) "counts") (tFld g.K (tVar 0) "place") (tC (.int 0))) (tC (.int 1))) (gName 1))
    (tSeq (sDPutN (tFld g.K (tVar 0) "counts") (tFld g.K (tVar 0) "place") (tVar 1))
    (tSeq (tIfS (tOr (tTest (tOp (rNeA g.K) (tVar 1) (tFld g.K (tVar 0) "hot"))) (tTest (tOp (rInA g.K) (tFld g.K (tVar 0) "place") (tFld g.K (tVar 0) "traces")))) (tRetN) (tNext))
    (tSeq (tAsg (tCall (sp_written g) [] E0 (tCons (tFld g.K (tVar 0) "rows") (tCons (tFld g.K (tVar 0) "place") (tCons (tFld g.K (tVar 0) "names") (tCons (tC (.int 60)) (tNil)))))) (gName 2))
    (tIfS (tTest (tOp (rIs) (tVar 2) (tC .non))) (tDrop (tBM g.K "list" rAppN (tFld g.K (tVar 0) "log") (tCons (tTupN (tCons (tC (.str "lost")) (tCons (tFld g.K (tVar 0) "steps") (tCons (tFld g.K (tVar 0) "place") (tNil))))) tNil))) (tSeq (sDPutN (tFld g.K (tVar 0) "traces") (tFld g.K (tVar 0) "place") (tCall (sp_shortened g) [] E0 (tCons (tVar 2) (tNil))))
    (tSeq (sDPutN (tFld g.K (tVar 0) "bad") (tFld g.K (tVar 0) "place") (tC (.int 0)))
    (tDrop (tBM g.K "list" rAppN (tFld g.K (tVar 0) "log") (tCons (tTupN (tCons (tC (.str "written")) (tCons (tFld g.K (tVar 0) "steps") (tCons (tFld g.K (tVar 0) "place") (tCons (tOp (rIxA g.K) (tFld g.K (tVar 0) "traces") (tFld g.K (tVar 0) "place")) (tNil)))))) tNil)))))))))
def sp_Folder_counted (g : En) : Sp := fun vs H Q _ => ∃ a0, vs = [a0] ∧ t_Folder_counted g ⟨fun _ H1 => Q .non H1, Q, fun _ _ => False, fun _ _ => False⟩ [some a0, none, none] H
def t_Folder_plain_step (g : En) : TS := tSeq (tAsg (tFld g.K (tVar 0) "place") (gName 1))
    (tSeq (tAsg (tOp (rIxA g.K) (tOp (rIxA g.K) (tFld g.K (tVar 0) "rows") (tVar 1)) (tC (.int 0))) (gName 2))
    (tSeq (tAsg (tCall (sp_stepped g) [] E0 (tCons (tFld g.K (tVar 0) "rows") (tCons (tVar 1) (tCons (tFld g.K (tVar 0) "names") (tNil))))) (gName 3))
    (tSeq (tAsg (tOrV (tOp (rEqA g.K) (tVar 2) (tC (.str "jump"))) (tAndV (tOp (rEqA g.K) (tVar 2) (tC (.str "zero"))) (tOp (rEqA g.K) (tOp (rIxA g.K) (tFld g.K (tVar 0) "names") (tOp (rIxA g.K) (tOp (rIxA g.K) (tFld g.K (tVar 0) "rows") (tVar 1)) (tC (.int 1)))) (tC (.int 0))))) (gName 4))
    (tSeq (sFld g.K (tVar 0) (tOp (rIxA g.K) (tVar 3) (tC (.int 0))) "place")
    (tSeq (sFld g.K (tVar 0) (tOp (rIxA g.K) (tVar 3) (tC (.int 1))) "names")
    (tSeq (sFld g.K (tVar 0) (tOp (rAdd g.K) (tFld g.K (tVar 0) "told") (tOp (rIxA g.K) (tVar 3) (tC (.int 2)))) "told")
    (tSeq (sFld g.K (tVar 0) (tOp (rAdd g.K) (tFld g.K (tVar 0) "steps") (tC (.int 1))) "steps")
    (tSeq (sFld g.K (tVar 0) (tC (.bl true)) "is_fresh")
    (tIfS (tAnd (tB (tVar 4)) (tTest (tOp (rLe) (tFld g.K (tVar 0) "place") (tVar 1)))) (tDrop (tMeth g.fo "counted" (sp_Folder_counted g) [] E0 (tVar 0) tNil)) (tNext))))))))))
def sp_Folder_plain_step (g : En) : Sp := fun vs H Q _ => ∃ a0, vs = [a0] ∧ t_Folder_plain_step g ⟨fun _ H1 => Q .non H1, Q, fun _ _ => False, fun _ _ => False⟩ [some a0, none, none, none, none] H
def t_Folder_failed (g : En) : TS := tSeq (sDPutN (tFld g.K (tVar 0) "bad") (tVar 1) (tOp (rAdd g.K) (tOp (rIxA g.K) (tFld g.K (tVar 0) "bad") (tVar 1)) (tC (.int 1))))
    (tIfS (tTest (tOp (rEqA g.K) (tOp (rIxA g.K) (tFld g.K (tVar 0) "bad") (tVar 1)) (tC (.int 3)))) (tSeq (tDrop (tDP1 (tFld g.K (tVar 0) "traces") (tVar 1)))
    (tSeq (sDPutN (tFld g.K (tVar 0) "counts") (tVar 1) (tC (.int 0)))
    (tDrop (tBM g.K "list" rAppN (tFld g.K (tVar 0) "log") (tCons (tTupN (tCons (tC (.str "gone")) (tCons (tFld g.K (tVar 0) "steps") (tCons (tVar 1) (tNil))))) tNil))))) (tNext))
def sp_Folder_failed (g : En) : Sp := fun vs H Q _ => ∃ a0 a1, vs = [a0, a1] ∧ t_Folder_failed g ⟨fun _ H1 => Q .non H1, Q, fun _ _ => False, fun _ _ => False⟩ [some a0, some a1] H
def t_Folder_go_round (g : En) : TS := tSeq (tAsg (tFld g.K (tVar 0) "place") (gName 1))
    (tSeq (tAsg (tCall (sp_round_of g) [] E0 (tCons (tOp (rIxA g.K) (tFld g.K (tVar 0) "traces") (tVar 1)) (tCons (tFld g.K (tVar 0) "names") (tNil)))) (gName 2))
    (tSeq (sFld g.K (tVar 0) (tOp (rIxA g.K) (tVar 2) (tC (.int 1))) "place")
    (tSeq (sFld g.K (tVar 0) (tOp (rIxA g.K) (tVar 2) (tC (.int 2))) "names")
    (tSeq (sFld g.K (tVar 0) (tOp (rAdd g.K) (tFld g.K (tVar 0) "told") (tOp (rIxA g.K) (tVar 2) (tC (.int 3)))) "told")
    (tSeq (sFld g.K (tVar 0) (tOp (rAdd g.K) (tFld g.K (tVar 0) "steps") (tOp (rIxA g.K) (tVar 2) (tC (.int 4)))) "steps")
    (tSeq (tIfS (tNot (tB (tOp (rIxA g.K) (tVar 2) (tC (.int 0))))) (tSeq (tDrop (tBM g.K "list" rAppN (tFld g.K (tVar 0) "log") (tCons (tTupN (tCons (tC (.str "left")) (tCons (tFld g.K (tVar 0) "steps") (tCons (tFld g.K (tVar 0) "place") (tCons (tCB (rDict) (tCons (tFld g.K (tVar 0) "names") (tNil))) (tNil)))))) tNil)))
    (tIfS (tB (tFld g.K (tVar 0) "is_fresh")) (tDrop (tMeth g.fo "failed" (sp_Folder_failed g) [] E0 (tVar 0) (tCons (tVar 1) (tNil)))) (tNext))) (tNext))
    (sFld g.K (tVar 0) (tNotV (tOp (rIxA g.K) (tVar 2) (tC (.int 0)))) "is_fresh")))))))
def sp_Folder_go_round (g : En) : Sp := fun vs H Q _ => ∃ a0, vs = [a0] ∧ t_Folder_go_round g ⟨fun _ H1 => Q .non H1, Q, fun _ _ => False, fun _ _ => False⟩ [some a0, none, none] H
def t_folded (g : En) : TS := tSeq (tDrop (tCall (sp_checked g) [] E0 (tCons (tVar 0) (tNil))))
    (tSeq (tAsg (tMake g.fo (sp_Folder_init g) [] E0 (tCons (tVar 0) (tCons (tVar 1) (tNil)))) (gName 3))
    (tSeq (tWhile (tAnd (tTest (tOp (rLt) (tFld g.K (tVar 3) "steps") (tVar 2))) (tNot (tB (tCall (sp_is_over g) [] E0 (tCons (tVar 0) (tCons (tFld g.K (tVar 3) "place") (tNil))))))) (tSeq (tAsg (tDG2 (tFld g.K (tVar 3) "traces") (tFld g.K (tVar 3) "place") (tC .non)) (gName 4))
    (tIfS (tAnd (tTest (tOp (rIsNot) (tVar 4) (tC .non))) (tTest (tOp (rLe) (tOp (rAdd g.K) (tFld g.K (tVar 3) "steps") (tOp (rIxA g.K) (tVar 4) (tC (.int 2)))) (tVar 2)))) (tDrop (tMeth g.fo "go_round" (sp_Folder_go_round g) [] E0 (tVar 3) tNil)) (tDrop (tMeth g.fo "plain_step" (sp_Folder_plain_step g) [] E0 (tVar 3) tNil)))))
    (tRet (tTupN (tCons (tFld g.K (tVar 3) "told") (tCons (tFld g.K (tVar 3) "place") (tCons (tFld g.K (tVar 3) "names") (tCons (tFld g.K (tVar 3) "steps") (tCons (tFld g.K (tVar 3) "log") (tNil))))))))))
def sp_folded (g : En) : Sp := fun vs H Q _ => ∃ a0 a1 a2, vs = [a0, a1, a2] ∧ t_folded g ⟨fun _ H1 => Q .non H1, Q, fun _ _ => False, fun _ _ => False⟩ [some a0, some a1, some a2, none, none] H
def t_law_hot (g : En) : TS := tSeq (tAsg (tCall (sp_law_cell_at g) [] E0 (tCons (tVar 0) (tCons (tC (.int 2)) (tNil)))) (gName 1))
    (tRet (tOp (rIxA g.K) (tLstN (tCons (tC (.int 1)) (tCons (tC (.int 2)) (tCons (tC (.int 3)) (tCons (tC (.int 4)) (tCons (tC (.int 1)) (tCons (tC (.int 2)) (tCons (tC (.int 3)) (tCons (tOp (rAdd g.K) (tC (.int 1)) (tOp (rMod) (tOp (rFdiv) (tVar 1) (tC (.int 8))) (tC (.int 40)))) (tNil)))))))))) (tOp (rMod) (tVar 1) (tC (.int 8)))))
def sp_law_hot (g : En) : Sp := fun vs H Q _ => ∃ a0, vs = [a0] ∧ t_law_hot g ⟨fun _ H1 => Q .non H1, Q, fun _ _ => False, fun _ _ => False⟩ [some a0, none] H
def t_law_event (g : En) : TS := tSeq (tIfS (tOr (tNot (tB (tCB (rIsX g.K) (tCons (tVar 0) (tCons (tC (.ty "tuple")) (tNil)))))) (tOr (tTest (tOp (rLt) (tCB (rLen g.K) (tCons (tVar 0) (tNil))) (tC (.int 3)))) (tNot (tB (tCB (rIsX g.K) (tCons (tOp (rIxA g.K) (tVar 0) (tC (.int 0))) (tCons (tC (.ty "str")) (tNil)))))))) (tRet (tC (.bl false))) (tNext))
    (tSeq (tIfS (tOr (tNot (tB (tCall (sp_law_whole g) [] E0 (tCons (tOp (rIxA g.K) (tVar 0) (tC (.int 1))) (tNil))))) (tNot (tB (tCall (sp_law_whole g) [] E0 (tCons (tOp (rIxA g.K) (tVar 0) (tC (.int 2))) (tNil)))))) (tRet (tC (.bl false))) (tNext))
    (tSeq (tIfS (tTest (tOp (rEqA g.K) (tOp (rIxA g.K) (tVar 0) (tC (.int 0))) (tC (.str "written")))) (tRet (tAndV (tOp (rEqA g.K) (tCB (rLen g.K) (tCons (tVar 0) (tNil))) (tC (.int 4))) (tCall (sp_law_trace g) [] E0 (tCons (tOp (rIxA g.K) (tVar 0) (tC (.int 3))) (tNil))))) (tNext))
    (tSeq (tIfS (tTest (tOp (rEqA g.K) (tOp (rIxA g.K) (tVar 0) (tC (.int 0))) (tC (.str "left")))) (tRet (tAndV (tOp (rEqA g.K) (tCB (rLen g.K) (tCons (tVar 0) (tNil))) (tC (.int 4))) (tCB (rIsX g.K) (tCons (tOp (rIxA g.K) (tVar 0) (tC (.int 3))) (tCons (tC (.ty "dict")) (tNil)))))) (tNext))
    (tRet (tAndV (tOp (rEqA g.K) (tCB (rLen g.K) (tCons (tVar 0) (tNil))) (tC (.int 3))) (tOp (rInA g.K) (tOp (rIxA g.K) (tVar 0) (tC (.int 0))) (tLstN (tCons (tC (.str "lost")) (tCons (tC (.str "gone")) (tNil))))))))))
def sp_law_event (g : En) : Sp := fun vs H Q _ => ∃ a0, vs = [a0] ∧ t_law_event g ⟨fun _ H1 => Q .non H1, Q, fun _ _ => False, fun _ _ => False⟩ [some a0] H
def t_law_log (g : En) : TS := tSeq (tIfS (tOr (tNot (tB (tCall (sp_law_bits g) [] E0 (tCons (tVar 0) (tNil))))) (tOr (tTest (tOp (rNeA g.K) (tCB (rLen g.K) (tCons (tVar 0) (tNil))) (tC (.int 5)))) (tNot (tB (tCB (rIsX g.K) (tCons (tOp (rIxA g.K) (tVar 0) (tC (.int 4))) (tCons (tC (.ty "list")) (tNil)))))))) (tRet (tC (.bl false))) (tNext))
    (tRet (tCB (rAll g.K) (tCons (tLc (iList g.K (tOp (rIxA g.K) (tVar 0) (tC (.int 4)))) (gName 1) (tYes) (tCall (sp_law_event g) [] E0 (tCons (tVar 1) (tNil))) [1]) (tNil))))
def sp_law_log (g : En) : Sp := fun vs H Q _ => ∃ a0, vs = [a0] ∧ t_law_log g ⟨fun _ H1 => Q .non H1, Q, fun _ _ => False, fun _ _ => False⟩ [some a0, none] H
def t_law_lefts (g : En) : TS := tSeq (tAsg (tC (.int 0)) (gName 2))
    (tSeq (tFor (iList g.K (tVar 0)) (gName 3) (tSeq (tIfS (tNot (tTest (tChain (rLe) (rLt) (tVar 2) (tOp (rIxA g.K) (tVar 3) (tC (.int 1))) (tCB (rLen g.K) (tCons (tVar 1) (tNil)))))) (tRet (tC (.bl false))) (tNext))
    (tSeq (tAsg (tOp (rIxA g.K) (tVar 3) (tC (.int 1))) (gName 2))
    (tIfS (tTest (tOp (rEqA g.K) (tOp (rIxA g.K) (tVar 3) (tC (.int 0))) (tC (.str "left")))) (tSeq (tAsg (tOp (rIxA g.K) (tVar 1) (tVar 2)) (gName 4))
    (tIfS (tOr (tTest (tOp (rNeA g.K) (tOp (rIxA g.K) (tVar 3) (tC (.int 2))) (tOp (rIxA g.K) (tVar 4) (tC (.int 0))))) (tNot (tB (tCall (sp_law_numbers g) [] E0 (tCons (tOp (rIxA g.K) (tVar 3) (tC (.int 3))) (tCons (tOp (rIxA g.K) (tVar 4) (tC (.int 1))) (tNil))))))) (tRet (tC (.bl false))) (tNext))) (tNext)))))
    (tRet (tC (.bl true))))
def sp_law_lefts (g : En) : Sp := fun vs H Q _ => ∃ a0 a1, vs = [a0, a1] ∧ t_law_lefts g ⟨fun _ H1 => Q .non H1, Q, fun _ _ => False, fun _ _ => False⟩ [some a0, some a1, none, none, none] H
def t_law_k08 (g : En) : TS := tSeq (tAsg (tCall (sp_law_program g) [] E0 (tCons (tVar 0) (tNil))) (gName 1))
    (tSeq (tAsg (tCall (sp_law_most g) [] E0 (tCons (tVar 0) (tNil))) (gName 2))
    (tSeq (tAsg (tCall (sp_law_plain g) [] E0 (tCons (tVar 1) (tCons (tVar 2) (tNil)))) (gName 3))
    (tSeq (tAsg (tOp (rIxA g.K) (tVar 3) (tUn rNeg (tC (.int 1)))) (gName 4))
    (tSeq (tAsg (tCB (rList g.K) (tCons (tVar 1) (tNil))) (gName 5))
    (tSeq (tAsg (tCall (sp_folded g) [] E0 (tCons (tVar 5) (tCons (tCall (sp_law_hot g) [] E0 (tCons (tVar 0) (tNil))) (tCons (tVar 2) (tNil))))) (gName 6))
    (tSeq (tIfS (tOr (tNot (tB (tCall (sp_law_log g) [] E0 (tCons (tVar 6) (tNil))))) (tTest (tOp (rNeA g.K) (tSl (rSlX g.K) (tVar 6) (tNoPart) (tPart (tC (.int 4)))) (tTupN (tCons (tOp (rIxA g.K) (tVar 4) (tC (.int 2))) (tCons (tOp (rIxA g.K) (tVar 4) (tC (.int 0))) (tCons (tOp (rIxA g.K) (tVar 4) (tC (.int 1))) (tCons (tOp (rSub) (tCB (rLen g.K) (tCons (tVar 3) (tNil))) (tC (.int 1))) (tNil))))))))) (tRet (tC (.bl false))) (tNext))
    (tSeq (tIfS (tNot (tB (tCall (sp_law_lefts g) [] E0 (tCons (tOp (rIxA g.K) (tVar 6) (tC (.int 4))) (tCons (tVar 3) (tNil)))))) (tRet (tC (.bl false))) (tNext))
    (tSeq (tDrop (tBM g.K "list" rAppN (tOp (rIxA g.K) (tVar 6) (tC (.int 0))) (tCons (tC (.int 1)) tNil)))
    (tSeq (tDrop (tBM0 g.K "dict" rDClearN (tOp (rIxA g.K) (tVar 6) (tC (.int 2)))))
    (tSeq (tAsg (tLc (iList g.K (tOp (rIxA g.K) (tVar 6) (tC (.int 4)))) (gName 7) (tTest (tOp (rEqA g.K) (tOp (rIxA g.K) (tVar 7) (tC (.int 0))) (tC (.str "left")))) (tVar 7) [7]) (gName 8))
    (tSeq (tIfS (tNot (tB (tCall (sp_law_lefts g) [] E0 (tCons (tOp (rIxA g.K) (tVar 6) (tC (.int 4))) (tCons (tVar 3) (tNil)))))) (tRet (tC (.bl false))) (tNext))
    (tSeq (tFor (iEnum g.K (tCons (tVar 8) (tNil))) (gTup g.K 2 (gCons (gName 9) (gCons (gName 7) (gNil)))) (sDPutN (tOp (rIxA g.K) (tVar 7) (tC (.int 3))) (tVar 9) (tVar 9)))
    (tSeq (tFor (iEnum g.K (tCons (tVar 8) (tNil))) (gTup g.K 2 (gCons (gName 9) (gCons (gName 7) (gNil)))) (tIfS (tOr (tTest (tOp (rNeA g.K) (tCB (rLen g.K) (tCons (tOp (rIxA g.K) (tVar 7) (tC (.int 3))) (tNil))) (tOp (rAdd g.K) (tCB (rLen g.K) (tCons (tOp (rIxA g.K) (tOp (rIxA g.K) (tVar 3) (tC (.int 0))) (tC (.int 1))) (tNil))) (tC (.int 1))))) (tTest (tOp (rNeA g.K) (tDP2 (tOp (rIxA g.K) (tVar 7) (tC (.int 3))) (tVar 9) (tUn rNeg (tC (.int 1)))) (tVar 9)))) (tRet (tC (.bl false))) (tNext)))
    (tRet (tAndV (tCall (sp_law_lefts g) [] E0 (tCons (tOp (rIxA g.K) (tVar 6) (tC (.int 4))) (tCons (tVar 3) (tNil)))) (tCall (sp_law_alike g) [] E0 (tCons (tVar 5) (tCons (tVar 1) (tNil)))))))))))))))))))
def sp_law_k08 (g : En) : Sp := fun vs H Q _ => ∃ a0, vs = [a0] ∧ t_law_k08 g ⟨fun _ H1 => Q .non H1, Q, fun _ _ => False, fun _ _ => False⟩ [some a0, none, none, none, none, none, none, none, none, none] H
def t_law_back (g : En) : TS := tSeq (tFor (iRng2 (tCons (tC (.int 1)) (tCons (tC (.int 61)) (tNil)))) (gName 2) (tSeq (tIfS (tTest (tOp (rGe) (tOp (rAdd g.K) (tVar 1) (tVar 2)) (tCB (rLen g.K) (tCons (tVar 0) (tNil))))) (tRet (tC (.int 0))) (tNext))
    (tIfS (tTest (tOp (rEqA g.K) (tOp (rIxA g.K) (tOp (rIxA g.K) (tVar 0) (tOp (rAdd g.K) (tVar 1) (tVar 2))) (tC (.int 0))) (tOp (rIxA g.K) (tOp (rIxA g.K) (tVar 0) (tVar 1)) (tC (.int 0))))) (tRet (tVar 2)) (tNext))))
    (tRet (tC (.int 0)))
def sp_law_back (g : En) : Sp := fun vs H Q _ => ∃ a0 a1, vs = [a0, a1] ∧ t_law_back g ⟨fun _ H1 => Q .non H1, Q, fun _ _ => False, fun _ _ => False⟩ [some a0, some a1, none] H
def t_law_right (g : En) : TS := tSeq (tAsg (tOp (rIxA g.K) (tVar 2) (tC (.int 1))) (gName 3))
    (tSeq (tAsg (tCall (sp_law_back g) [] E0 (tCons (tVar 1) (tCons (tVar 3) (tNil)))) (gName 4))
    (tSeq (tIfS (tTest (tOp (rNeA g.K) (tOp (rIxA g.K) (tVar 2) (tC (.int 2))) (tOp (rIxA g.K) (tOp (rIxA g.K) (tVar 1) (tVar 3)) (tC (.int 0))))) (tRet (tC (.bl false))) (tNext))
    (tSeq (tIfS (tTest (tOp (rEqA g.K) (tOp (rIxA g.K) (tVar 2) (tC (.int 0))) (tC (.str "lost")))) (tRet (tOp (rEqA g.K) (tVar 4) (tC (.int 0)))) (tNext))
    (tSeq (tAsg (tOp (rIxA g.K) (tVar 2) (tC (.int 3))) (gName 5))
    (tSeq (tIfS (tOr (tTest (tOp (rNeA g.K) (tOp (rIxA g.K) (tVar 5) (tC (.int 0))) (tOp (rIxA g.K) (tVar 2) (tC (.int 2))))) (tTest (tOp (rNeA g.K) (tOp (rIxA g.K) (tVar 5) (tC (.int 2))) (tVar 4)))) (tRet (tC (.bl false))) (tNext))
    (tSeq (tAsg (tOp (rIxA g.K) (tVar 1) (tVar 3)) (gName 6))
    (tSeq (tIfS (tTest (tOp (rNeA g.K) (tVar 5) (tCall (sp_shortened g) [] E0 (tCons (tCall (sp_written g) [] E0 (tCons (tCB (rList g.K) (tCons (tVar 0) (tNil))) (tCons (tOp (rIxA g.K) (tVar 2) (tC (.int 2))) (tCons (tCB (rDict) (tCons (tOp (rIxA g.K) (tVar 6) (tC (.int 1))) (tNil))) (tCons (tC (.int 60)) (tNil)))))) (tNil))))) (tRet (tC (.bl false))) (tNext))
    (tSeq (tAsg (tOp (rIxA g.K) (tVar 1) (tOp (rAdd g.K) (tVar 3) (tVar 4))) (gName 7))
    (tSeq (tAsg (tCall (sp_law_round g) [] E0 (tCons (tVar 5) (tCons (tOp (rIxA g.K) (tVar 6) (tC (.int 1))) (tNil)))) (gName 8))
    (tRet (tOp (rEqA g.K) (tVar 8) (tTupN (tCons (tC (.bl true)) (tCons (tOp (rIxA g.K) (tVar 7) (tC (.int 0))) (tCons (tOp (rIxA g.K) (tVar 7) (tC (.int 1))) (tCons (tSl (rSlX g.K) (tOp (rIxA g.K) (tVar 7) (tC (.int 2))) (tPart (tCB (rLen g.K) (tCons (tOp (rIxA g.K) (tVar 6) (tC (.int 2))) (tNil)))) (tNoPart)) (tCons (tVar 4) (tNil))))))))))))))))))
def sp_law_right (g : En) : Sp := fun vs H Q _ => ∃ a0 a1 a2, vs = [a0, a1, a2] ∧ t_law_right g ⟨fun _ H1 => Q .non H1, Q, fun _ _ => False, fun _ _ => False⟩ [some a0, some a1, some a2, none, none, none, none, none, none] H
def t_law_k09 (g : En) : TS := tSeq (tAsg (tCall (sp_law_program g) [] E0 (tCons (tVar 0) (tNil))) (gName 1))
    (tSeq (tAsg (tCall (sp_law_most g) [] E0 (tCons (tVar 0) (tNil))) (gName 2))
    (tSeq (tAsg (tCall (sp_law_plain g) [] E0 (tCons (tVar 1) (tCons (tOp (rAdd g.K) (tVar 2) (tC (.int 60))) (tNil)))) (gName 3))
    (tSeq (tAsg (tCall (sp_folded g) [] E0 (tCons (tCB (rList g.K) (tCons (tVar 1) (tNil))) (tCons (tCall (sp_law_hot g) [] E0 (tCons (tVar 0) (tNil))) (tCons (tVar 2) (tNil))))) (gName 4))
    (tSeq (tIfS (tNot (tB (tCall (sp_law_log g) [] E0 (tCons (tVar 4) (tNil))))) (tRet (tC (.bl false))) (tNext))
    (tSeq (tFor (iList g.K (tOp (rIxA g.K) (tVar 4) (tC (.int 4)))) (gName 5) (tIfS (tTest (tOp (rInA g.K) (tOp (rIxA g.K) (tVar 5) (tC (.int 0))) (tLstN (tCons (tC (.str "written")) (tCons (tC (.str "lost")) (tNil)))))) (tIfS (tOr (tNot (tTest (tChain (rLe) (rLt) (tC (.int 0)) (tOp (rIxA g.K) (tVar 5) (tC (.int 1))) (tCB (rLen g.K) (tCons (tVar 3) (tNil)))))) (tNot (tB (tCall (sp_law_right g) [] E0 (tCons (tVar 1) (tCons (tVar 3) (tCons (tVar 5) (tNil)))))))) (tRet (tC (.bl false))) (tNext)) (tNext)))
    (tRet (tC (.bl true))))))))
def sp_law_k09 (g : En) : Sp := fun vs H Q _ => ∃ a0, vs = [a0] ∧ t_law_k09 g ⟨fun _ H1 => Q .non H1, Q, fun _ _ => False, fun _ _ => False⟩ [some a0, none, none, none, none, none] H
def t_law_counted (g : En) : TS := tSeq (tAsg (tOp (rIxA g.K) (tVar 1) (tC (.str "place"))) (gName 3))
    (tSeq (sDPutN (tOp (rIxA g.K) (tVar 1) (tC (.str "counts"))) (tVar 3) (tOp (rAdd g.K) (tDG2 (tOp (rIxA g.K) (tVar 1) (tC (.str "counts"))) (tVar 3) (tC (.int 0))) (tC (.int 1))))
    (tSeq (tIfS (tOr (tTest (tOp (rNeA g.K) (tOp (rIxA g.K) (tOp (rIxA g.K) (tVar 1) (tC (.str "counts"))) (tVar 3)) (tOp (rIxA g.K) (tVar 1) (tC (.str "hot"))))) (tTest (tOp (rInA g.K) (tVar 3) (tOp (rIxA g.K) (tVar 1) (tC (.str "traces")))))) (tRet (tC (.bl true))) (tNext))
    (tSeq (tAsg (tOp (rIxA g.K) (tVar 1) (tC (.str "events"))) (gName 4))
    (tSeq (tIfS (tOr (tTest (tOp (rGe) (tVar 4) (tCB (rLen g.K) (tCons (tVar 2) (tNil))))) (tOr (tTest (tOp (rNotInA g.K) (tOp (rIxA g.K) (tOp (rIxA g.K) (tVar 2) (tVar 4)) (tC (.int 0))) (tLstN (tCons (tC (.str "written")) (tCons (tC (.str "lost")) (tNil)))))) (tTest (tOp (rNeA g.K) (tSl (rSlX g.K) (tOp (rIxA g.K) (tVar 2) (tVar 4)) (tPart (tC (.int 1))) (tPart (tC (.int 3)))) (tTupN (tCons (tOp (rIxA g.K) (tVar 1) (tC (.str "steps"))) (tCons (tVar 3) (tNil)))))))) (tRet (tC (.bl false))) (tNext))
    (tSeq (sDPutN (tVar 1) (tC (.str "events")) (tOp (rAdd g.K) (tVar 4) (tC (.int 1))))
    (tSeq (tIfS (tTest (tOp (rEqA g.K) (tOp (rIxA g.K) (tOp (rIxA g.K) (tVar 2) (tVar 4)) (tC (.int 0))) (tC (.str "written")))) (tSeq (sDPutN (tOp (rIxA g.K) (tVar 1) (tC (.str "traces"))) (tVar 3) (tOp (rIxA g.K) (tOp (rIxA g.K) (tVar 2) (tVar 4)) (tC (.int 3))))
    (sDPutN (tOp (rIxA g.K) (tVar 1) (tC (.str "bad"))) (tVar 3) (tC (.int 0)))) (tNext))
    (tRet (tC (.bl true)))))))))
def sp_law_counted (g : En) : Sp := fun vs H Q _ => ∃ a0 a1 a2, vs = [a0, a1, a2] ∧ t_law_counted g ⟨fun _ H1 => Q .non H1, Q, fun _ _ => False, fun _ _ => False⟩ [some a0, some a1, some a2, none, none] H
def t_law_plain_step (g : En) : TS := tSeq (tAsg (tOp (rIxA g.K) (tVar 1) (tC (.str "place"))) (gName 3))
    (tSeq (tAsg (tOp (rIxA g.K) (tVar 0) (tVar 3)) (gName 4))
    (tSeq (tAsg (tCall (sp_law_step g) [] E0 (tCons (tVar 0) (tCons (tVar 3) (tCons (tOp (rIxA g.K) (tVar 1) (tC (.str "names"))) (tNil))))) (gName 5))
    (tSeq (tAsg (tOrV (tOp (rEqA g.K) (tOp (rIxA g.K) (tVar 4) (tC (.int 0))) (tC (.str "jump"))) (tAndV (tOp (rEqA g.K) (tOp (rIxA g.K) (tVar 4) (tC (.int 0))) (tC (.str "zero"))) (tOp (rEqA g.K) (tOp (rIxA g.K) (tOp (rIxA g.K) (tVar 1) (tC (.str "names"))) (tOp (rIxA g.K) (tVar 4) (tC (.int 1)))) (tC (.int 0))))) (gName 6))
    (tSeq (sDPutN (tVar 1) (tC (.str "place")) (tOp (rIxA g.K) (tVar 5) (tC (.int 0))))
    (tSeq (sDPutN (tVar 1) (tC (.str "names")) (tOp (rIxA g.K) (tVar 5) (tC (.int 1))))
    (tSeq (sDPutN (tVar 1) (tC (.str "steps")) (tOp (rAdd g.K) (tOp (rIxA g.K) (tVar 1) (tC (.str "steps"))) (tC (.int 1))))
    (tSeq (sDPutN (tVar 1) (tC (.str "first")) (tC (.bl true)))
    (tSeq (tIfS (tAnd (tB (tVar 6)) (tTest (tOp (rLe) (tOp (rIxA g.K) (tVar 5) (tC (.int 0))) (tVar 3)))) (tRet (tCall (sp_law_counted g) [] E0 (tCons (tVar 0) (tCons (tVar 1) (tCons (tVar 2) (tNil)))))) (tNext))
    (tRet (tC (.bl true)))))))))))
def sp_law_plain_step (g : En) : Sp := fun vs H Q _ => ∃ a0 a1 a2, vs = [a0, a1, a2] ∧ t_law_plain_step g ⟨fun _ H1 => Q .non H1, Q, fun _ _ => False, fun _ _ => False⟩ [some a0, some a1, some a2, none, none, none, none] H
def t_law_is_next (g : En) : TS := tSeq (tAsg (tOp (rIxA g.K) (tVar 0) (tC (.str "events"))) (gName 3))
    (tSeq (sDPutN (tVar 0) (tC (.str "events")) (tOp (rAdd g.K) (tVar 3) (tC (.int 1))))
    (tRet (tAndV (tOp (rLt) (tVar 3) (tCB (rLen g.K) (tCons (tVar 1) (tNil)))) (tOp (rEqA g.K) (tSl (rSlX g.K) (tOp (rIxA g.K) (tVar 1) (tVar 3)) (tNoPart) (tPart (tC (.int 3)))) (tVar 2)))))
def sp_law_is_next (g : En) : Sp := fun vs H Q _ => ∃ a0 a1 a2, vs = [a0, a1, a2] ∧ t_law_is_next g ⟨fun _ H1 => Q .non H1, Q, fun _ _ => False, fun _ _ => False⟩ [some a0, some a1, some a2, none] H
def t_law_trace_round (g : En) : TS := tSeq (tAsg (tOp (rIxA g.K) (tVar 0) (tC (.str "place"))) (gName 2))
    (tSeq (tAsg (tCall (sp_law_round g) [] E0 (tCons (tOp (rIxA g.K) (tOp (rIxA g.K) (tVar 0) (tC (.str "traces"))) (tVar 2)) (tCons (tOp (rIxA g.K) (tVar 0) (tC (.str "names"))) (tNil)))) (gName 3))
    (tSeq (sDPutN (tVar 0) (tC (.str "place")) (tOp (rIxA g.K) (tVar 3) (tC (.int 1))))
    (tSeq (sDPutN (tVar 0) (tC (.str "names")) (tOp (rIxA g.K) (tVar 3) (tC (.int 2))))
    (tSeq (sDPutN (tVar 0) (tC (.str "steps")) (tOp (rAdd g.K) (tOp (rIxA g.K) (tVar 0) (tC (.str "steps"))) (tOp (rIxA g.K) (tVar 3) (tC (.int 4)))))
    (tSeq (tAsg (tOp (rIxA g.K) (tVar 0) (tC (.str "first"))) (gName 4))
    (tSeq (sDPutN (tVar 0) (tC (.str "first")) (tNotV (tOp (rIxA g.K) (tVar 3) (tC (.int 0)))))
    (tSeq (tIfS (tB (tOp (rIxA g.K) (tVar 3) (tC (.int 0)))) (tRet (tC (.bl true))) (tNext))
    (tSeq (tIfS (tNot (tB (tCall (sp_law_is_next g) [] E0 (tCons (tVar 0) (tCons (tVar 1) (tCons (tTupN (tCons (tC (.str "left")) (tCons (tOp (rIxA g.K) (tVar 0) (tC (.str "steps"))) (tCons (tOp (rIxA g.K) (tVar 3) (tC (.int 1))) (tNil))))) (tNil))))))) (tRet (tC (.bl false))) (tNext))
    (tSeq (tIfS (tB (tVar 4)) (tSeq (sDPutN (tOp (rIxA g.K) (tVar 0) (tC (.str "bad"))) (tVar 2) (tOp (rAdd g.K) (tOp (rIxA g.K) (tOp (rIxA g.K) (tVar 0) (tC (.str "bad"))) (tVar 2)) (tC (.int 1))))
    (tIfS (tTest (tOp (rEqA g.K) (tOp (rIxA g.K) (tOp (rIxA g.K) (tVar 0) (tC (.str "bad"))) (tVar 2)) (tC (.int 3)))) (tSeq (tDrop (tDP1 (tOp (rIxA g.K) (tVar 0) (tC (.str "traces"))) (tVar 2)))
    (tSeq (sDPutN (tOp (rIxA g.K) (tVar 0) (tC (.str "counts"))) (tVar 2) (tC (.int 0)))
    (tRet (tCall (sp_law_is_next g) [] E0 (tCons (tVar 0) (tCons (tVar 1) (tCons (tTupN (tCons (tC (.str "gone")) (tCons (tOp (rIxA g.K) (tVar 0) (tC (.str "steps"))) (tCons (tVar 2) (tNil))))) (tNil)))))))) (tNext))) (tNext))
    (tRet (tC (.bl true))))))))))))
def sp_law_trace_round (g : En) : Sp := fun vs H Q _ => ∃ a0 a1, vs = [a0, a1] ∧ t_law_trace_round g ⟨fun _ H1 => Q .non H1, Q, fun _ _ => False, fun _ _ => False⟩ [some a0, some a1, none, none, none] H
def t_law_k10 (g : En) : TS := tSeq (tAsg (tCall (sp_law_program g) [] E0 (tCons (tVar 0) (tNil))) (gName 1))
    (tSeq (tAsg (tCall (sp_law_most g) [] E0 (tCons (tVar 0) (tNil))) (gName 2))
    (tSeq (tAsg (tCall (sp_folded g) [] E0 (tCons (tCB (rList g.K) (tCons (tVar 1) (tNil))) (tCons (tCall (sp_law_hot g) [] E0 (tCons (tVar 0) (tNil))) (tCons (tVar 2) (tNil))))) (gName 3))
    (tSeq (tIfS (tNot (tB (tCall (sp_law_log g) [] E0 (tCons (tVar 3) (tNil))))) (tRet (tC (.bl false))) (tNext))
    (tSeq (tAsg (tOp (rIxA g.K) (tVar 3) (tC (.int 4))) (gName 4))
    (tSeq (tAsg (tDispN [(tC (.str "place"), tC (.int 0)), (tC (.str "names"), tCall (sp_law_all g) [] E0 (tCons (tVar 1) (tNil))), (tC (.str "steps"), tC (.int 0)), (tC (.str "events"), tC (.int 0)), (tC (.str "first"), tC (.bl true)), (tC (.str "hot"), tCall (sp_law_hot g) [] E0 (tCons (tVar 0) (tNil)))]) (gName 5))
    (tSeq (sDPutN (tVar 5) (tC (.str "counts")) (tDNewN))
    (tSeq (sDPutN (tVar 5) (tC (.str "traces")) (tDNewN))
    (tSeq (sDPutN (tVar 5) (tC (.str "bad")) (tDNewN))
    (tSeq (tAsg (tC (.int 0)) (gName 6))
    (tSeq (tWhile (tAnd (tTest (tOp (rLt) (tOp (rIxA g.K) (tVar 5) (tC (.str "steps"))) (tVar 2))) (tAnd (tNot (tB (tCall (sp_law_over g) [] E0 (tCons (tVar 1) (tCons (tOp (rIxA g.K) (tVar 5) (tC (.str "place"))) (tNil)))))) (tTest (tOp (rLt) (tVar 6) (tC (.int 400)))))) (tSeq (tAsg (tDG2 (tOp (rIxA g.K) (tVar 5) (tC (.str "traces"))) (tOp (rIxA g.K) (tVar 5) (tC (.str "place"))) (tC .non)) (gName 7))
    (tSeq (tAsg (tOp (rAdd g.K) (tVar 6) (tC (.int 1))) (gName 6))
    (tIfS (tAnd (tTest (tOp (rIsNot) (tVar 7) (tC .non))) (tAnd (tTest (tOp (rGt) (tOp (rIxA g.K) (tVar 7) (tC (.int 2))) (tC (.int 0)))) (tTest (tOp (rLe) (tOp (rAdd g.K) (tOp (rIxA g.K) (tVar 5) (tC (.str "steps"))) (tOp (rIxA g.K) (tVar 7) (tC (.int 2)))) (tVar 2))))) (tIfS (tNot (tB (tCall (sp_law_trace_round g) [] E0 (tCons (tVar 5) (tCons (tVar 4) (tNil)))))) (tRet (tC (.bl false))) (tNext)) (tIfS (tNot (tB (tCall (sp_law_plain_step g) [] E0 (tCons (tVar 1) (tCons (tVar 5) (tCons (tVar 4) (tNil))))))) (tRet (tC (.bl false))) (tNext))))))
    (tRet (tOp (rEqA g.K) (tOp (rIxA g.K) (tVar 5) (tC (.str "events"))) (tCB (rLen g.K) (tCons (tVar 4) (tNil)))))))))))))))
def sp_law_k10 (g : En) : Sp := fun vs H Q _ => ∃ a0, vs = [a0] ∧ t_law_k10 g ⟨fun _ H1 => Q .non H1, Q, fun _ _ => False, fun _ _ => False⟩ [some a0, none, none, none, none, none, none, none] H
def t_law_is_needed (g : En) : TS := tSeq (tFor (iEnum g.K (tCons (tVar 0) (tNil))) (gTup g.K 2 (gCons (gName 1) (gCons (gName 2) (gNil)))) (tIfS (tAnd (tTest (tOp (rNotInA g.K) (tOp (rIxA g.K) (tVar 2) (tC (.int 0))) (tLstN (tCons (tC (.str "tell")) (tCons (tC (.str "guard")) (tNil)))))) (tNot (tB (tCall (sp_law_is_read g) [] E0 (tCons (tVar 0) (tCons (tVar 1) (tNil))))))) (tRet (tC (.bl false))) (tNext)))
    (tRet (tC (.bl true)))
def sp_law_is_needed (g : En) : Sp := fun vs H Q _ => ∃ a0, vs = [a0] ∧ t_law_is_needed g ⟨fun _ H1 => Q .non H1, Q, fun _ _ => False, fun _ _ => False⟩ [some a0, none, none] H
def t_law_is_short_k11 (g : En) : TS := tSeq (tAsg (tDNewN) (gName 1))
    (tSeq (tFor (iList g.K (tVar 0)) (gName 2) (tSeq (tAsg (tDG2 (tVar 1) (tOp (rIxA g.K) (tVar 2) (tC (.int 1))) (tC .non)) (gName 3))
    (tIfS (tTest (tOp (rEqA g.K) (tOp (rIxA g.K) (tVar 2) (tC (.int 0))) (tC (.str "guard")))) (tSeq (tIfS (tB (tCB (rIsX g.K) (tCons (tOp (rIxA g.K) (tVar 2) (tC (.int 1))) (tCons (tC (.ty "int")) (tNil))))) (tAsg (tOp (rIxA g.K) (tVar 2) (tC (.int 1))) (gName 3)) (tNext))
    (tSeq (tIfS (tAnd (tTest (tOp (rIsNot) (tVar 3) (tC .non))) (tTest (tOp (rEqA g.K) (tOp (rEqA g.K) (tVar 3) (tC (.int 0))) (tOp (rIxA g.K) (tVar 2) (tC (.int 2)))))) (tRet (tC (.bl false))) (tNext))
    (tIfS (tB (tCB (rIsX g.K) (tCons (tOp (rIxA g.K) (tVar 2) (tC (.int 1))) (tCons (tC (.ty "str")) (tNil))))) (sDPutN (tVar 1) (tOp (rIxA g.K) (tVar 2) (tC (.int 1))) (tOp (rIxA g.K) (tLstN (tCons (tUn rNeg (tC (.int 1))) (tCons (tC (.int 0)) (tNil)))) (tCB (rInt) (tCons (tOp (rIxA g.K) (tVar 2) (tC (.int 2))) (tNil))))) (tNext)))) (tIfS (tTest (tOp (rEqA g.K) (tOp (rIxA g.K) (tVar 2) (tC (.int 0))) (tC (.str "put")))) (sDPutN (tVar 1) (tOp (rIxA g.K) (tVar 2) (tC (.int 1))) (tOp (rIxA g.K) (tVar 2) (tC (.int 2)))) (tIfS (tTest (tOp (rNeA g.K) (tOp (rIxA g.K) (tVar 2) (tC (.int 0))) (tC (.str "tell")))) (tDrop (tDP2 (tVar 1) (tOp (rIxA g.K) (tVar 2) (tC (.int 1))) (tC .non))) (tNext))))))
    (tRet (tC (.bl true))))
def sp_law_is_short_k11 (g : En) : Sp := fun vs H Q _ => ∃ a0, vs = [a0] ∧ t_law_is_short_k11 g ⟨fun _ H1 => Q .non H1, Q, fun _ _ => False, fun _ _ => False⟩ [some a0, none, none, none] H
def t_law_stays_k11 (g : En) : TS := tSeq (tAsg (tC (.int 0)) (gName 2))
    (tSeq (tFor (iList g.K (tVar 1)) (gName 3) (tIfS (tAnd (tTest (tOp (rLt) (tVar 2) (tCB (rLen g.K) (tCons (tVar 0) (tNil))))) (tTest (tOp (rEqA g.K) (tSl (rSlX g.K) (tOp (rIxA g.K) (tVar 0) (tVar 2)) (tNoPart) (tPart (tC (.int 5)))) (tSl (rSlX g.K) (tVar 3) (tNoPart) (tPart (tC (.int 5))))))) (tAsg (tOp (rAdd g.K) (tVar 2) (tC (.int 1))) (gName 2)) (tNext)))
    (tRet (tOp (rEqA g.K) (tVar 2) (tCB (rLen g.K) (tCons (tVar 0) (tNil))))))
def sp_law_stays_k11 (g : En) : Sp := fun vs H Q _ => ∃ a0 a1, vs = [a0, a1] ∧ t_law_stays_k11 g ⟨fun _ H1 => Q .non H1, Q, fun _ _ => False, fun _ _ => False⟩ [some a0, some a1, none, none] H
def t_law_those_k11 (g : En) : TS := tRet (tLc (iList g.K (tVar 0)) (gName 2) (tTest (tOp (rEqA g.K) (tOp (rIxA g.K) (tVar 2) (tC (.int 0))) (tVar 1))) (tVar 2) [2])
def sp_law_those_k11 (g : En) : Sp := fun vs H Q _ => ∃ a0 a1, vs = [a0, a1] ∧ t_law_those_k11 g ⟨fun _ H1 => Q .non H1, Q, fun _ _ => False, fun _ _ => False⟩ [some a0, some a1, none] H
def t_law_fits_k11 (g : En) : TS := tSeq (tIfS (tOr (tNot (tB (tCall (sp_law_trace g) [] E0 (tCons (tVar 0) (tNil))))) (tOr (tTest (tOp (rNeA g.K) (tOp (rIxA g.K) (tVar 0) (tC (.int 0))) (tOp (rIxA g.K) (tVar 1) (tC (.int 0))))) (tOr (tTest (tOp (rNeA g.K) (tOp (rIxA g.K) (tVar 0) (tC (.int 2))) (tOp (rIxA g.K) (tVar 1) (tC (.int 2))))) (tTest (tOp (rGt) (tCB (rLen g.K) (tCons (tOp (rIxA g.K) (tVar 0) (tC (.int 1))) (tNil))) (tCB (rLen g.K) (tCons (tOp (rIxA g.K) (tVar 1) (tC (.int 1))) (tNil)))))))) (tRet (tC (.bl false))) (tNext))
    (tSeq (tFor (iRng1 (tCons (tC (.int 4)) (tNil))) (gName 4) (tSeq (tAsg (tCall (sp_law_drawn_values g) [] E0 (tCons (tVar 2) (tCons (tVar 3) (tCons (tVar 4) (tNil))))) (gName 5))
    (tIfS (tTest (tOp (rNeA g.K) (tCall (sp_law_round g) [] E0 (tCons (tVar 0) (tCons (tVar 5) (tNil)))) (tCall (sp_law_round g) [] E0 (tCons (tVar 1) (tCons (tVar 5) (tNil)))))) (tRet (tC (.bl false))) (tNext))))
    (tSeq (tIfS (tTest (tOp (rNeA g.K) (tCB (rLen g.K) (tCons (tCall (sp_law_those_k11 g) [] E0 (tCons (tOp (rIxA g.K) (tVar 0) (tC (.int 1))) (tCons (tC (.str "tell")) (tNil)))) (tNil))) (tCB (rLen g.K) (tCons (tCall (sp_law_those_k11 g) [] E0 (tCons (tOp (rIxA g.K) (tVar 1) (tC (.int 1))) (tCons (tC (.str "tell")) (tNil)))) (tNil))))) (tRet (tC (.bl false))) (tNext))
    (tSeq (tIfS (tNot (tB (tCall (sp_law_stays_k11 g) [] E0 (tCons (tOp (rIxA g.K) (tVar 0) (tC (.int 1))) (tCons (tOp (rIxA g.K) (tCall (sp_known g) [] E0 (tCons (tVar 1) (tNil))) (tC (.int 1))) (tNil)))))) (tRet (tC (.bl false))) (tNext))
    (tRet (tAndV (tCall (sp_law_is_needed g) [] E0 (tCons (tOp (rIxA g.K) (tVar 0) (tC (.int 1))) (tNil))) (tCall (sp_law_is_short_k11 g) [] E0 (tCons (tOp (rIxA g.K) (tVar 0) (tC (.int 1))) (tNil))))))))
def sp_law_fits_k11 (g : En) : Sp := fun vs H Q _ => ∃ a0 a1 a2 a3, vs = [a0, a1, a2, a3] ∧ t_law_fits_k11 g ⟨fun _ H1 => Q .non H1, Q, fun _ _ => False, fun _ _ => False⟩ [some a0, some a1, some a2, some a3, none, none] H
def t_law_k11 (g : En) : TS := tSeq (tAsg (tCall (sp_law_names g) [] E0 (tCons (tCall (sp_law_cell_at g) [] E0 (tCons (tVar 0) (tCons (tC (.int 2)) (tNil)))) (tNil))) (gName 1))
    (tSeq (tAsg (tCall (sp_law_drawn_trace g) [] E0 (tCons (tVar 0) (tCons (tVar 1) (tNil)))) (gName 2))
    (tSeq (tAsg (tTupN (tCons (tOp (rIxA g.K) (tVar 2) (tC (.int 0))) (tCons (tCB (rList g.K) (tCons (tOp (rIxA g.K) (tVar 2) (tC (.int 1))) (tNil))) (tCons (tOp (rIxA g.K) (tVar 2) (tC (.int 2))) (tNil))))) (gName 3))
    (tSeq (tAsg (tCall (sp_shortened g) [] E0 (tCons (tVar 3) (tNil))) (gName 4))
    (tSeq (tIfS (tOr (tNot (tB (tCall (sp_law_fits_k11 g) [] E0 (tCons (tVar 4) (tCons (tVar 2) (tCons (tVar 0) (tCons (tVar 1) (tNil)))))))) (tTest (tOp (rNeA g.K) (tVar 3) (tVar 2)))) (tRet (tC (.bl false))) (tNext))
    (tSeq (tAsg (tCB (rList g.K) (tCons (tOp (rIxA g.K) (tVar 4) (tC (.int 1))) (tNil))) (gName 5))
    (tSeq (tDrop (tBM0 g.K "list" rClearN (tOp (rIxA g.K) (tVar 4) (tC (.int 1)))))
    (tSeq (tAsg (tCall (sp_shortened g) [] E0 (tCons (tVar 3) (tNil))) (gName 4))
    (tRet (tAndV (tCall (sp_law_fits_k11 g) [] E0 (tCons (tVar 4) (tCons (tVar 2) (tCons (tVar 0) (tCons (tVar 1) (tNil)))))) (tOp (rEqA g.K) (tCB (rLen g.K) (tCons (tOp (rIxA g.K) (tVar 4) (tC (.int 1))) (tNil))) (tCB (rLen g.K) (tCons (tVar 5) (tNil)))))))))))))
def sp_law_k11 (g : En) : Sp := fun vs H Q _ => ∃ a0, vs = [a0] ∧ t_law_k11 g ⟨fun _ H1 => Q .non H1, Q, fun _ _ => False, fun _ _ => False⟩ [some a0, none, none, none, none, none] H
end Tf

namespace Tf
open PySem L2
local macro_rules | `(tactic| walk_at "hl") => `(tactic| first
  | assumption
  | exact SqL.of (by walk_at "hh")
  | exact Same.seq (New.sm (by assumption)) (by walk_at "hl")
  | exact Same.seq (NewX.sm (by assumption)) (by walk_at "hl")
  | exact Same.seq (by assumption) (by walk_at "hl"))
local macro_rules | `(tactic| walk_at "ht") => `(tactic| first
  | assumption
  | exact SqT.of (by walk_at "hh")
  | exact Same.tup (New.sm (by assumption)) (by walk_at "ht")
  | exact Same.tup (NewX.sm (by assumption)) (by walk_at "ht")
  | exact Same.tup (by assumption) (by walk_at "ht"))
local macro_rules | `(tactic| walk_at "hr") => `(tactic| first
  | assumption
  | exact Or.inl (by walk_at "hh")
  | exact Same.rd (New.sm (by assumption)) (by walk_at "hr")
  | exact Same.rd (NewX.sm (by assumption)) (by walk_at "hr")
  | exact Same.rd (by assumption) (by walk_at "hr"))
local macro_rules | `(tactic| walk_at "hh") => `(tactic| first
  | assumption
  | exact New.at_ (by assumption)
  | exact NewX.at_ (by assumption)
  | exact Wr.at_ (by assumption)
  | exact Same.get (New.sm (by assumption)) (by walk_at "hh")
  | exact Same.get (NewX.sm (by assumption)) (by walk_at "hh")
  | exact Same.get (by assumption) (by walk_at "hh"))
local macro_rules | `(tactic| walk_at "sm") => `(tactic| first
  | exact Same.refl _
  | assumption
  | exact Same.tr2 (New.sm (by assumption)) (by walk_at "sm")
  | exact Same.tr2 (NewX.sm (by assumption)) (by walk_at "sm")
  | exact Same.tr2 (by assumption) (by walk_at "sm"))
local macro_rules | `(tactic| walk_at "ix") => `(tactic| with_reducible first | exact at0 | exact at1 | exact at2 | exact at3 | exact at4 | exact at5 | exact at6 | exact at7)
local macro_rules | `(tactic| walk_at "tyx") => `(tactic| first
  | exact TyX.base (TyOf.int _) | exact TyX.base (TyOf.str _) | exact TyX.base (TyOf.bl _) | exact TyX.base TyOf.non
  | exact TyX.base (TyOf.lst (by walk_at "hh")) | exact TyX.base (TyOf.tup (by walk_at "hh")) | exact TyX.base (TyOf.dK (by walk_at "hh")))
local macro_rules | `(tactic| walk_at "cond") => `(tactic| first | assumption | exact rfl | decide +kernel | omega | (simp only [List.length_cons, List.length_nil]; omega))
local macro_rules | `(tactic| walk_at "rd1") => `(tactic| first
  | with_reducible refine Rd.go ?_
  | ((with_reducible refine' k_var ?rdh ?_); (case rdh => exact rfl))
  | ((with_reducible refine' k_gt2 ?rdh ?_); (case rdh => walk_at "ht"))
  | ((with_reducible refine' v_mod ?rdh ?_); (case rdh => first | decide | omega))
  | ((with_reducible refine' v_fdiv ?rdh ?_); (case rdh => exact ⟨by decide, by decide⟩))
  | ((with_reducible refine' v_mulI ?rdh ?_); (case rdh => first | exact .inl ⟨by omega, by omega⟩ | exact .inr ⟨by omega, by omega⟩))
  | ((with_reducible refine' v_isiT ?rdh ?rdk ?_); (case rdh => walk_at "tyx"); (case rdk => decide +kernel))
  | ((with_reducible refine' v_isiF ?rdh ?rdk ?_); (case rdh => walk_at "tyx"); (case rdk => decide +kernel))
  | ((with_reducible refine' v_ixT ?rdh ?rdk ?_); (case rdh => walk_at "ht"); (case rdk => walk_at "ix"))
  | ((with_reducible refine' v_ixL ?rdh ?rdk ?_); (case rdh => walk_at "hl"); (case rdk => walk_at "ix"))
  | ((with_reducible refine' v_lenL ?rdh ?_); (case rdh => walk_at "hl"))
  | ((with_reducible refine' v_lenT ?rdh ?_); (case rdh => walk_at "ht"))
  | ((with_reducible refine' v_lenD ?rdh ?_); (case rdh => walk_at "hh"))
  | ((with_reducible refine' i_dT ?rdh ?_); (case rdh => walk_at "cond"))
  | ((with_reducible refine' i_dF ?rdh ?_); (case rdh => walk_at "cond"))
  | ((with_reducible refine' i_nT ?rdh ?_); (case rdh => walk_at "cond"))
  | ((with_reducible refine' i_nF ?rdh ?_); (case rdh => walk_at "cond"))
  | ((with_reducible refine' i_bT ?rdh ?_); (case rdh => first | assumption | decide +kernel))
  | ((with_reducible refine' i_bF ?rdh ?_); (case rdh => first | assumption | decide +kernel)))
local macro_rules | `(tactic| walk_at "rd") => `(tactic| repeat walk_at "rd1")

variable {H H0 : Hp} {Q : VK} {a b p l d : Addr} {σ : L2.St}
/-! ## comprehensions over a list -/
section
variable {K : PySem.W.Frag} {te : TE} {k : Nat} {tt : TT}
/-- the items made so far, each as F tells -/
structure Made (F : Nat → V → Hp → Prop) (n : Nat) (ys : List V) (H : Hp) : Prop where
  len : ys.length = n
  it : ∀ i y, ys[i]? = some y → F i y H
theorem Made.snoc {F : Nat → V → Hp → Prop} {n : Nat} {ys : List V} {H1 H2 : Hp} {y : V} (hF : ∀ i y H1 H2, Tk H1 H2 → F i y H1 → F i y H2) (m : Made F n ys H1) (t : Tk H1 H2) (h : F n y H2) : Made F (n + 1) (ys ++ [y]) H2 := ⟨by rw [List.length_append, m.len]; rfl, fun i z hz => by
  by_cases c : i < ys.length
  · rw [List.getElem?_append_left c] at hz
    exact hF _ _ _ _ t (m.it i z hz)
  · rw [List.getElem?_append_right (by omega)] at hz
    have : i - ys.length = 0 := by
      rcases Nat.eq_zero_or_pos (i - ys.length) with e | e
      · exact e
      · rw [List.getElem?_eq_none (by show 1 ≤ _; omega)] at hz; cases hz
    rw [this] at hz
    cases hz
    have : i = n := by rw [← m.len]; omega
    rw [this]
    exact h⟩
theorem v_lcR1 {n : Int} (F : Nat → V → Hp → Prop) (hF : ∀ i y H1 H2, Tk H1 H2 → F i y H1 → F i y H2) (h0 : 0 ≤ n) (hz : n ≤ 1000)
    (each : ∀ (i : Nat) H', (i : Int) < n → Same H H' → ∀ Q' : VK, (∀ y H2, Same H' H2 → F i y H2 → Q' y H2) → te ((wipe σ [k]).set k (some (.int (i : Int)))) H' Q')
    (q : ∀ D ys H2, Made F n.toNat ys H2 → NewX H D (.lst ys) H2 → Q (.ref D) H2) : LcR1 (gName k) tYes te [k] σ Q [.int n] H := by
  refine ⟨n, rfl, by omega, by omega, fun D nD => ?_⟩
  refine lc_range (lo := 0) (n := n.toNat) (fun i H' => ∃ ys, Made F i ys H' ∧ NewX H D (.lst ys) H') ⟨[], ⟨rfl, fun i y h => by cases h⟩, nD, (new_upd nD).sm, upd_same⟩ ?_ ?_
  · rintro i H' hi ⟨ys, m, n'⟩
    rw [show (0 : Int) + (i : Int) = (i : Int) from Int.zero_add _]
    refine ⟨wipe1, k_yes (i_T ?_)⟩
    refine each i H' (by omega) n'.sm _ fun y H2 s2 f => ⟨ys, s2 _ _ n'.at_, ?_, ys ++ [y], ?_, Wr.newX (n'.up s2) wr_upd⟩
    · rw [m.len]; exact small_sz (by omega)
    · have t2 : Tk H2 (upd H2 D (.lst (ys ++ [y]))) := Wr.tk wr_upd (s2 _ _ n'.at_) rfl
      exact m.snoc hF (Tk.trans (Same.tk s2) t2) (hF _ _ _ _ t2 f)
  · rintro H' ⟨ys, m, n'⟩
    exact q D ys H' m n'
theorem v_lcL {a : Addr} {xs : List V} (hx : SqL K H a xs) (F : Nat → V → Hp → Prop) (hF : ∀ i y H1 H2, Tk H1 H2 → F i y H1 → F i y H2) (hz : xs.length ≤ 1000)
    (each : ∀ (i : Nat) x H', xs[i]? = some x → Same H H' → ∀ Q' : VK, (∀ y H2, Same H' H2 → F i y H2 → Q' y H2) → te ((wipe σ [k]).set k (some x)) H' Q')
    (q : ∀ D ys H2, Made F xs.length ys H2 → NewX H D (.lst ys) H2 → Q (.ref D) H2) : LcL K (gName k) tYes te [k] σ Q (.ref a) H := by
  refine ⟨a, rfl, ⟨xs, hx⟩, fun D nD => ?_⟩
  refine lc_list (K := K) (a := a) (xs := xs) (fun i H' => ∃ ys, Made F i ys H' ∧ NewX H D (.lst ys) H') ⟨[], ⟨rfl, fun i y h => by cases h⟩, nD, (new_upd nD).sm, upd_same⟩ (fun i H' _ ⟨_, _, n⟩ => Same.seq n.sm hx) ?_ ?_
  · rintro i x H' hi ⟨ys, m, n'⟩
    have hi' := (List.getElem?_eq_some_iff.mp hi).1
    refine ⟨wipe1, k_yes (i_T ?_)⟩
    refine each i x H' hi n'.sm _ fun y H2 s2 f => ⟨ys, s2 _ _ n'.at_, ?_, ys ++ [y], ?_, Wr.newX (n'.up s2) wr_upd⟩
    · rw [m.len]; exact small_sz (by omega)
    · have t2 : Tk H2 (upd H2 D (.lst (ys ++ [y]))) := Wr.tk wr_upd (s2 _ _ n'.at_) rfl
      exact m.snoc hF (Tk.trans (Same.tk s2) t2) (hF _ _ _ _ t2 f)
  · rintro H' ⟨ys, m, n'⟩
    exact q D ys H' m n'
theorem v_lcT {a : Addr} {xs : List V} (hx : SqT K H a xs) (F : Nat → V → Hp → Prop) (hF : ∀ i y H1 H2, Tk H1 H2 → F i y H1 → F i y H2) (hz : xs.length ≤ 1000)
    (each : ∀ (i : Nat) x H', xs[i]? = some x → Same H H' → ∀ Q' : VK, (∀ y H2, Same H' H2 → F i y H2 → Q' y H2) → te ((wipe σ [k]).set k (some x)) H' Q')
    (q : ∀ D ys H2, Made F xs.length ys H2 → NewX H D (.lst ys) H2 → Q (.ref D) H2) : LcT K (gName k) tYes te [k] σ Q (.ref a) H := by
  refine ⟨a, rfl, ⟨xs, hx⟩, fun D nD => ?_⟩
  refine lc_tup (K := K) (a := a) (xs := xs) (fun i H' => ∃ ys, Made F i ys H' ∧ NewX H D (.lst ys) H') ⟨[], ⟨rfl, fun i y h => by cases h⟩, nD, (new_upd nD).sm, upd_same⟩ (fun i H' _ ⟨_, _, n⟩ => Same.tup n.sm hx) ?_ ?_
  · rintro i x H' hi ⟨ys, m, n'⟩
    have hi' := (List.getElem?_eq_some_iff.mp hi).1
    refine ⟨wipe1, k_yes (i_T ?_)⟩
    refine each i x H' hi n'.sm _ fun y H2 s2 f => ⟨ys, s2 _ _ n'.at_, ?_, ys ++ [y], ?_, Wr.newX (n'.up s2) wr_upd⟩
    · rw [m.len]; exact small_sz (by omega)
    · have t2 : Tk H2 (upd H2 D (.lst (ys ++ [y]))) := Wr.tk wr_upd (s2 _ _ n'.at_) rfl
      exact m.snoc hF (Tk.trans (Same.tk s2) t2) (hF _ _ _ _ t2 f)
  · rintro H' ⟨ys, m, n'⟩
    exact q D ys H' m n'
/-- [x for x in xs if test]: f tells which -/
theorem v_lcLf {a : Addr} {xs : List V} (hx : SqL K H a xs) (f : V → Bool) (hz : xs.length ≤ 1000)
    (test : ∀ (i : Nat) x H', xs[i]? = some x → Same H H' → ∀ Q' : Bool → Hp → Prop, (∀ H2, Same H' H2 → Q' (f x) H2) → tt ((wipe σ [k]).set k (some x)) H' Q')
    (each : ∀ (i : Nat) x H', xs[i]? = some x → f x = true → Same H H' → ∀ Q' : VK, (∀ H2, Same H' H2 → Q' x H2) → te ((wipe σ [k]).set k (some x)) H' Q')
    (q : ∀ D H2, NewX H D (.lst (xs.filter f)) H2 → Q (.ref D) H2) : LcL K (gName k) tt te [k] σ Q (.ref a) H := by
  refine ⟨a, rfl, ⟨xs, hx⟩, fun D nD => ?_⟩
  refine lc_list (K := K) (a := a) (xs := xs) (fun i H' => NewX H D (.lst ((xs.take i).filter f)) H') ⟨nD, (new_upd nD).sm, upd_same⟩ (fun i H' _ n => Same.seq n.sm hx) ?_ ?_
  · intro i x H' hi n'
    have hi' := (List.getElem?_eq_some_iff.mp hi).1
    refine ⟨wipe1, ?_⟩
    refine test i x H' hi n'.sm _ fun H2 s2 => ?_
    cases hf : f x with
    | true =>
      refine i_T ?_
      refine each i x H2 hi hf (Same.trans n'.sm s2) _ fun H3 s3 => ⟨_, (Same.trans s2 s3) _ _ n'.at_, ?_, ?_⟩
      · have h1 := List.length_filter_le f (xs.take i)
        have h2 : (xs.take i).length ≤ xs.length := by rw [List.length_take]; omega
        exact small_sz (by omega)
      · rw [List.take_add_one, hi, List.filter_append]
        have e : List.filter f (some x).toList = [x] := by show List.filter f [x] = _; rw [List.filter_cons, if_pos hf]; rfl
        rw [e]
        exact Wr.newX (n'.up (Same.trans s2 s3)) wr_upd
    | false =>
      refine i_F ?_
      rw [List.take_add_one, hi, List.filter_append]
      have e : List.filter f (some x).toList = [] := by show List.filter f [x] = _; rw [List.filter_cons, if_neg (by rw [hf]; decide)]; rfl
      rw [e, List.append_nil]
      exact n'.up s2
  · intro H' n'
    rw [List.take_length] at n'
    exact q D H' n'
theorem v_lcTf {a : Addr} {xs : List V} (hx : SqT K H a xs) (f : V → Bool) (hz : xs.length ≤ 1000)
    (test : ∀ (i : Nat) x H', xs[i]? = some x → Same H H' → ∀ Q' : Bool → Hp → Prop, (∀ H2, Same H' H2 → Q' (f x) H2) → tt ((wipe σ [k]).set k (some x)) H' Q')
    (each : ∀ (i : Nat) x H', xs[i]? = some x → f x = true → Same H H' → ∀ Q' : VK, (∀ H2, Same H' H2 → Q' x H2) → te ((wipe σ [k]).set k (some x)) H' Q')
    (q : ∀ D H2, NewX H D (.lst (xs.filter f)) H2 → Q (.ref D) H2) : LcT K (gName k) tt te [k] σ Q (.ref a) H := by
  refine ⟨a, rfl, ⟨xs, hx⟩, fun D nD => ?_⟩
  refine lc_tup (K := K) (a := a) (xs := xs) (fun i H' => NewX H D (.lst ((xs.take i).filter f)) H') ⟨nD, (new_upd nD).sm, upd_same⟩ (fun i H' _ n => Same.tup n.sm hx) ?_ ?_
  · intro i x H' hi n'
    have hi' := (List.getElem?_eq_some_iff.mp hi).1
    refine ⟨wipe1, ?_⟩
    refine test i x H' hi n'.sm _ fun H2 s2 => ?_
    cases hf : f x with
    | true =>
      refine i_T ?_
      refine each i x H2 hi hf (Same.trans n'.sm s2) _ fun H3 s3 => ⟨_, (Same.trans s2 s3) _ _ n'.at_, ?_, ?_⟩
      · have h1 := List.length_filter_le f (xs.take i)
        have h2 : (xs.take i).length ≤ xs.length := by rw [List.length_take]; omega
        exact small_sz (by omega)
      · rw [List.take_add_one, hi, List.filter_append]
        have e : List.filter f (some x).toList = [x] := by show List.filter f [x] = _; rw [List.filter_cons, if_pos hf]; rfl
        rw [e]
        exact Wr.newX (n'.up (Same.trans s2 s3)) wr_upd
    | false =>
      refine i_F ?_
      rw [List.take_add_one, hi, List.filter_append]
      have e : List.filter f (some x).toList = [] := by show List.filter f [x] = _; rw [List.filter_cons, if_neg (by rw [hf]; decide)]; rfl
      rw [e, List.append_nil]
      exact n'.up s2
  · intro H' n'
    rw [List.take_length] at n'
    exact q D H' n'
/-- [te for x in xs]: the items are ys -/
theorem v_lcLs {a : Addr} {xs ys : List V} (hx : SqL K H a xs) (hl : ys.length = xs.length) (hz : xs.length ≤ 1000)
    (each : ∀ (i : Nat) x y H', xs[i]? = some x → ys[i]? = some y → Same H H' → ∀ Q' : VK, (∀ H2, Same H' H2 → Q' y H2) → te ((wipe σ [k]).set k (some x)) H' Q')
    (q : ∀ D H2, NewX H D (.lst ys) H2 → Q (.ref D) H2) : LcL K (gName k) tYes te [k] σ Q (.ref a) H := by
  refine v_lcL hx (fun i y _ => ys[i]? = some y) (fun _ _ _ _ _ h => h) hz (fun i x H' hi s Q' q' => ?_) fun D zs H2 m n => ?_
  · have hi' := (List.getElem?_eq_some_iff.mp hi).1
    have hy : ys[i]? = some ys[i] := List.getElem?_eq_getElem (by omega)
    exact each i x _ H' hi hy s Q' fun H2 s2 => q' _ H2 s2 hy
  · have e : zs = ys := List.ext_getElem? fun i => by
      by_cases c : i < zs.length
      · rw [m.it i _ (List.getElem?_eq_getElem c), List.getElem?_eq_getElem c]
      · rw [List.getElem?_eq_none (by omega), List.getElem?_eq_none (by rw [hl, ← m.len]; omega)]
    rw [e] at n
    exact q D H2 n
end

end Tf

namespace Tf
open PySem L2
local macro_rules | `(tactic| walk_at "hl") => `(tactic| first
  | assumption
  | exact SqL.of (by walk_at "hh")
  | exact Same.seq (New.sm (by assumption)) (by walk_at "hl")
  | exact Same.seq (NewX.sm (by assumption)) (by walk_at "hl")
  | exact Same.seq (by assumption) (by walk_at "hl"))
local macro_rules | `(tactic| walk_at "ht") => `(tactic| first
  | assumption
  | exact SqT.of (by walk_at "hh")
  | exact Same.tup (New.sm (by assumption)) (by walk_at "ht")
  | exact Same.tup (NewX.sm (by assumption)) (by walk_at "ht")
  | exact Same.tup (by assumption) (by walk_at "ht"))
local macro_rules | `(tactic| walk_at "hr") => `(tactic| first
  | assumption
  | exact Or.inl (by walk_at "hh")
  | exact Same.rd (New.sm (by assumption)) (by walk_at "hr")
  | exact Same.rd (NewX.sm (by assumption)) (by walk_at "hr")
  | exact Same.rd (by assumption) (by walk_at "hr"))
local macro_rules | `(tactic| walk_at "hh") => `(tactic| first
  | assumption
  | exact New.at_ (by assumption)
  | exact NewX.at_ (by assumption)
  | exact Wr.at_ (by assumption)
  | exact Same.get (New.sm (by assumption)) (by walk_at "hh")
  | exact Same.get (NewX.sm (by assumption)) (by walk_at "hh")
  | exact Same.get (by assumption) (by walk_at "hh"))
local macro_rules | `(tactic| walk_at "sm") => `(tactic| first
  | exact Same.refl _
  | assumption
  | exact Same.tr2 (New.sm (by assumption)) (by walk_at "sm")
  | exact Same.tr2 (NewX.sm (by assumption)) (by walk_at "sm")
  | exact Same.tr2 (by assumption) (by walk_at "sm"))
local macro_rules | `(tactic| walk_at "ix") => `(tactic| with_reducible first | exact at0 | exact at1 | exact at2 | exact at3 | exact at4 | exact at5 | exact at6 | exact at7)
local macro_rules | `(tactic| walk_at "tyx") => `(tactic| first
  | exact TyX.base (TyOf.int _) | exact TyX.base (TyOf.str _) | exact TyX.base (TyOf.bl _) | exact TyX.base TyOf.non
  | exact TyX.base (TyOf.lst (by walk_at "hh")) | exact TyX.base (TyOf.tup (by walk_at "hh")) | exact TyX.base (TyOf.dK (by walk_at "hh")))
local macro_rules | `(tactic| walk_at "cond") => `(tactic| first | assumption | exact rfl | decide +kernel | omega | (simp only [List.length_cons, List.length_nil]; omega))
local macro_rules | `(tactic| walk_at "rd1") => `(tactic| first
  | with_reducible refine Rd.go ?_
  | ((with_reducible refine' k_var ?rdh ?_); (case rdh => exact rfl))
  | ((with_reducible refine' k_gt2 ?rdh ?_); (case rdh => walk_at "ht"))
  | ((with_reducible refine' v_mod ?rdh ?_); (case rdh => first | decide | omega))
  | ((with_reducible refine' v_fdiv ?rdh ?_); (case rdh => exact ⟨by decide, by decide⟩))
  | ((with_reducible refine' v_mulI ?rdh ?_); (case rdh => first | exact .inl ⟨by omega, by omega⟩ | exact .inr ⟨by omega, by omega⟩))
  | ((with_reducible refine' v_isiT ?rdh ?rdk ?_); (case rdh => walk_at "tyx"); (case rdk => decide +kernel))
  | ((with_reducible refine' v_isiF ?rdh ?rdk ?_); (case rdh => walk_at "tyx"); (case rdk => decide +kernel))
  | ((with_reducible refine' v_ixT ?rdh ?rdk ?_); (case rdh => walk_at "ht"); (case rdk => walk_at "ix"))
  | ((with_reducible refine' v_ixL ?rdh ?rdk ?_); (case rdh => walk_at "hl"); (case rdk => walk_at "ix"))
  | ((with_reducible refine' v_lenL ?rdh ?_); (case rdh => walk_at "hl"))
  | ((with_reducible refine' v_lenT ?rdh ?_); (case rdh => walk_at "ht"))
  | ((with_reducible refine' v_lenD ?rdh ?_); (case rdh => walk_at "hh"))
  | ((with_reducible refine' i_dT ?rdh ?_); (case rdh => walk_at "cond"))
  | ((with_reducible refine' i_dF ?rdh ?_); (case rdh => walk_at "cond"))
  | ((with_reducible refine' i_nT ?rdh ?_); (case rdh => walk_at "cond"))
  | ((with_reducible refine' i_nF ?rdh ?_); (case rdh => walk_at "cond"))
  | ((with_reducible refine' i_bT ?rdh ?_); (case rdh => first | assumption | decide +kernel))
  | ((with_reducible refine' i_bF ?rdh ?_); (case rdh => first | assumption | decide +kernel)))
local macro_rules | `(tactic| walk_at "rd") => `(tactic| repeat walk_at "rd1")

variable {g : En} {H H0 : Hp} {Q : VK} {E : XK} {a b p : Addr} {e : En0} {r : R}
/-! ## one row -/
theorem r_value_of {s : Src} (ha : H a = some (.dK (encE e))) (hi : srcIn e s) (q : Q (.int (srcV e s)) H) : sp_value_of g [.ref a, s.v] H Q E := by
  refine ⟨_, _, rfl, ?_⟩
  unfold t_value_of
  cases s with
  | num i =>
    simp only [Src.v]
    walk_at "rd"
    exact q
  | nm n =>
    simp only [Src.v]
    walk_at "rd"
    obtain ⟨v, hv⟩ := lkE_mem (show n ∈ keys e from hi)
    refine v_ixDS (.inl ha) (by rw [valV_encE, hv]; rfl) ?_
    have e1 : srcV e (.nm n) = v := by show (lkE e n).getD 0 = v; rw [hv]; rfl
    rw [e1] at q
    exact q
theorem r_worked {w : Wk} {i j : Int} (hi : -18446744073709551616 < i ∧ i < 18446744073709551616) (q : Q (.int (w.f i j)) H) : sp_worked g [.str w.s, .int i, .int j] H Q E := by
  refine ⟨_, _, _, rfl, ?_⟩
  unfold t_worked
  cases w with
  | add => simp only [Wk.s]; walk_at "rd"; exact q
  | minus => simp only [Wk.s]; walk_at "rd"; exact q
  | times =>
    simp only [Wk.s]
    walk_at "rd"
    exact q
  | less =>
    simp only [Wk.s]
    walk_at "rd"
    have e1 : Wk.f .less i j = if decide (i < j) = true then 1 else 0 := by simp [Wk.f]
    rw [e1] at q
    exact q
/-- a row of a program that does something -/
def isW : R → Bool
  | .put .. => true | .copy .. => true | .work .. => true | .tell .. => true
  | _ => false
def doneE (e : En0) : R → En0
  | .put n k => putE e n k
  | .copy n s => putE e n (srcV e s)
  | .work w n x y => putE e n (w.f (srcV e x) (srcV e y))
  | _ => e
def toldE (e : En0) : R → List Int
  | .tell s => [srcV e s]
  | _ => []
def rowIn (e : En0) : R → Prop
  | .put n _ => n ∈ keys e
  | .copy n s => n ∈ keys e ∧ srcIn e s
  | .work _ n x y => n ∈ keys e ∧ srcIn e x ∧ srcIn e y
  | .tell s => srcIn e s
  | .zero n _ => n ∈ keys e
  | _ => True
def rowOk : R → Prop
  | .put _ k => 0 ≤ k ∧ k < 1000000
  | .copy _ s => srcOk s
  | .work _ _ x y => srcOk x ∧ srcOk y
  | .tell s => srcOk s
  | _ => True
theorem keys_doneE {e : En0} {r : R} (h : rowIn e r) : keys (doneE e r) = keys e := by
  cases r with
  | put n k => exact keys_putE_mem h
  | copy n s => exact keys_putE_mem h.1
  | work w n x y => exact keys_putE_mem h.1
  | _ => rfl
theorem doneE_ok {e : En0} {r : R} (he : EnOk e) (h : rowIn e r) (ho : rowOk r) : EnOk (doneE e r) := by
  cases r with
  | put n k => exact he.put ho
  | copy n s => exact he.put (srcV_ok he h.2 ho)
  | work w n x y => exact he.put w.f_ok
  | _ => exact he
theorem vbig {i : Int} (h : 0 ≤ i ∧ i < 1000000) : -18446744073709551616 < i ∧ i < 18446744073709551616 := by omega
theorem wk_ne_tell (w : Wk) : ¬ w.s = "tell" := by cases w <;> decide +kernel
theorem wk_ne_put (w : Wk) : ¬ w.s = "put" := by cases w <;> decide +kernel
theorem wk_ne_copy (w : Wk) : ¬ w.s = "copy" := by cases w <;> decide +kernel
theorem wk_in2 (w : Wk) : inV (.str w.s) [.str "put", .str "copy"] = false := by cases w <;> decide +kernel
theorem r_done (ha : H a = some (.dK (encE e))) (hb : H b = some (.tup r.vs)) (hw : isW r = true) (he : EnOk e) (hi : rowIn e r) (ho : rowOk r) (hl : e.length ≤ 1000)
    (q : ∀ p H2, NewX H p (.dK (encE (doneE e r))) H2 → Q (.ref p) H2) : sp_done g [.ref b, .ref a] H Q E := by
  refine ⟨_, _, rfl, ?_⟩
  unfold t_done
  have hl' : (encE e).length < sizeLine := by rw [encE_len]; exact small_sz hl
  cases r with
  | put n k =>
    simp only [R.vs] at hb
    walk_at "rd"
    refine v_dict (.inl ha) fun p H1 n1 => ?_
    walk_at "rd"
    refine ⟨by decide, fun t H2 n2 => ?_⟩
    refine v_inSq (.inr (by walk_at "ht")) rfl (by rfl) ?_
    walk_at "rd"
    refine r_value_of (s := .num k) (e := e) (by walk_at "hh") trivial ?_
    walk_at "rd"
    refine e_put (by walk_at "hh") hl' fun H3 w => ?_
    walk_at "rd"
    rw [putK_encE] at w
    exact q p H3 (Wr.newX (NewX.up n1.x n2.sm) w)
  | copy n s =>
    simp only [R.vs] at hb
    walk_at "rd"
    refine v_dict (.inl ha) fun p H1 n1 => ?_
    walk_at "rd"
    refine ⟨by decide, fun t H2 n2 => ?_⟩
    refine v_inSq (.inr (by walk_at "ht")) rfl (by rfl) ?_
    walk_at "rd"
    refine r_value_of (e := e) (by walk_at "hh") hi.2 ?_
    walk_at "rd"
    refine e_put (by walk_at "hh") hl' fun H3 w => ?_
    walk_at "rd"
    rw [putK_encE] at w
    exact q p H3 (Wr.newX (NewX.up n1.x n2.sm) w)
  | work w n x y =>
    simp only [R.vs] at hb
    walk_at "rd"
    refine v_dict (.inl ha) fun p H1 n1 => ?_
    walk_at "rd"
    refine ⟨by decide, fun t H2 n2 => ?_⟩
    refine v_inSq (.inr (by walk_at "ht")) rfl (by rfl) ?_
    rw [wk_in2 w]
    have hne := wk_ne_tell w
    walk_at "rd"
    refine r_value_of (e := e) (by walk_at "hh") hi.2.1 ?_
    walk_at "rd"
    refine r_value_of (e := e) (by walk_at "hh") hi.2.2 ?_
    walk_at "rd"
    refine r_worked (vbig (srcV_ok he hi.2.1 ho.1)) ?_
    walk_at "rd"
    refine e_put (by walk_at "hh") hl' fun H3 w => ?_
    walk_at "rd"
    rw [putK_encE] at w
    exact q p H3 (Wr.newX (NewX.up n1.x n2.sm) w)
  | tell s =>
    simp only [R.vs] at hb
    walk_at "rd"
    refine v_dict (.inl ha) fun p H1 n1 => ?_
    walk_at "rd"
    refine ⟨by decide, fun t H2 n2 => ?_⟩
    refine v_inSq (.inr (by walk_at "ht")) rfl (by rfl) ?_
    walk_at "rd"
    exact q p H2 (NewX.up n1.x n2.sm)
  | _ => cases hw

end Tf

namespace Tf
open PySem L2
local macro_rules | `(tactic| walk_at "hl") => `(tactic| first
  | assumption
  | exact SqL.of (by walk_at "hh")
  | exact Same.seq (New.sm (by assumption)) (by walk_at "hl")
  | exact Same.seq (NewX.sm (by assumption)) (by walk_at "hl")
  | exact Same.seq (by assumption) (by walk_at "hl"))
local macro_rules | `(tactic| walk_at "ht") => `(tactic| first
  | assumption
  | exact SqT.of (by walk_at "hh")
  | exact Same.tup (New.sm (by assumption)) (by walk_at "ht")
  | exact Same.tup (NewX.sm (by assumption)) (by walk_at "ht")
  | exact Same.tup (by assumption) (by walk_at "ht"))
local macro_rules | `(tactic| walk_at "hr") => `(tactic| first
  | assumption
  | exact Or.inl (by walk_at "hh")
  | exact Same.rd (New.sm (by assumption)) (by walk_at "hr")
  | exact Same.rd (NewX.sm (by assumption)) (by walk_at "hr")
  | exact Same.rd (by assumption) (by walk_at "hr"))
local macro_rules | `(tactic| walk_at "hh") => `(tactic| first
  | assumption
  | exact New.at_ (by assumption)
  | exact NewX.at_ (by assumption)
  | exact Wr.at_ (by assumption)
  | exact Same.get (New.sm (by assumption)) (by walk_at "hh")
  | exact Same.get (NewX.sm (by assumption)) (by walk_at "hh")
  | exact Same.get (by assumption) (by walk_at "hh"))
local macro_rules | `(tactic| walk_at "sm") => `(tactic| first
  | exact Same.refl _
  | assumption
  | exact Same.tr2 (New.sm (by assumption)) (by walk_at "sm")
  | exact Same.tr2 (NewX.sm (by assumption)) (by walk_at "sm")
  | exact Same.tr2 (by assumption) (by walk_at "sm"))
local macro_rules | `(tactic| walk_at "ix") => `(tactic| with_reducible first | exact at0 | exact at1 | exact at2 | exact at3 | exact at4 | exact at5 | exact at6 | exact at7)
local macro_rules | `(tactic| walk_at "tyx") => `(tactic| first
  | exact TyX.base (TyOf.int _) | exact TyX.base (TyOf.str _) | exact TyX.base (TyOf.bl _) | exact TyX.base TyOf.non
  | exact TyX.base (TyOf.lst (by walk_at "hh")) | exact TyX.base (TyOf.tup (by walk_at "hh")) | exact TyX.base (TyOf.dK (by walk_at "hh")))
local macro_rules | `(tactic| walk_at "cond") => `(tactic| first | assumption | exact rfl | decide +kernel | omega | (simp only [List.length_cons, List.length_nil]; omega))
local macro_rules | `(tactic| walk_at "rd1") => `(tactic| first
  | with_reducible refine Rd.go ?_
  | ((with_reducible refine' k_var ?rdh ?_); (case rdh => exact rfl))
  | ((with_reducible refine' k_gt2 ?rdh ?_); (case rdh => walk_at "ht"))
  | ((with_reducible refine' v_mod ?rdh ?_); (case rdh => first | decide | omega))
  | ((with_reducible refine' v_fdiv ?rdh ?_); (case rdh => exact ⟨by decide, by decide⟩))
  | ((with_reducible refine' v_mulI ?rdh ?_); (case rdh => first | exact .inl ⟨by omega, by omega⟩ | exact .inr ⟨by omega, by omega⟩))
  | ((with_reducible refine' v_isiT ?rdh ?rdk ?_); (case rdh => walk_at "tyx"); (case rdk => decide +kernel))
  | ((with_reducible refine' v_isiF ?rdh ?rdk ?_); (case rdh => walk_at "tyx"); (case rdk => decide +kernel))
  | ((with_reducible refine' v_ixT ?rdh ?rdk ?_); (case rdh => walk_at "ht"); (case rdk => walk_at "ix"))
  | ((with_reducible refine' v_ixL ?rdh ?rdk ?_); (case rdh => walk_at "hl"); (case rdk => walk_at "ix"))
  | ((with_reducible refine' v_lenL ?rdh ?_); (case rdh => walk_at "hl"))
  | ((with_reducible refine' v_lenT ?rdh ?_); (case rdh => walk_at "ht"))
  | ((with_reducible refine' v_lenD ?rdh ?_); (case rdh => walk_at "hh"))
  | ((with_reducible refine' i_dT ?rdh ?_); (case rdh => walk_at "cond"))
  | ((with_reducible refine' i_dF ?rdh ?_); (case rdh => walk_at "cond"))
  | ((with_reducible refine' i_nT ?rdh ?_); (case rdh => walk_at "cond"))
  | ((with_reducible refine' i_nF ?rdh ?_); (case rdh => walk_at "cond"))
  | ((with_reducible refine' i_bT ?rdh ?_); (case rdh => first | assumption | decide +kernel))
  | ((with_reducible refine' i_bF ?rdh ?_); (case rdh => first | assumption | decide +kernel)))
local macro_rules | `(tactic| walk_at "rd") => `(tactic| repeat walk_at "rd1")

variable {g : En} {H H0 : Hp} {Q : VK} {E : XK} {a b p l : Addr} {e : En0} {r : R} {rs : List R}
theorem inV_cons {x y : V} {l : List V} : inV x (y :: l) = (eqV y x || inV x l) := rfl
theorem r_told_by (ha : H a = some (.dK (encE e))) (hb : H b = some (.tup r.vs)) (hw : isW r = true) (hi : rowIn e r)
    (q : ∀ p H2, NewX H p (.lst ((toldE e r).map V.int)) H2 → Q (.ref p) H2) : sp_told_by g [.ref b, .ref a] H Q E := by
  refine ⟨_, _, rfl, ?_⟩
  unfold t_told_by
  cases r with
  | tell s =>
    simp only [R.vs] at hb
    walk_at "rd"
    refine r_value_of (e := e) (by walk_at "hh") hi ?_
    walk_at "rd"
    exact ⟨show 1 ≤ sizeLine by decide, fun t H2 n2 => q t H2 n2.x⟩
  | put n k =>
    simp only [R.vs] at hb
    walk_at "rd"
    exact ⟨show 0 ≤ sizeLine by decide, fun t H2 n2 => q t H2 n2.x⟩
  | copy n k =>
    simp only [R.vs] at hb
    walk_at "rd"
    exact ⟨show 0 ≤ sizeLine by decide, fun t H2 n2 => q t H2 n2.x⟩
  | work w n x y =>
    simp only [R.vs] at hb
    have hne := wk_ne_tell w
    walk_at "rd"
    exact ⟨show 0 ≤ sizeLine by decide, fun t H2 n2 => q t H2 n2.x⟩
  | _ => cases hw
/-- where a row leads -/
def nextP (e : En0) (p : Int) : R → Int
  | .jump t => t
  | .zero n t => if (lkE e n).getD 0 = 0 then t else p + 1
  | _ => p + 1
def isJ : R → Bool
  | .jump _ => true | .zero .. => true
  | _ => false
theorem r_next_place {pl : Int} (ha : H a = some (.dK (encE e))) (hb : H b = some (.tup r.vs)) (hj : isJ r = true) (hi : rowIn e r) (q : Q (.int (nextP e pl r)) H) : sp_next_place g [.ref b, .int pl, .ref a] H Q E := by
  refine ⟨_, _, _, rfl, ?_⟩
  unfold t_next_place
  cases r with
  | jump t =>
    simp only [R.vs] at hb
    walk_at "rd"
    exact q
  | zero n t =>
    simp only [R.vs] at hb
    obtain ⟨v, hv⟩ := lkE_mem (show n ∈ keys e from hi)
    have hq : nextP e pl (.zero n t) = if v = 0 then t else pl + 1 := by show (if (lkE e n).getD 0 = 0 then _ else _) = _; rw [hv]; rfl
    rw [hq] at q
    walk_at "rd"
    refine v_ixDS (.inl ha) (by rw [valV_encE, hv]; rfl) ?_
    walk_at "rd"
    refine i_d (fun h => ?_) (fun h => ?_)
    · rw [if_pos h] at q
      walk_at "rd"
      exact q
    · rw [if_neg h] at q
      walk_at "rd"
      exact q
  | _ => cases hj
/-- a step's answer -/
structure StepR (H : Hp) (np : Int) (e' : En0) (tl : List Int) (t d l : Addr) (H2 : Hp) : Prop where
  sm : Same H H2
  ht : H2 t = some (.tup [.int np, .ref d, .ref l])
  fd : H d = none
  hd : H2 d = some (.dK (encE e'))
  fl : H l = none
  hl : H2 l = some (.lst (tl.map V.int))
theorem rows_at {H : Hp} {vs : List V} {rs : List R} (h : RowsV H vs rs) {j : Nat} {r : R} (hr : rs[j]? = some r) : ∃ b, vs[j]? = some (.ref b) ∧ RowO H b r := by
  obtain ⟨v, hv, b, e, o⟩ := All2.get' h hr
  subst e
  exact ⟨b, hv, o⟩
def isG : R → Bool
  | .guard .. => true
  | _ => false
theorem rowO_vs {H : Hp} {b : Addr} {r : R} (h : RowO H b r) (n : isG r = false) : H b = some (.tup r.vs) := by
  cases r <;> first | exact h | cases n
theorem atI_of {α : Type} {l : List α} {z : Int} {j : Nat} {v : α} (e : z = (j : Int)) (h : l[j]? = some v) : atI l z = some v := by rw [e]; exact atI_nat h
theorem word_jz {w : Str} (h1 : ¬ w = "jump") (h2 : ¬ w = "zero") : inV (.str w) [.str "jump", .str "zero"] = false := by
  show (eqV (.str "jump") (.str w) || (eqV (.str "zero") (.str w) || false)) = false
  have e1 : eqV (.str "jump") (.str w) = false := by
    show decide (("jump" : Str) = w) = false
    exact decide_eq_false fun z => h1 z.symm
  have e2 : eqV (.str "zero") (.str w) = false := by
    show decide (("zero" : Str) = w) = false
    exact decide_eq_false fun z => h2 z.symm
  rw [e1, e2]; rfl
def isStop : R → Bool
  | .stop => true
  | _ => false
theorem r_stepped {pl : Int} {j : Nat} (hl : RowsAt H l rs) (ej : pl = (j : Int)) (hr : rs[j]? = some r) (ha : H a = some (.dK (encE e))) (hg : isG r = false) (hs : isStop r = false) (he : EnOk e) (hi : rowIn e r) (ho : rowOk r) (hz : e.length ≤ 1000)
    (q : ∀ t d m H2, StepR H (nextP e pl r) (doneE e r) (toldE e r) t d m H2 → Q (.ref t) H2) : sp_stepped g [.ref l, .int pl, .ref a] H Q E := by
  refine ⟨_, _, _, rfl, ?_⟩
  unfold t_stepped
  obtain ⟨vs, hv, hR⟩ := hl
  obtain ⟨b, hb, hO⟩ := rows_at hR hr
  have hb2 := rowO_vs hO hg
  walk_at "rd"
  refine v_ixL (SqL.of hv) (atI_of ej hb) ?_
  walk_at "rd"
  have key : ∀ (w : Str) (rest : List V), H b = some (.tup (.str w :: rest)) → True := fun _ _ _ => trivial
  by_cases hj : isJ r = true
  · have hw : ∃ w rest, r.vs = .str w :: rest ∧ inV (.str w) [.str "jump", .str "zero"] = true := by
      cases r with
      | jump t => exact ⟨_, _, rfl, by decide +kernel⟩
      | zero n t => exact ⟨_, _, rfl, by decide +kernel⟩
      | _ => cases hj
    obtain ⟨w, rest, ew, hin⟩ := hw
    have hb3 := hb2
    rw [ew] at hb3
    walk_at "rd"
    refine ⟨show 2 ≤ sizeLine by decide, fun t1 H1 n1 => ?_⟩
    refine v_inSq (.inr (by walk_at "ht")) rfl (by rfl) ?_
    walk_at "rd"
    refine r_next_place (e := e) (r := r) (by walk_at "hh") (by walk_at "hh") hj hi ?_
    walk_at "rd"
    refine v_dict (.inl (by walk_at "hh")) fun d H2 n2 => ?_
    walk_at "rd"
    refine ⟨show 0 ≤ sizeLine by decide, fun m H3 n3 => ?_⟩
    walk_at "rd"
    refine ⟨show 3 ≤ sizeLine by decide, fun t H4 n4 => ?_⟩
    have e1 : doneE e r = e := by cases r <;> first | rfl | cases hj
    have e2 : toldE e r = [] := by cases r <;> first | rfl | cases hj
    refine q t d m H4 ⟨by walk_at "sm", n4.at_, Same.free n1.sm n2.fr, by rw [e1]; walk_at "hh", Same.free (show Same H H2 by walk_at "sm") n3.fr, by rw [e2]; walk_at "hh"⟩
  · have hw : isW r = true := by
      cases r with
      | jump _ => exact absurd rfl hj
      | zero _ _ => exact absurd rfl hj
      | stop => cases hs
      | guard _ _ _ _ _ => cases hg
      | _ => rfl
    have hw2 : ∃ w rest, r.vs = .str w :: rest ∧ inV (.str w) [.str "jump", .str "zero"] = false := by
      cases r with
      | put n k => exact ⟨_, _, rfl, by decide +kernel⟩
      | copy n k => exact ⟨_, _, rfl, by decide +kernel⟩
      | work w n x y => exact ⟨_, _, rfl, by cases w <;> decide +kernel⟩
      | tell s => exact ⟨_, _, rfl, by decide +kernel⟩
      | _ => cases hw
    obtain ⟨w, rest, ew, hin⟩ := hw2
    have hb3 := hb2
    rw [ew] at hb3
    walk_at "rd"
    refine ⟨show 2 ≤ sizeLine by decide, fun t1 H1 n1 => ?_⟩
    refine v_inSq (.inr (by walk_at "ht")) rfl (by rfl) ?_
    walk_at "rd"
    refine r_done (e := e) (r := r) (by walk_at "hh") (by walk_at "hh") hw he hi ho hz fun d H2 n2 => ?_
    walk_at "rd"
    refine r_told_by (e := e) (r := r) (by walk_at "hh") (by walk_at "hh") hw hi fun m H3 n3 => ?_
    walk_at "rd"
    refine ⟨show 3 ≤ sizeLine by decide, fun t H4 n4 => ?_⟩
    have e1 : nextP e pl r = pl + 1 := by cases r <;> first | rfl | cases hw
    refine q t d m H4 ⟨by walk_at "sm", by rw [e1]; exact n4.at_, Same.free n1.sm n2.fr, by walk_at "hh", Same.free (show Same H H2 by walk_at "sm") n3.fr, by walk_at "hh"⟩

end Tf

namespace Tf
open PySem L2
local macro_rules | `(tactic| walk_at "hl") => `(tactic| first
  | assumption
  | exact SqL.of (by walk_at "hh")
  | exact Same.seq (New.sm (by assumption)) (by walk_at "hl")
  | exact Same.seq (NewX.sm (by assumption)) (by walk_at "hl")
  | exact Same.seq (by assumption) (by walk_at "hl"))
local macro_rules | `(tactic| walk_at "ht") => `(tactic| first
  | assumption
  | exact SqT.of (by walk_at "hh")
  | exact Same.tup (New.sm (by assumption)) (by walk_at "ht")
  | exact Same.tup (NewX.sm (by assumption)) (by walk_at "ht")
  | exact Same.tup (by assumption) (by walk_at "ht"))
local macro_rules | `(tactic| walk_at "hr") => `(tactic| first
  | assumption
  | exact Or.inl (by walk_at "hh")
  | exact Same.rd (New.sm (by assumption)) (by walk_at "hr")
  | exact Same.rd (NewX.sm (by assumption)) (by walk_at "hr")
  | exact Same.rd (by assumption) (by walk_at "hr"))
local macro_rules | `(tactic| walk_at "hh") => `(tactic| first
  | assumption
  | exact New.at_ (by assumption)
  | exact NewX.at_ (by assumption)
  | exact Wr.at_ (by assumption)
  | exact Same.get (New.sm (by assumption)) (by walk_at "hh")
  | exact Same.get (NewX.sm (by assumption)) (by walk_at "hh")
  | exact Same.get (by assumption) (by walk_at "hh"))
local macro_rules | `(tactic| walk_at "sm") => `(tactic| first
  | exact Same.refl _
  | assumption
  | exact Same.tr2 (New.sm (by assumption)) (by walk_at "sm")
  | exact Same.tr2 (NewX.sm (by assumption)) (by walk_at "sm")
  | exact Same.tr2 (by assumption) (by walk_at "sm"))
local macro_rules | `(tactic| walk_at "ix") => `(tactic| with_reducible first | exact at0 | exact at1 | exact at2 | exact at3 | exact at4 | exact at5 | exact at6 | exact at7)
local macro_rules | `(tactic| walk_at "tyx") => `(tactic| first
  | exact TyX.base (TyOf.int _) | exact TyX.base (TyOf.str _) | exact TyX.base (TyOf.bl _) | exact TyX.base TyOf.non
  | exact TyX.base (TyOf.lst (by walk_at "hh")) | exact TyX.base (TyOf.tup (by walk_at "hh")) | exact TyX.base (TyOf.dK (by walk_at "hh")))
local macro_rules | `(tactic| walk_at "cond") => `(tactic| first | assumption | exact rfl | decide +kernel | omega | (simp only [List.length_cons, List.length_nil]; omega))
local macro_rules | `(tactic| walk_at "rd1") => `(tactic| first
  | with_reducible refine Rd.go ?_
  | ((with_reducible refine' k_var ?rdh ?_); (case rdh => exact rfl))
  | ((with_reducible refine' k_gt2 ?rdh ?_); (case rdh => walk_at "ht"))
  | ((with_reducible refine' v_mod ?rdh ?_); (case rdh => first | decide | omega))
  | ((with_reducible refine' v_fdiv ?rdh ?_); (case rdh => exact ⟨by decide, by decide⟩))
  | ((with_reducible refine' v_mulI ?rdh ?_); (case rdh => first | exact .inl ⟨by omega, by omega⟩ | exact .inr ⟨by omega, by omega⟩))
  | ((with_reducible refine' v_isiT ?rdh ?rdk ?_); (case rdh => walk_at "tyx"); (case rdk => decide +kernel))
  | ((with_reducible refine' v_isiF ?rdh ?rdk ?_); (case rdh => walk_at "tyx"); (case rdk => decide +kernel))
  | ((with_reducible refine' v_ixT ?rdh ?rdk ?_); (case rdh => walk_at "ht"); (case rdk => walk_at "ix"))
  | ((with_reducible refine' v_ixL ?rdh ?rdk ?_); (case rdh => walk_at "hl"); (case rdk => walk_at "ix"))
  | ((with_reducible refine' v_lenL ?rdh ?_); (case rdh => walk_at "hl"))
  | ((with_reducible refine' v_lenT ?rdh ?_); (case rdh => walk_at "ht"))
  | ((with_reducible refine' v_lenD ?rdh ?_); (case rdh => walk_at "hh"))
  | ((with_reducible refine' i_dT ?rdh ?_); (case rdh => walk_at "cond"))
  | ((with_reducible refine' i_dF ?rdh ?_); (case rdh => walk_at "cond"))
  | ((with_reducible refine' i_nT ?rdh ?_); (case rdh => walk_at "cond"))
  | ((with_reducible refine' i_nF ?rdh ?_); (case rdh => walk_at "cond"))
  | ((with_reducible refine' i_bT ?rdh ?_); (case rdh => first | assumption | decide +kernel))
  | ((with_reducible refine' i_bF ?rdh ?_); (case rdh => first | assumption | decide +kernel)))
local macro_rules | `(tactic| walk_at "rd") => `(tactic| repeat walk_at "rd1")

variable {g : En} {H H0 : Hp} {Q : VK} {E : XK} {a b p l d : Addr} {e : En0} {r : R} {rs : List R} {σ : L2.St}
/-! ## the law's own step -/
theorem law_value_eq (g : En) : sp_law_value g = sp_value_of g := rfl
theorem k_disp {trs : List (TE × TE)} (h : ∀ p H0, New H p (.dK []) H0 → tPairs trs σ H0 fun ps H2 => H2 p = some (.dK []) ∧ ∃ kvs : List (Key × V), ps = kvs.map (fun kv => (kV kv.1, kv.2)) ∧ kvs.length ≤ 15 ∧ ∀ H3, Wr H2 p (.dK (mergeK [] kvs)) H3 → Q (.ref p) H3) : tDispN trs σ H Q := h
theorem k_pc {tk tv : TE} {r : List (TE × TE)} {Q : List (V × V) → Hp → Prop} (h : tk σ H fun x H1 => tv σ H1 fun y H2 => tPairs r σ H2 fun ps H3 => Q ((x, y) :: ps) H3) : tPairs ((tk, tv) :: r) σ H Q := h
theorem k_pn {Q : List (V × V) → Hp → Prop} (h : Q [] H) : tPairs [] σ H Q := h
local macro_rules | `(tactic| walk_at "rp") => `(tactic| repeat (first | walk_at "rd1" | with_reducible refine k_pc ?_ | with_reducible refine k_pn ?_))
theorem r_law_done (ha : H a = some (.dK (encE e))) (hb : H b = some (.tup r.vs)) (hw : isW r = true) (he : EnOk e) (hi : rowIn e r) (ho : rowOk r) (hl : e.length ≤ 1000)
    (q : ∀ p H2, NewX H p (.dK (encE (doneE e r))) H2 → Q (.ref p) H2) : sp_law_done g [.ref b, .ref a] H Q E := by
  refine ⟨_, _, rfl, ?_⟩
  unfold t_law_done
  have hl' : (encE e).length < sizeLine := by rw [encE_len]; exact small_sz hl
  rw [law_value_eq]
  cases r with
  | put n k =>
    simp only [R.vs] at hb
    walk_at "rd"
    refine v_dict (.inl ha) fun p H1 n1 => ?_
    walk_at "rd"
    refine r_value_of (s := .num k) (e := e) (by walk_at "hh") trivial ?_
    walk_at "rd"
    refine ⟨by decide, fun t H2 n2 => ?_⟩
    refine v_inSq (.inl (by walk_at "hl")) rfl (by rfl) ?_
    walk_at "rd"
    refine e_put (by walk_at "hh") hl' fun H3 w => ?_
    walk_at "rd"
    rw [putK_encE] at w
    exact q p H3 (Wr.newX (NewX.up n1.x n2.sm) w)
  | copy n s =>
    simp only [R.vs] at hb
    walk_at "rd"
    refine v_dict (.inl ha) fun p H1 n1 => ?_
    walk_at "rd"
    refine r_value_of (e := e) (by walk_at "hh") hi.2 ?_
    walk_at "rd"
    refine ⟨by decide, fun t H2 n2 => ?_⟩
    refine v_inSq (.inl (by walk_at "hl")) rfl (by rfl) ?_
    walk_at "rd"
    refine e_put (by walk_at "hh") hl' fun H3 w => ?_
    walk_at "rd"
    rw [putK_encE] at w
    exact q p H3 (Wr.newX (NewX.up n1.x n2.sm) w)
  | work w n x y =>
    simp only [R.vs] at hb
    have hne := wk_ne_tell w
    walk_at "rd"
    refine v_dict (.inl ha) fun p H1 n1 => ?_
    walk_at "rd"
    refine r_value_of (e := e) (by walk_at "hh") hi.2.1 ?_
    walk_at "rd"
    refine ⟨by decide, fun t H2 n2 => ?_⟩
    refine v_inSq (.inl (by walk_at "hl")) rfl (by rfl) ?_
    rw [wk_in2 w]
    walk_at "rd"
    refine r_value_of (e := e) (by walk_at "hh") hi.2.2 ?_
    have hx := vbig (srcV_ok he hi.2.1 ho.1)
    have fin : ∀ {H4 H5 : Hp} {z : Int}, Same H2 H4 → Wr H4 p (.dK (putK (encE e) (.inr n) (.int z))) H5 → z = w.f (srcV e x) (srcV e y) → Q (.ref p) H5 := fun {H4 H5 z} s4 w5 ez => by
      rw [ez, putK_encE] at w5
      exact q p H5 (Wr.newX (NewX.up n1.x (Same.trans n2.sm s4)) w5)
    cases w with
    | less =>
      simp only [Wk.s] at hb ⊢
      walk_at "rd"
      refine e_put (by walk_at "hh") hl' fun H5 w5 => ?_
      walk_at "rd"
      refine fin (Same.refl _) w5 ?_
      simp [Wk.f]
    | add =>
      simp only [Wk.s] at hb ⊢
      walk_at "rd"
      refine k_disp fun c H3 n3 => ?_
      walk_at "rp"
      refine ⟨n3.at_, [(.inr "add", _), (.inr "minus", _), (.inr "times", _)], rfl, (show 3 ≤ 15 by decide), fun H4 w4 => ?_⟩
      have s4 : Same H2 H4 := w4.same n3.sm n3.fr
      walk_at "rd"
      refine v_ixDS (.inl w4.at_) (by rfl) ?_
      walk_at "rd"
      refine e_put (by walk_at "hh") hl' fun H5 w5 => ?_
      walk_at "rd"
      exact fin s4 w5 rfl
    | minus =>
      simp only [Wk.s] at hb ⊢
      walk_at "rd"
      refine k_disp fun c H3 n3 => ?_
      walk_at "rp"
      refine ⟨n3.at_, [(.inr "add", _), (.inr "minus", _), (.inr "times", _)], rfl, (show 3 ≤ 15 by decide), fun H4 w4 => ?_⟩
      have s4 : Same H2 H4 := w4.same n3.sm n3.fr
      walk_at "rd"
      refine v_ixDS (.inl w4.at_) (by rfl) ?_
      walk_at "rd"
      refine e_put (by walk_at "hh") hl' fun H5 w5 => ?_
      walk_at "rd"
      exact fin s4 w5 rfl
    | times =>
      simp only [Wk.s] at hb ⊢
      walk_at "rd"
      refine k_disp fun c H3 n3 => ?_
      walk_at "rp"
      refine ⟨n3.at_, [(.inr "add", _), (.inr "minus", _), (.inr "times", _)], rfl, (show 3 ≤ 15 by decide), fun H4 w4 => ?_⟩
      have s4 : Same H2 H4 := w4.same n3.sm n3.fr
      walk_at "rd"
      refine v_ixDS (.inl w4.at_) (by rfl) ?_
      walk_at "rd"
      refine e_put (by walk_at "hh") hl' fun H5 w5 => ?_
      walk_at "rd"
      exact fin s4 w5 rfl
  | tell s =>
    simp only [R.vs] at hb
    walk_at "rd"
    refine v_dict (.inl ha) fun p H1 n1 => ?_
    walk_at "rd"
    exact q p H1 n1.x
  | _ => cases hw
theorem law_told_eq (g : En) : sp_law_told g = sp_told_by g := rfl
/-- the answer of the law's own step: the names may be those that were handed in -/
structure LStepR (H : Hp) (a : Addr) (np : Int) (e' : En0) (tl : List Int) (t d l : Addr) (H2 : Hp) : Prop where
  sm : Same H H2
  ht : H2 t = some (.tup [.int np, .ref d, .ref l])
  fd : d = a ∨ H d = none
  hd : H2 d = some (.dK (encE e'))
  fl : H l = none
  hl : H2 l = some (.lst (tl.map V.int))
theorem r_law_step {pl : Int} {j : Nat} (hl : RowsAt H l rs) (ej : pl = (j : Int)) (hr : rs[j]? = some r) (ha : H a = some (.dK (encE e))) (hg : isG r = false) (hs : isStop r = false) (he : EnOk e) (hi : rowIn e r) (ho : rowOk r) (hz : e.length ≤ 1000)
    (q : ∀ t d m H2, LStepR H a (nextP e pl r) (doneE e r) (toldE e r) t d m H2 → Q (.ref t) H2) : sp_law_step g [.ref l, .int pl, .ref a] H Q E := by
  refine ⟨_, _, _, rfl, ?_⟩
  unfold t_law_step
  obtain ⟨vs, hv, hR⟩ := hl
  obtain ⟨b, hb, hO⟩ := rows_at hR hr
  have hb2 := rowO_vs hO hg
  walk_at "rd"
  refine v_ixL (SqL.of hv) (atI_of ej hb) ?_
  walk_at "rd"
  cases r with
  | jump t =>
    simp only [R.vs] at hb2
    walk_at "rd"
    refine ⟨show 0 ≤ sizeLine by decide, fun m H1 n1 => ?_⟩
    walk_at "rd"
    refine ⟨show 3 ≤ sizeLine by decide, fun t' H2 n2 => ?_⟩
    exact q t' a m H2 ⟨by walk_at "sm", n2.at_, .inl rfl, by walk_at "hh", n1.fr, by walk_at "hh"⟩
  | zero n t =>
    simp only [R.vs] at hb2
    obtain ⟨v, hv⟩ := lkE_mem (show n ∈ keys e from hi)
    have hq : nextP e pl (.zero n t) = if v = 0 then t else pl + 1 := by show (if (lkE e n).getD 0 = 0 then _ else _) = _; rw [hv]; rfl
    walk_at "rd"
    refine v_ixDS (.inl ha) (by rw [valV_encE, hv]; rfl) ?_
    walk_at "rd"
    refine i_d (fun h => ?_) (fun h => ?_)
    · rw [if_pos h] at hq
      walk_at "rd"
      refine ⟨show 0 ≤ sizeLine by decide, fun m H1 n1 => ?_⟩
      walk_at "rd"
      refine ⟨show 3 ≤ sizeLine by decide, fun t' H2 n2 => ?_⟩
      exact q t' a m H2 ⟨by walk_at "sm", by rw [hq]; exact n2.at_, .inl rfl, by walk_at "hh", n1.fr, by walk_at "hh"⟩
    · rw [if_neg h] at hq
      walk_at "rd"
      refine ⟨show 0 ≤ sizeLine by decide, fun m H1 n1 => ?_⟩
      walk_at "rd"
      refine ⟨show 3 ≤ sizeLine by decide, fun t' H2 n2 => ?_⟩
      exact q t' a m H2 ⟨by walk_at "sm", by rw [hq]; exact n2.at_, .inl rfl, by walk_at "hh", n1.fr, by walk_at "hh"⟩
  | put n k =>
    simp only [R.vs] at hb2
    walk_at "rd"
    refine r_law_done (e := e) (r := .put n k) (by walk_at "hh") (by walk_at "hh") rfl he hi ho hz fun d H2 n2 => ?_
    walk_at "rd"
    rw [law_told_eq]
    refine r_told_by (e := e) (r := .put n k) (by walk_at "hh") (by walk_at "hh") rfl hi fun m H3 n3 => ?_
    walk_at "rd"
    refine ⟨show 3 ≤ sizeLine by decide, fun t H4 n4 => ?_⟩
    exact q t d m H4 ⟨by walk_at "sm", n4.at_, .inr n2.fr, by walk_at "hh", Same.free (show Same H H2 by walk_at "sm") n3.fr, by walk_at "hh"⟩
  | copy n k =>
    simp only [R.vs] at hb2
    walk_at "rd"
    refine r_law_done (e := e) (r := .copy n k) (by walk_at "hh") (by walk_at "hh") rfl he hi ho hz fun d H2 n2 => ?_
    walk_at "rd"
    rw [law_told_eq]
    refine r_told_by (e := e) (r := .copy n k) (by walk_at "hh") (by walk_at "hh") rfl hi fun m H3 n3 => ?_
    walk_at "rd"
    refine ⟨show 3 ≤ sizeLine by decide, fun t H4 n4 => ?_⟩
    exact q t d m H4 ⟨by walk_at "sm", n4.at_, .inr n2.fr, by walk_at "hh", Same.free (show Same H H2 by walk_at "sm") n3.fr, by walk_at "hh"⟩
  | work w n x y =>
    simp only [R.vs] at hb2
    have h1 : ¬ w.s = "jump" := by cases w <;> decide +kernel
    have h2 : ¬ w.s = "zero" := by cases w <;> decide +kernel
    walk_at "rd"
    refine r_law_done (e := e) (r := .work w n x y) (by walk_at "hh") (by walk_at "hh") rfl he hi ho hz fun d H2 n2 => ?_
    walk_at "rd"
    rw [law_told_eq]
    refine r_told_by (e := e) (r := .work w n x y) (by walk_at "hh") (by walk_at "hh") rfl hi fun m H3 n3 => ?_
    walk_at "rd"
    refine ⟨show 3 ≤ sizeLine by decide, fun t H4 n4 => ?_⟩
    exact q t d m H4 ⟨by walk_at "sm", n4.at_, .inr n2.fr, by walk_at "hh", Same.free (show Same H H2 by walk_at "sm") n3.fr, by walk_at "hh"⟩
  | tell s =>
    simp only [R.vs] at hb2
    walk_at "rd"
    refine r_law_done (e := e) (r := .tell s) (by walk_at "hh") (by walk_at "hh") rfl he hi ho hz fun d H2 n2 => ?_
    walk_at "rd"
    rw [law_told_eq]
    refine r_told_by (e := e) (r := .tell s) (by walk_at "hh") (by walk_at "hh") rfl hi fun m H3 n3 => ?_
    walk_at "rd"
    refine ⟨show 3 ≤ sizeLine by decide, fun t H4 n4 => ?_⟩
    exact q t d m H4 ⟨by walk_at "sm", n4.at_, .inr n2.fr, by walk_at "hh", Same.free (show Same H H2 by walk_at "sm") n3.fr, by walk_at "hh"⟩
  | stop => cases hs
  | guard _ _ _ _ _ => cases hg

end Tf

namespace Tf
open PySem L2
local macro_rules | `(tactic| walk_at "hl") => `(tactic| first
  | assumption
  | exact SqL.of (by walk_at "hh")
  | exact Same.seq (New.sm (by assumption)) (by walk_at "hl")
  | exact Same.seq (NewX.sm (by assumption)) (by walk_at "hl")
  | exact Same.seq (by assumption) (by walk_at "hl"))
local macro_rules | `(tactic| walk_at "ht") => `(tactic| first
  | assumption
  | exact SqT.of (by walk_at "hh")
  | exact Same.tup (New.sm (by assumption)) (by walk_at "ht")
  | exact Same.tup (NewX.sm (by assumption)) (by walk_at "ht")
  | exact Same.tup (by assumption) (by walk_at "ht"))
local macro_rules | `(tactic| walk_at "hr") => `(tactic| first
  | assumption
  | exact Or.inl (by walk_at "hh")
  | exact Same.rd (New.sm (by assumption)) (by walk_at "hr")
  | exact Same.rd (NewX.sm (by assumption)) (by walk_at "hr")
  | exact Same.rd (by assumption) (by walk_at "hr"))
local macro_rules | `(tactic| walk_at "hh") => `(tactic| first
  | assumption
  | exact New.at_ (by assumption)
  | exact NewX.at_ (by assumption)
  | exact Wr.at_ (by assumption)
  | exact Same.get (New.sm (by assumption)) (by walk_at "hh")
  | exact Same.get (NewX.sm (by assumption)) (by walk_at "hh")
  | exact Same.get (by assumption) (by walk_at "hh"))
local macro_rules | `(tactic| walk_at "sm") => `(tactic| first
  | exact Same.refl _
  | assumption
  | exact Same.tr2 (New.sm (by assumption)) (by walk_at "sm")
  | exact Same.tr2 (NewX.sm (by assumption)) (by walk_at "sm")
  | exact Same.tr2 (by assumption) (by walk_at "sm"))
local macro_rules | `(tactic| walk_at "ix") => `(tactic| with_reducible first | exact at0 | exact at1 | exact at2 | exact at3 | exact at4 | exact at5 | exact at6 | exact at7)
local macro_rules | `(tactic| walk_at "tyx") => `(tactic| first
  | exact TyX.base (TyOf.int _) | exact TyX.base (TyOf.str _) | exact TyX.base (TyOf.bl _) | exact TyX.base TyOf.non
  | exact TyX.base (TyOf.lst (by walk_at "hh")) | exact TyX.base (TyOf.tup (by walk_at "hh")) | exact TyX.base (TyOf.dK (by walk_at "hh")))
local macro_rules | `(tactic| walk_at "cond") => `(tactic| first | assumption | exact rfl | decide +kernel | omega | (simp only [List.length_cons, List.length_nil]; omega))
local macro_rules | `(tactic| walk_at "rd1") => `(tactic| first
  | with_reducible refine Rd.go ?_
  | ((with_reducible refine' k_var ?rdh ?_); (case rdh => exact rfl))
  | ((with_reducible refine' k_gt2 ?rdh ?_); (case rdh => walk_at "ht"))
  | ((with_reducible refine' v_mod ?rdh ?_); (case rdh => first | decide | omega))
  | ((with_reducible refine' v_fdiv ?rdh ?_); (case rdh => exact ⟨by decide, by decide⟩))
  | ((with_reducible refine' v_mulI ?rdh ?_); (case rdh => first | exact .inl ⟨by omega, by omega⟩ | exact .inr ⟨by omega, by omega⟩))
  | ((with_reducible refine' v_isiT ?rdh ?rdk ?_); (case rdh => walk_at "tyx"); (case rdk => decide +kernel))
  | ((with_reducible refine' v_isiF ?rdh ?rdk ?_); (case rdh => walk_at "tyx"); (case rdk => decide +kernel))
  | ((with_reducible refine' v_ixT ?rdh ?rdk ?_); (case rdh => walk_at "ht"); (case rdk => walk_at "ix"))
  | ((with_reducible refine' v_ixL ?rdh ?rdk ?_); (case rdh => walk_at "hl"); (case rdk => walk_at "ix"))
  | ((with_reducible refine' v_lenL ?rdh ?_); (case rdh => walk_at "hl"))
  | ((with_reducible refine' v_lenT ?rdh ?_); (case rdh => walk_at "ht"))
  | ((with_reducible refine' v_lenD ?rdh ?_); (case rdh => walk_at "hh"))
  | ((with_reducible refine' i_dT ?rdh ?_); (case rdh => walk_at "cond"))
  | ((with_reducible refine' i_dF ?rdh ?_); (case rdh => walk_at "cond"))
  | ((with_reducible refine' i_nT ?rdh ?_); (case rdh => walk_at "cond"))
  | ((with_reducible refine' i_nF ?rdh ?_); (case rdh => walk_at "cond"))
  | ((with_reducible refine' i_bT ?rdh ?_); (case rdh => first | assumption | decide +kernel))
  | ((with_reducible refine' i_bF ?rdh ?_); (case rdh => first | assumption | decide +kernel)))
local macro_rules | `(tactic| walk_at "rd") => `(tactic| repeat walk_at "rd1")

variable {g : En} {H H0 : Hp} {Q : VK} {E : XK} {a b p l d : Addr} {e e1 e2 : En0} {r : R} {rs : List R} {σ : L2.St}
/-! ## all names of a program -/
def Src.ns : Src → List Str
  | .num _ => []
  | .nm s => [s]
def R.ns : R → List Str
  | .put n _ => [n]
  | .copy n s => n :: s.ns
  | .work _ n x y => n :: (x.ns ++ y.ns)
  | .tell s => s.ns
  | .zero n _ => [n]
  | _ => []
def stepV (e : En0) (v : V) : En0 := match v with
  | .str n => putE e n 0
  | _ => e
def allR (e : En0) (r : R) : En0 := r.ns.foldl (fun e n => putE e n 0) e
def allE (rs : List R) : En0 := rs.foldl allR []
theorem stepV_src (e : En0) (s : Src) : stepV e s.v = s.ns.foldl (fun e n => putE e n 0) e := by cases s <;> rfl
theorem allR_vs (e : En0) (r : R) (h : isG r = false) : (r.vs.drop 1).foldl stepV e = allR e r := by
  cases r with
  | put n k => rfl
  | copy n s => show stepV (stepV e (.str n)) s.v = _; rw [stepV_src]; rfl
  | work w n x y => show stepV (stepV (stepV e (.str n)) x.v) y.v = _; rw [stepV_src, stepV_src]; unfold allR; simp only [R.ns, List.foldl_cons, List.foldl_append]; rfl
  | tell s => show stepV e s.v = _; rw [stepV_src]; rfl
  | jump p => rfl
  | zero n p => rfl
  | stop => rfl
  | guard _ _ _ _ _ => cases h
theorem cut1 (xs : List V) (h : xs ≠ []) : cutV xs (some 1) none = xs.drop 1 := by
  unfold cutV
  have e : HT.sIx xs.length 0 (some 1) = 1 := by
    rw [show HT.sIx xs.length 0 (some 1) = min 1 xs.length from HT.sIx_nat xs.length 0 1]
    cases xs with
    | nil => exact absurd rfl h
    | cons x r => rw [List.length_cons]; omega
  rw [e, HT.sIx_none, ← List.length_drop]
  exact List.take_length
theorem vs_ne (r : R) (h : isG r = false) : r.vs ≠ [] := by cases r <;> first | (intro z; cases z; done) | cases h
theorem foldl_snoc {α β : Type} (f : β → α → β) (b : β) (l : List α) (i : Nat) (x : α) (h : l[i]? = some x) : (l.take (i + 1)).foldl f b = f ((l.take i).foldl f b) x := by
  rw [List.take_add_one, h, List.foldl_append]
  rfl
theorem take_le {α : Type} (l : List α) (i : Nat) : (l.take i).length ≤ l.length := by rw [List.length_take]; omega
theorem putE_len (e : En0) (n : Str) (v : Int) : (putE e n v).length ≤ e.length + 1 := by
  unfold putE
  split
  · rw [List.length_map]; omega
  · rw [List.length_append]; exact Nat.le_refl _
theorem stepV_len (xs : List V) : ∀ e : En0, (xs.foldl stepV e).length ≤ e.length + xs.length := by
  induction xs with
  | nil => intro e; exact Nat.le_refl _
  | cons x r ih =>
    intro e
    have h1 := ih (stepV e x)
    have h2 : (stepV e x).length ≤ e.length + 1 := by
      cases x <;> first | exact putE_len _ _ _ | exact Nat.le_succ _
    rw [List.foldl_cons, List.length_cons]
    omega
theorem vs_len (r : R) : r.vs.length ≤ 4 := by cases r <;> show _ ≤ 4 <;> simp [R.vs]
theorem allR_len (e : En0) (r : R) : (allR e r).length ≤ e.length + 3 := by
  have go : ∀ (l : List Str) (e : En0), (l.foldl (fun e n => putE e n 0) e).length ≤ e.length + l.length := fun l => by
    induction l with
    | nil => intro e; exact Nat.le_refl _
    | cons x r ih =>
      intro e
      have h1 := ih (putE e x 0)
      have h2 := putE_len e x 0
      rw [List.foldl_cons, List.length_cons]
      omega
  have h1 := go r.ns e
  have h2 : r.ns.length ≤ 3 := by
    have sl : ∀ s : Src, s.ns.length ≤ 1 := fun s => by cases s <;> simp [Src.ns]
    cases r with
    | copy n s => have := sl s; simp [R.ns]; omega
    | work w n x y => have := sl x; have := sl y; simp [R.ns]; omega
    | tell s => have := sl s; simp [R.ns]; omega
    | _ => simp [R.ns]
  unfold allR
  omega
theorem allE_len (rs : List R) : ∀ e : En0, (rs.foldl allR e).length ≤ e.length + 3 * rs.length := by
  induction rs with
  | nil => intro e; exact Nat.le_refl _
  | cons r t ih =>
    intro e
    have h1 := ih (allR e r)
    have h2 := allR_len e r
    rw [List.foldl_cons, List.length_cons]
    omega
/-- the values of rows: ints and texts alone -/
theorem flat_vs (r : R) (v : V) (h : v ∈ r.vs) : (∃ i, v = .int i) ∨ ∃ s, v = .str s := by
  have sv : ∀ s : Src, (∃ i, s.v = .int i) ∨ ∃ z, s.v = .str z := fun s => by cases s <;> first | exact .inl ⟨_, rfl⟩ | exact .inr ⟨_, rfl⟩
  cases r <;> simp only [R.vs, List.mem_cons, List.not_mem_nil, or_false] at h
  case put => rcases h with rfl | rfl | rfl <;> first | exact .inl ⟨_, rfl⟩ | exact .inr ⟨_, rfl⟩
  case copy => rcases h with rfl | rfl | rfl <;> first | exact .inl ⟨_, rfl⟩ | exact .inr ⟨_, rfl⟩ | exact sv _
  case work => rcases h with rfl | rfl | rfl | rfl <;> first | exact .inl ⟨_, rfl⟩ | exact .inr ⟨_, rfl⟩ | exact sv _
  case tell => rcases h with rfl | rfl <;> first | exact .inr ⟨_, rfl⟩ | exact sv _
  case jump => rcases h with rfl | rfl <;> first | exact .inl ⟨_, rfl⟩ | exact .inr ⟨_, rfl⟩
  case zero => rcases h with rfl | rfl | rfl <;> first | exact .inl ⟨_, rfl⟩ | exact .inr ⟨_, rfl⟩
  case stop => subst h; exact .inr ⟨_, rfl⟩
theorem r_law_all (hl : RowsAt H l rs) (hg : ∀ r ∈ rs, isG r = false) (hz : rs.length ≤ 200) (q : ∀ p H2, NewX H p (.dK (encE (allE rs))) H2 → Q (.ref p) H2) : sp_law_all g [.ref l] H Q E := by
  refine ⟨_, rfl, ?_⟩
  unfold t_law_all
  obtain ⟨vs, hv, hR⟩ := hl
  walk_at "rd"
  intro d H1 n1
  walk_at "rd"
  refine v_forL (xs := vs) (by walk_at "hl") (fun i σ' H' => ∃ x y, σ' = [some (.ref l), some (.ref d), x, y] ∧ NewX H d (.dK (encE ((rs.take i).foldl allR []))) H') ⟨_, _, rfl, n1.x⟩ (fun i σ' H' ⟨_, _, _, n⟩ => SqL.of (n.sm _ _ hv)) ?_ ?_
  · rintro i x σ' H' hi ⟨x0, y0, rfl, n⟩
    obtain ⟨r, hr, b, rfl, hO⟩ := All2.get hR hi
    have hb := rowO_vs (hO.tk (Same.tk n.sm)) (hg r (List.mem_of_getElem? hr))
    have hgr := hg r (List.mem_of_getElem? hr)
    walk_at "rd"
    refine v_slT hb fun p2 H2 s2 h2 el2 => ?_
    rw [cut1 _ (vs_ne r hgr)] at h2
    have n2 : NewX H d (.dK (encE ((rs.take i).foldl allR []))) H2 := n.up s2
    refine v_forT (xs := r.vs.drop 1) (SqT.of h2) (fun j σ' H' => ∃ y, σ' = [some (.ref l), some (.ref d), some (.ref b), y] ∧ NewX H d (.dK (encE (((r.vs.drop 1).take j).foldl stepV ((rs.take i).foldl allR [])))) H' ∧ Tk H2 H') ⟨_, rfl, n2, Tk.refl _⟩ (fun j σ' H' ⟨_, _, _, t⟩ => SqT.of (t _ _ rfl h2)) ?_ ?_
    · rintro j v σ' H' hj ⟨y, rfl, n3, t3⟩
      have hmem : v ∈ r.vs := List.mem_of_mem_drop (List.mem_of_getElem? hj)
      have step : ((r.vs.drop 1).take (j + 1)).foldl stepV ((rs.take i).foldl allR []) = stepV (((r.vs.drop 1).take j).foldl stepV ((rs.take i).foldl allR [])) v := foldl_snoc _ _ _ _ _ hj
      have szE : (encE (((r.vs.drop 1).take j).foldl stepV ((rs.take i).foldl allR []))).length < sizeLine := by
        rw [encE_len]
        have h1 := stepV_len ((r.vs.drop 1).take j) ((rs.take i).foldl allR [])
        have h2 := allE_len (rs.take i) []
        have h3 := take_le (r.vs.drop 1) j
        have h4 := take_le rs i
        have h5 := vs_len r
        have h7 : (r.vs.drop 1).length = r.vs.length - 1 := List.length_drop
        have h6 : ([] : En0).length = 0 := rfl
        exact small_sz (by omega)
      rcases flat_vs r v hmem with ⟨z, rfl⟩ | ⟨z, rfl⟩
      · walk_at "rd"
        exact ⟨_, rfl, by rw [step]; exact n3, t3⟩
      · walk_at "rd"
        refine e_put n3.at_ szE fun H4 w4 => ?_
        rw [putK_encE] at w4
        exact ⟨_, rfl, by rw [step]; exact Wr.newX n3 w4, t3.trans (w4.tk n3.at_ rfl)⟩
    · rintro σ' H' ⟨y, rfl, n3, _⟩
      rw [List.take_length, allR_vs _ _ hgr] at n3
      exact ⟨_, _, rfl, by rw [foldl_snoc _ _ _ _ _ hr]; exact n3⟩
  · rintro σ' H' ⟨x, y, rfl, n⟩
    rw [hR.len, List.take_length] at n
    walk_at "rd"
    exact q d H' n

/-! ## what was answered is what is due -/
/-- the same numbers under the same names, in any order -/
structure EqvE (e1 e2 : En0) : Prop where
  len : e1.length = e2.length
  sub : ∀ p ∈ e1, lkE e2 p.1 = some p.2
  rev : ∀ n ∈ keys e2, n ∈ keys e1
theorem lkE_self {e : En0} (h : (keys e).Nodup) {p : Str × Int} (hp : p ∈ e) : lkE e p.1 = some p.2 := by
  induction e with
  | nil => cases hp
  | cons q r ih =>
    have h' : (q.1 :: r.map (·.1)).Nodup := h
    obtain ⟨h1, h2⟩ := List.nodup_cons.mp h'
    unfold lkE
    rcases List.mem_cons.mp hp with rfl | hp
    · rw [List.find?_cons_of_pos (by simp)]
      rfl
    · have : ¬ q.1 = p.1 := fun e => h1 (by rw [e]; exact List.mem_map.mpr ⟨p, hp, rfl⟩)
      rw [List.find?_cons_of_neg (by simpa using this)]
      exact ih h2 hp
theorem EqvE.refl {e : En0} (h : (keys e).Nodup) : EqvE e e := ⟨rfl, fun _ hp => lkE_self h hp, fun _ h => h⟩
theorem eqv_dicts {K : PySem.W.Frag} (v : EqvE e1 e2) (ha : H a = some (.dK (encE e1))) (hb : H b = some (.dK (encE e2))) {n : Nat} : EqR K H (EqW K H n) (.ref a) (.ref b) := by
  refine .inr (.inr ⟨a, b, _, _, rfl, rfl, ha, hb, by rw [encE_len, encE_len]; exact v.len, fun p hp => ?_⟩)
  obtain ⟨q, hq, rfl⟩ := List.mem_map.mp hp
  refine ⟨.int q.2, by rw [valV_encE, v.sub q hq]; rfl, ?_⟩
  cases n with
  | zero => exact .inl ⟨rfl, rfl⟩
  | succ n => exact .inl ⟨rfl, rfl⟩
theorem r_law_whole {i : Int} (q : Q (.bl true) H) : sp_law_whole g [.int i] H Q E := by
  refine ⟨_, rfl, ?_⟩
  unfold t_law_whole
  walk_at "rd"
  exact q
theorem k_lockE {t : TE} (h : ∃ d u, H d = some u ∧ Mut (some u) ∧ ∀ od, t σ (upd H d (.frz od u)) fun v H' => H' d = some (.frz od u) ∧ Q v (upd H' d u)) : tLockE t σ H Q := h
theorem v_allT {K : PySem.W.Frag} {n : Nat} {p : Addr} (h : SqL K H p (List.replicate n (V.bl true))) (q : Q (.bl true) H) : rAll K [.ref p] H Q := by
  refine v_all (bs := List.replicate n true) (by rw [List.map_replicate]; exact h) ?_
  have e : (List.replicate n true).all id = true := List.all_eq_true.mpr fun x hx => (List.mem_replicate.mp hx).2
  rw [e]
  exact q
theorem k_lcK {te : TE} {k j : Nat} {od : Obj} {kvs : List (Key × V)} {ys : List V} (hσ : σ[j]? = some (some (.ref d))) (hd : H d = some (.frz od (.dK kvs))) (hl : ys.length = kvs.length) (hz : kvs.length ≤ 1000)
    (each : ∀ (i : Nat) x v y H', kvs[i]? = some (x, v) → ys[i]? = some y → Same H H' → ∀ Q' : VK, (∀ H2, Same H' H2 → Q' y H2) → te ((wipe σ [k]).set k (some (kV x))) H' Q')
    (q : ∀ D H2, NewX H D (.lst ys) H2 → Q (.ref D) H2) : tLc (iKeys (tVar j)) (gName k) tYes te [k] σ H Q := by
  refine ⟨_, hσ, d, od, rfl, .inl ⟨kvs, hd, fun D nD => ?_⟩⟩
  refine ⟨fun i m H' => m = kvs.length - i ∧ i ≤ kvs.length ∧ NewX H D (.lst (ys.take i)) H', ⟨kvs.length, rfl, Nat.zero_le _, nD, (new_upd nD).sm, by rw [upd_same]; rfl⟩, ?_⟩
  rintro i m H' ⟨rfl, hi, n⟩
  have hdH : H' d = some (.frz od (.dK kvs)) := n.sm _ _ hd
  by_cases c : i < kvs.length
  · refine .inr ⟨⟨hdH, c⟩, fun H2 => NewX H D (.lst (ys.take (i + 1))) H2, fun H2 n2 => ⟨kvs.length - (i + 1), by omega, rfl, by omega, n2⟩, ?_⟩
    rintro x H2 ⟨rfl, k1, v1, hk, rfl⟩
    have hi2 : i < ys.length := by omega
    have hy : ys[i]? = some ys[i] := List.getElem?_eq_getElem hi2
    refine ⟨wipe1, k_yes ?_⟩
    refine i_T ?_
    refine each i k1 v1 _ H2 hk hy n.sm _ fun H3 s3 => ⟨_, s3 _ _ n.at_, ?_, ?_⟩
    · have := take_le ys i
      exact small_sz (by omega)
    · rw [List.take_add_one, hy]
      exact Wr.newX (n.up s3) wr_upd
  · have e : i = ys.length := by omega
    refine .inl ⟨⟨hdH, by omega⟩, ?_⟩
    rw [e, List.take_length] at n
    exact q D H' n
/-- the names' numbers are asked one by one, the dict of the names locked meanwhile -/
theorem r_law_numbers (v : EqvE e1 e2) (hz : e2.length ≤ 300) (ne : a ≠ b) (ha : H a = some (.dK (encE e1))) (hb : H b = some (.dK (encE e2))) (q : ∀ H2, Same H H2 → Q (.bl true) H2) : sp_law_numbers g [.ref a, .ref b] H Q E := by
  refine ⟨_, _, rfl, ?_⟩
  unfold t_law_numbers
  walk_at "rd"
  refine i_nT (by rw [encE_len, encE_len, v.len]) ?_
  walk_at "rd"
  refine .inr (.inr ⟨3, by decide, eqv_dicts v ha hb, ?_⟩)
  walk_at "rd"
  refine k_lockE ⟨b, _, hb, trivial, fun od => ?_⟩
  have hb' : (upd H b (.frz od (.dK (encE e2)))) b = some (.frz od (.dK (encE e2))) := upd_same
  have ha' : (upd H b (.frz od (.dK (encE e2)))) a = some (.dK (encE e1)) := by rw [upd_ne ne]; exact ha
  refine k_lcK (ys := List.replicate e2.length (V.bl true)) rfl hb' (by rw [List.length_replicate, encE_len]) (by rw [encE_len]; omega) ?_ ?_
  · intro i x w y H' hx hy s1 Q' q'
    have ey : y = .bl true := (List.mem_replicate.mp (List.mem_of_getElem? hy)).2
    subst ey
    obtain ⟨p, hp, he⟩ := List.mem_map.mp (List.mem_of_getElem? hx)
    cases he
    obtain ⟨z, hz⟩ := lkE_mem (v.rev p.1 (List.mem_map.mpr ⟨p, hp, rfl⟩))
    refine k_call ?_
    simp only [kV, wipe]
    walk_at "rd"
    refine v_ixDS (.inl (s1 _ _ ha')) (by rw [valV_encE, hz]; rfl) ?_
    walk_at "rd"
    exact r_law_whole (q' H' (Same.refl _))
  · intro D H2 n
    have back : Same H (upd H2 b (.dK (encE e2))) := fun c o h => by
      by_cases e : c = b
      · subst e
        rw [hb] at h
        cases h
        exact upd_same
      · rw [upd_ne e]
        exact n.sm _ _ (by rw [upd_ne e]; exact h)
    refine ⟨n.sm _ _ hb', ?_⟩
    have hD : (upd H2 b (.dK (encE e2))) D = some (.lst (List.replicate e2.length (V.bl true))) := by
      rw [upd_ne (fun e => by have := n.fr; rw [e, hb'] at this; cases this)]
      exact n.at_
    walk_at "rd"
    refine v_allT (SqL.of hD) ?_
    exact q _ back
theorem r_law_list {ns : List Int} (hz : ns.length ≤ 1000) (ha : H a = some (.lst (ns.map V.int))) (hb : H b = some (.lst (ns.map V.int))) (q : ∀ H2, Same H H2 → Q (.bl true) H2) : sp_law_list g [.ref a, .ref b] H Q E := by
  refine ⟨_, _, rfl, ?_⟩
  unfold t_law_list
  walk_at "rd"
  refine .inr (.inr ⟨0, by decide, .inl ⟨a, b, _, _, rfl, rfl, SqL.of ha, SqL.of hb, All2.paired ⟨rfl, fun i x y h1 h2 => ?_⟩⟩, ?_⟩)
  · rw [h1] at h2
    cases h2
    obtain ⟨z, _, rfl⟩ := List.mem_map.mp (List.mem_of_getElem? h1)
    exact .inl ⟨rfl, rfl⟩
  walk_at "rd"
  refine v_lcLs (xs := ns.map V.int) (ys := List.replicate ns.length (V.bl true)) (SqL.of ha) (by simp) (by simpa using hz) ?_ ?_
  · intro i x y H' hx hy s1 Q' q'
    have ey : y = .bl true := (List.mem_replicate.mp (List.mem_of_getElem? hy)).2
    subst ey
    obtain ⟨z, _, rfl⟩ := List.mem_map.mp (List.mem_of_getElem? hx)
    simp only [wipe]
    walk_at "rd"
    exact r_law_whole (q' H' (Same.refl _))
  · intro D H2 n
    walk_at "rd"
    refine v_allT (SqL.of n.at_) ?_
    exact q _ n.sm
theorem r_law_alike {vs : List V} (hr : ∀ v ∈ vs, ∃ p, v = .ref p) (ha : H a = some (.lst vs)) (hb : H b = some (.lst vs)) (q : ∀ H2, Same H H2 → Q (.bl true) H2) : sp_law_alike g [.ref a, .ref b] H Q E := by
  refine ⟨_, _, rfl, ?_⟩
  unfold t_law_alike
  walk_at "rd"
  refine .inr (.inr ⟨0, by decide, .inl ⟨a, b, _, _, rfl, rfl, SqL.of ha, SqL.of hb, All2.paired ⟨rfl, fun i x y h1 h2 => ?_⟩⟩, ?_⟩)
  · rw [h1] at h2
    cases h2
    obtain ⟨p, rfl⟩ := hr x (List.mem_of_getElem? h1)
    exact .inr ⟨p, rfl, rfl⟩
  exact q H (Same.refl _)

end Tf

namespace Tf
open PySem L2
local macro_rules | `(tactic| walk_at "hl") => `(tactic| first
  | assumption
  | exact SqL.of (by walk_at "hh")
  | exact Same.seq (New.sm (by assumption)) (by walk_at "hl")
  | exact Same.seq (NewX.sm (by assumption)) (by walk_at "hl")
  | exact Same.seq (by assumption) (by walk_at "hl"))
local macro_rules | `(tactic| walk_at "ht") => `(tactic| first
  | assumption
  | exact SqT.of (by walk_at "hh")
  | exact Same.tup (New.sm (by assumption)) (by walk_at "ht")
  | exact Same.tup (NewX.sm (by assumption)) (by walk_at "ht")
  | exact Same.tup (by assumption) (by walk_at "ht"))
local macro_rules | `(tactic| walk_at "hr") => `(tactic| first
  | assumption
  | exact Or.inl (by walk_at "hh")
  | exact Same.rd (New.sm (by assumption)) (by walk_at "hr")
  | exact Same.rd (NewX.sm (by assumption)) (by walk_at "hr")
  | exact Same.rd (by assumption) (by walk_at "hr"))
local macro_rules | `(tactic| walk_at "hh") => `(tactic| first
  | assumption
  | exact New.at_ (by assumption)
  | exact NewX.at_ (by assumption)
  | exact Wr.at_ (by assumption)
  | exact Same.get (New.sm (by assumption)) (by walk_at "hh")
  | exact Same.get (NewX.sm (by assumption)) (by walk_at "hh")
  | exact Same.get (by assumption) (by walk_at "hh"))
local macro_rules | `(tactic| walk_at "sm") => `(tactic| first
  | exact Same.refl _
  | assumption
  | exact Same.tr2 (New.sm (by assumption)) (by walk_at "sm")
  | exact Same.tr2 (NewX.sm (by assumption)) (by walk_at "sm")
  | exact Same.tr2 (by assumption) (by walk_at "sm"))
local macro_rules | `(tactic| walk_at "ix") => `(tactic| with_reducible first | exact at0 | exact at1 | exact at2 | exact at3 | exact at4 | exact at5 | exact at6 | exact at7)
local macro_rules | `(tactic| walk_at "tyx") => `(tactic| first
  | exact TyX.base (TyOf.int _) | exact TyX.base (TyOf.str _) | exact TyX.base (TyOf.bl _) | exact TyX.base TyOf.non
  | exact TyX.base (TyOf.lst (by walk_at "hh")) | exact TyX.base (TyOf.tup (by walk_at "hh")) | exact TyX.base (TyOf.dK (by walk_at "hh")))
local macro_rules | `(tactic| walk_at "cond") => `(tactic| first | assumption | exact rfl | decide +kernel | omega | (simp only [List.length_cons, List.length_nil]; omega))
local macro_rules | `(tactic| walk_at "rd1") => `(tactic| first
  | with_reducible refine Rd.go ?_
  | ((with_reducible refine' k_var ?rdh ?_); (case rdh => exact rfl))
  | ((with_reducible refine' k_gt2 ?rdh ?_); (case rdh => walk_at "ht"))
  | ((with_reducible refine' v_mod ?rdh ?_); (case rdh => first | decide | omega))
  | ((with_reducible refine' v_fdiv ?rdh ?_); (case rdh => exact ⟨by decide, by decide⟩))
  | ((with_reducible refine' v_mulI ?rdh ?_); (case rdh => first | exact .inl ⟨by omega, by omega⟩ | exact .inr ⟨by omega, by omega⟩))
  | ((with_reducible refine' v_isiT ?rdh ?rdk ?_); (case rdh => walk_at "tyx"); (case rdk => decide +kernel))
  | ((with_reducible refine' v_isiF ?rdh ?rdk ?_); (case rdh => walk_at "tyx"); (case rdk => decide +kernel))
  | ((with_reducible refine' v_ixT ?rdh ?rdk ?_); (case rdh => walk_at "ht"); (case rdk => walk_at "ix"))
  | ((with_reducible refine' v_ixL ?rdh ?rdk ?_); (case rdh => walk_at "hl"); (case rdk => walk_at "ix"))
  | ((with_reducible refine' v_lenL ?rdh ?_); (case rdh => walk_at "hl"))
  | ((with_reducible refine' v_lenT ?rdh ?_); (case rdh => walk_at "ht"))
  | ((with_reducible refine' v_lenD ?rdh ?_); (case rdh => walk_at "hh"))
  | ((with_reducible refine' i_dT ?rdh ?_); (case rdh => walk_at "cond"))
  | ((with_reducible refine' i_dF ?rdh ?_); (case rdh => walk_at "cond"))
  | ((with_reducible refine' i_nT ?rdh ?_); (case rdh => walk_at "cond"))
  | ((with_reducible refine' i_nF ?rdh ?_); (case rdh => walk_at "cond"))
  | ((with_reducible refine' i_bT ?rdh ?_); (case rdh => first | assumption | decide +kernel))
  | ((with_reducible refine' i_bF ?rdh ?_); (case rdh => first | assumption | decide +kernel)))
local macro_rules | `(tactic| walk_at "rd") => `(tactic| repeat walk_at "rd1")

variable {g : En} {H H0 : Hp} {Q : VK} {E : XK} {a b p l d : Addr} {e e1 e2 : En0} {r : R} {rs : List R} {σ : L2.St}
theorem r_law_stepped {t1 t2 d1 d2 l1 l2 : Addr} {np : Int} {ns : List Int} (nd : (keys e).Nodup) (hz : e.length ≤ 300) (hn : ns.length ≤ 1000) (ne : d1 ≠ d2) (h1 : H t1 = some (.tup [.int np, .ref d1, .ref l1])) (h2 : H t2 = some (.tup [.int np, .ref d2, .ref l2]))
    (hd1 : H d1 = some (.dK (encE e))) (hd2 : H d2 = some (.dK (encE e))) (hl1 : H l1 = some (.lst (ns.map V.int))) (hl2 : H l2 = some (.lst (ns.map V.int))) (q : ∀ H2, Same H H2 → Q (.bl true) H2) : sp_law_stepped g [.ref t1, .ref t2] H Q E := by
  refine ⟨_, _, rfl, ?_⟩
  unfold t_law_stepped
  walk_at "rd"
  refine r_law_whole ?_
  walk_at "rd"
  refine r_law_numbers (EqvE.refl nd) hz ne hd1 hd2 fun H2 s2 => ?_
  walk_at "rd"
  refine r_law_list hn (s2 _ _ hl1) (s2 _ _ hl2) fun H3 s3 => ?_
  exact q H3 (Same.trans s2 s3)
/-! ## what the script tells -/
def cellv (ns : List Int) (k : Int) : Int := if k < ns.length then (ns[k.toNat]?).getD 0 else 0
theorem ints_at {ns : List Int} {k : Int} (h0 : 0 ≤ k) (h : k < (ns.length : Int)) : atI (ns.map V.int) k = some (V.int (cellv ns k)) := by
  have hj : k.toNat < ns.length := by omega
  have e : k = (k.toNat : Int) := by omega
  unfold cellv
  rw [if_pos h]
  rw [e]
  refine atI_nat ?_
  rw [List.getElem?_map, ← e, List.getElem?_eq_getElem hj]
  rfl
theorem r_law_cell_at {k : Int} {ns : List Int} (hS : SqL g.K H a (ns.map V.int)) (h0 : 0 ≤ k) (q : Q (.int (cellv ns k)) H) : sp_law_cell_at g [.ref a, .int k] H Q E := by
  refine ⟨_, _, rfl, ?_⟩
  unfold t_law_cell_at
  walk_at "rd"
  refine i_d (fun h => ?_) (fun h => ?_) <;> rw [List.length_map] at h
  · walk_at "rd"
    refine v_ixL hS (ints_at h0 h) ?_
    exact q
  · walk_at "rd"
    have e : cellv ns k = 0 := if_neg h
    rw [e] at q
    exact q
/-- some number within the bound -/
theorem r_law_number {c : Int} (q : ∀ z, 0 ≤ z ∧ z < 1000000 → Q (.int z) H) : sp_law_number g [.int c] H Q E := by
  refine ⟨_, rfl, ?_⟩
  unfold t_law_number
  walk_at "rd"
  refine i_d (fun h => ?_) (fun h => ?_)
  · walk_at "rd"
    exact q _ (by omega)
  · walk_at "rd"
    refine i_d (fun h => ?_) (fun h => ?_)
    · walk_at "rd"
      exact q _ (by omega)
    · walk_at "rd"
      exact q _ (by omega)
/-! ## six names -/
def wordOk (s : Str) : Prop := 0 < s.length ∧ s.length ≤ 8 ∧ ∀ c ∈ s.cps.toList, 97 ≤ c ∧ c ≤ 122
/-- six words, all different -/
structure NamesOk (ns : List Str) : Prop where
  len : ns.length = 6
  nd : ns.Nodup
  ok : ∀ s ∈ ns, wordOk s
def abc : Str := "abcdefghijklmnopqrstuvwxyz"
theorem abc_at {i : Int} (h0 : 0 ≤ i) (h : i < 26) : atI abc.cps.toList i = some (97 + i.toNat) := by
  have : ∀ j : Nat, j < 26 → abc.cps.toList[j]? = some (97 + j) := by decide +kernel
  have e : i = (i.toNat : Int) := by omega
  rw [e]
  exact atI_nat (this _ (by omega))
def sg (c : Nat) : Str := ⟨#[c]⟩
def rep (s : Str) (n : Nat) : Str := ⟨(List.replicate n s.cps).foldl (· ++ ·) #[]⟩
theorem rep_list (c n : Nat) : (rep (sg c) n).cps.toList = List.replicate n c := by
  have : ∀ (n : Nat) (a : Array Nat), ((List.replicate n #[c]).foldl (· ++ ·) a).toList = a.toList ++ List.replicate n c := fun n => by
    induction n with
    | zero => intro a; simp
    | succ n ih => intro a; rw [List.replicate_succ, List.foldl_cons, ih]; simp [List.replicate_succ]
  show ((List.replicate n #[c]).foldl (· ++ ·) (#[] : Array Nat)).toList = _
  rw [this]
  rfl
theorem app_list (s t : Str) : (s ++ t).cps.toList = s.cps.toList ++ t.cps.toList := by
  show (s.cps ++ t.cps).toList = _
  simp
theorem str_eq {s t : Str} (h : s.cps.toList = t.cps.toList) : s = t := by
  cases s; cases t
  simp only at h
  rw [Array.toList_inj.mp h]
theorem str_len (s : Str) : s.length = s.cps.toList.length := by show s.cps.size = _; simp
/-- the k-th name -/
def nameA (q : Nat) (k : Nat) : Str := rep (sg q) (k + 1)
def nameB (x y q : Nat) (i j : Nat) : Str := (rep (sg x) i ++ sg q) ++ rep (sg y) j
theorem nameA_list (q k : Nat) : (nameA q k).cps.toList = List.replicate (k + 1) q := rep_list q (k + 1)
theorem nameB_list (x y q i j : Nat) : (nameB x y q i j).cps.toList = List.replicate i x ++ [q] ++ List.replicate j y := by
  unfold nameB
  rw [app_list, app_list, rep_list, rep_list]
  rfl
def nmK (c : Int) (k : Nat) : Str :=
  if c % 3 = 0 then nameA (97 + (c / 24 % 26).toNat) k
  else nameB (97 + (1 + c / 3 % 8).toNat) (97 + (1 + c / 3 % 8 + c % 3).toNat) (97 + ((c / 24 + 5 * (k : Int)) % 26).toNat) (c / 5 % (1 + c / 3 % 8)).toNat (1 + c / 3 % 8 - 1 - c / 5 % (1 + c / 3 % 8)).toNat
def nm6 (c : Int) : List Str := (List.range 6).map (nmK c)
theorem rep_mem {c n x : Nat} (h : x ∈ List.replicate n c) : x = c := (List.mem_replicate.mp h).2
theorem nmK_word (c : Int) (k : Nat) (hk : k < 6) : wordOk (nmK c k) := by
  have z0 : 0 ≤ c / 3 % 8 ∧ c / 3 % 8 < 8 := by omega
  have p0 : 0 ≤ c / 5 % (1 + c / 3 % 8) := Int.emod_nonneg _ (by omega)
  have p1 : c / 5 % (1 + c / 3 % 8) < 1 + c / 3 % 8 := Int.emod_lt_of_pos _ (by omega)
  unfold nmK
  by_cases h : c % 3 = 0
  · rw [if_pos h]
    refine ⟨?_, ?_, fun x hx => ?_⟩
    · rw [str_len, nameA_list, List.length_replicate]; omega
    · rw [str_len, nameA_list, List.length_replicate]; omega
    · rw [nameA_list] at hx
      have := rep_mem hx
      omega
  · rw [if_neg h]
    generalize c / 5 % (1 + c / 3 % 8) = pl at p0 p1
    refine ⟨?_, ?_, fun x hx => ?_⟩
    · rw [str_len, nameB_list]; simp; omega
    · rw [str_len, nameB_list]; simp; omega
    · rw [nameB_list] at hx
      rcases List.mem_append.mp hx with hx | hx
      · rcases List.mem_append.mp hx with hx | hx
        · have := rep_mem hx
          omega
        · have := List.mem_singleton.mp hx
          omega
      · have := rep_mem hx
        omega
theorem nmK_inj (c : Int) {k m : Nat} (hk : k < 6) (hm : m < 6) (e : nmK c k = nmK c m) : k = m := by
  unfold nmK at e
  by_cases h : c % 3 = 0
  · rw [if_pos h, if_pos h] at e
    have := congrArg (fun s : Str => s.cps.toList.length) e
    simp only [nameA_list, List.length_replicate] at this
    omega
  · rw [if_neg h, if_neg h] at e
    have := congrArg (fun s : Str => s.cps.toList) e
    simp only [nameB_list, List.append_assoc] at this
    have := List.append_cancel_left this
    have : 97 + ((c / 24 + 5 * (k : Int)) % 26).toNat = 97 + ((c / 24 + 5 * (m : Int)) % 26).toNat := by
      simpa using this
    omega
theorem nm6_ok (c : Int) : NamesOk (nm6 c) := by
  refine ⟨by simp [nm6], ?_, fun s hs => ?_⟩
  · unfold nm6
    refine List.pairwise_map.mpr ?_
    refine List.Pairwise.imp_of_mem (fun {a b} ha hb n e => n ?_) List.nodup_range
    exact nmK_inj c (List.mem_range.mp ha) (List.mem_range.mp hb) e
  · obtain ⟨k, hk, rfl⟩ := List.mem_map.mp hs
    exact nmK_word c k (List.mem_range.mp hk)
theorem rep_sg_len (c n : Nat) : (rep (sg c) n).length = n := by rw [str_len, rep_list, List.length_replicate]
theorem str_app_len (s t : Str) : (s ++ t).length = s.length + t.length := by rw [str_len, str_len, str_len, app_list, List.length_append]
theorem cat_len1 {a b i : Nat} (h : i ≤ 1000) : (rep (sg a) i).length + (sg b).length ≤ sizeLine := by
  rw [rep_sg_len]
  show i + 1 ≤ sizeLine
  exact Nat.le_trans (by omega : i + 1 ≤ 1001) (by decide)
theorem cat_len2 {a b y i j : Nat} (h : i ≤ 1000) (hj : j ≤ 1000) : (rep (sg a) i ++ sg b).length + (rep (sg y) j).length ≤ sizeLine := by
  rw [str_app_len, rep_sg_len, rep_sg_len]
  show i + 1 + j ≤ sizeLine
  exact Nat.le_trans (by omega : i + 1 + j ≤ 2001) (by decide)
theorem r_law_names {c : Int} (q : ∀ ns, NamesOk ns → ∀ p H2, NewX H p (.lst (ns.map V.str)) H2 → Q (.ref p) H2) : sp_law_names g [.int c] H Q E := by
  refine ⟨_, rfl, ?_⟩
  unfold t_law_names
  walk_at "rd"
  refine ⟨show 0 ≤ sizeLine by decide, fun d H1 n1 => ?_⟩
  walk_at "rd"
  refine v_forR1 (by decide) (by decide) (fun i σ' H' => ∃ x4 x5 x6 x7 x8, σ' = [some (.int c), some (.str abc), some (.int (1 + c / 3 % 8)), some (.ref d), x4, x5, x6, x7, x8] ∧ NewX H d (.lst (((List.range i).map (nmK c)).map V.str)) H') ⟨_, _, _, _, _, rfl, n1.x⟩ ?_ ?_
  · rintro i σ' H' hi ⟨x4, x5, x6, x7, x8, rfl, n⟩
    have hi6 : i < 6 := hi
    have z0 : 0 ≤ c / 3 % 8 ∧ c / 3 % 8 < 8 := by omega
    have p0 : 0 ≤ c / 5 % (1 + c / 3 % 8) := Int.emod_nonneg _ (by omega)
    have p1 : c / 5 % (1 + c / 3 % 8) < 1 + c / 3 % 8 := Int.emod_lt_of_pos _ (by omega)
    have fin : ∀ {H2 : Hp}, Wr H' d (.lst (((List.range i).map (nmK c)).map V.str ++ [V.str (nmK c i)])) H2 → NewX H d (.lst (((List.range (i + 1)).map (nmK c)).map V.str)) H2 := fun {H2} w => by
      rw [List.range_succ, List.map_append, List.map_append]
      exact Wr.newX n w
    have hz : (((List.range i).map (nmK c)).map V.str).length < sizeLine := by
      rw [List.length_map, List.length_map, List.length_range]
      exact small_sz (by omega)
    walk_at "rd"
    refine v_ixS (by decide +kernel) (abc_at (i := (c / 24 + 5 * (i : Int)) % 26) (by omega) (by omega)) ?_
    walk_at "rd"
    refine i_d (fun h => ?_) (fun h => ?_)
    · have ek : nmK c i = nameA (97 + (c / 24 % 26).toNat) i := by unfold nmK; rw [if_pos h]
      rw [ek] at fin
      walk_at "rd"
      refine ⟨ty_l n.at_, ?_⟩
      walk_at "rd"
      refine v_ixS (by decide +kernel) (abc_at (i := c / 24 % 26) (by omega) (by omega)) ?_
      walk_at "rd"
      refine v_mulS (by omega) (by omega) (show 1 ≤ 1000 by decide) ?_
      walk_at "rd"
      refine v_app n.at_ hz fun H2 w => ?_
      walk_at "rd"
      exact ⟨_, _, _, _, _, rfl, fin w⟩
    · have ek : nmK c i = nameB (97 + (1 + c / 3 % 8).toNat) (97 + (1 + c / 3 % 8 + c % 3).toNat) (97 + ((c / 24 + 5 * (i : Int)) % 26).toNat) (c / 5 % (1 + c / 3 % 8)).toNat (1 + c / 3 % 8 - 1 - c / 5 % (1 + c / 3 % 8)).toNat := by unfold nmK; rw [if_neg h]
      rw [ek] at fin
      walk_at "rd"
      refine v_ixS (by decide +kernel) (abc_at (i := 1 + c / 3 % 8) (by omega) (by omega)) ?_
      walk_at "rd"
      refine v_mulS (by omega) (by omega) (show 1 ≤ 1000 by decide) ?_
      walk_at "rd"
      refine v_ixS (by decide +kernel) (abc_at (i := 1 + c / 3 % 8 + c % 3) (by omega) (by omega)) ?_
      walk_at "rd"
      refine v_mulS (by omega) (by omega) (show 1 ≤ 1000 by decide) ?_
      walk_at "rd"
      refine ⟨ty_l n.at_, ?_⟩
      walk_at "rd"
      refine v_addS ?_ ?_
      · exact cat_len1 (by omega)
      walk_at "rd"
      refine v_addS ?_ ?_
      · exact cat_len2 (by omega) (by omega)
      walk_at "rd"
      refine v_app n.at_ hz fun H2 w => ?_
      walk_at "rd"
      exact ⟨_, _, _, _, _, rfl, fin w⟩
  · rintro σ' H' ⟨x4, x5, x6, x7, x8, rfl, n⟩
    walk_at "rd"
    exact q _ (nm6_ok c) d H' n

end Tf

namespace Tf
open PySem L2
local macro_rules | `(tactic| walk_at "hl") => `(tactic| first
  | assumption
  | exact SqL.of (by walk_at "hh")
  | exact Same.seq (New.sm (by assumption)) (by walk_at "hl")
  | exact Same.seq (NewX.sm (by assumption)) (by walk_at "hl")
  | exact Same.seq (by assumption) (by walk_at "hl"))
local macro_rules | `(tactic| walk_at "ht") => `(tactic| first
  | assumption
  | exact SqT.of (by walk_at "hh")
  | exact Same.tup (New.sm (by assumption)) (by walk_at "ht")
  | exact Same.tup (NewX.sm (by assumption)) (by walk_at "ht")
  | exact Same.tup (by assumption) (by walk_at "ht"))
local macro_rules | `(tactic| walk_at "hr") => `(tactic| first
  | assumption
  | exact Or.inl (by walk_at "hh")
  | exact Same.rd (New.sm (by assumption)) (by walk_at "hr")
  | exact Same.rd (NewX.sm (by assumption)) (by walk_at "hr")
  | exact Same.rd (by assumption) (by walk_at "hr"))
local macro_rules | `(tactic| walk_at "hh") => `(tactic| first
  | assumption
  | exact New.at_ (by assumption)
  | exact NewX.at_ (by assumption)
  | exact Wr.at_ (by assumption)
  | exact Same.get (New.sm (by assumption)) (by walk_at "hh")
  | exact Same.get (NewX.sm (by assumption)) (by walk_at "hh")
  | exact Same.get (by assumption) (by walk_at "hh"))
local macro_rules | `(tactic| walk_at "sm") => `(tactic| first
  | exact Same.refl _
  | assumption
  | exact Same.tr2 (New.sm (by assumption)) (by walk_at "sm")
  | exact Same.tr2 (NewX.sm (by assumption)) (by walk_at "sm")
  | exact Same.tr2 (by assumption) (by walk_at "sm"))
local macro_rules | `(tactic| walk_at "ix") => `(tactic| with_reducible first | exact at0 | exact at1 | exact at2 | exact at3 | exact at4 | exact at5 | exact at6 | exact at7)
local macro_rules | `(tactic| walk_at "tyx") => `(tactic| first
  | exact TyX.base (TyOf.int _) | exact TyX.base (TyOf.str _) | exact TyX.base (TyOf.bl _) | exact TyX.base TyOf.non
  | exact TyX.base (TyOf.lst (by walk_at "hh")) | exact TyX.base (TyOf.tup (by walk_at "hh")) | exact TyX.base (TyOf.dK (by walk_at "hh")))
local macro_rules | `(tactic| walk_at "cond") => `(tactic| first | assumption | exact rfl | decide +kernel | omega | (simp only [List.length_cons, List.length_nil]; omega))
local macro_rules | `(tactic| walk_at "rd1") => `(tactic| first
  | with_reducible refine Rd.go ?_
  | ((with_reducible refine' k_var ?rdh ?_); (case rdh => exact rfl))
  | ((with_reducible refine' k_gt2 ?rdh ?_); (case rdh => walk_at "ht"))
  | ((with_reducible refine' v_mod ?rdh ?_); (case rdh => first | decide | omega))
  | ((with_reducible refine' v_fdiv ?rdh ?_); (case rdh => exact ⟨by decide, by decide⟩))
  | ((with_reducible refine' v_mulI ?rdh ?_); (case rdh => first | exact .inl ⟨by omega, by omega⟩ | exact .inr ⟨by omega, by omega⟩))
  | ((with_reducible refine' v_isiT ?rdh ?rdk ?_); (case rdh => walk_at "tyx"); (case rdk => decide +kernel))
  | ((with_reducible refine' v_isiF ?rdh ?rdk ?_); (case rdh => walk_at "tyx"); (case rdk => decide +kernel))
  | ((with_reducible refine' v_ixT ?rdh ?rdk ?_); (case rdh => walk_at "ht"); (case rdk => walk_at "ix"))
  | ((with_reducible refine' v_ixL ?rdh ?rdk ?_); (case rdh => walk_at "hl"); (case rdk => walk_at "ix"))
  | ((with_reducible refine' v_lenL ?rdh ?_); (case rdh => walk_at "hl"))
  | ((with_reducible refine' v_lenT ?rdh ?_); (case rdh => walk_at "ht"))
  | ((with_reducible refine' v_lenD ?rdh ?_); (case rdh => walk_at "hh"))
  | ((with_reducible refine' i_dT ?rdh ?_); (case rdh => walk_at "cond"))
  | ((with_reducible refine' i_dF ?rdh ?_); (case rdh => walk_at "cond"))
  | ((with_reducible refine' i_nT ?rdh ?_); (case rdh => walk_at "cond"))
  | ((with_reducible refine' i_nF ?rdh ?_); (case rdh => walk_at "cond"))
  | ((with_reducible refine' i_bT ?rdh ?_); (case rdh => first | assumption | decide +kernel))
  | ((with_reducible refine' i_bF ?rdh ?_); (case rdh => first | assumption | decide +kernel)))
local macro_rules | `(tactic| walk_at "rd") => `(tactic| repeat walk_at "rd1")

variable {g : En} {H H0 : Hp} {Q : VK} {E : XK} {a b p l d : Addr} {ns : List Str} {e : En0} {r : R} {rs : List R} {σ : L2.St}
/-! ## rows of a drawn program -/
def Src.isNm : Src → Prop
  | .num _ => False
  | .nm _ => True
/-- a row over the names ns that leads nowhere else -/
structure SRow (ns : List Str) (r : R) : Prop where
  w : isW r = true
  ok : rowOk r
  inn : ∀ n ∈ r.ns, n ∈ ns
  src : match r with
    | .copy _ s => s.isNm
    | .work _ _ x y => x.isNm ∧ y.isNm
    | .tell s => s.isNm
    | _ => True
/-- a row that leads to places from lo to hi - 1 -/
inductive PRow (ns : List Str) (lo hi : Int) : R → Prop
  | s {r : R} (h : SRow ns r) : PRow ns lo hi r
  | z {n : Str} {p : Int} (hn : n ∈ ns) (h : lo ≤ p ∧ p < hi) : PRow ns lo hi (.zero n p)
  | j {p : Int} (h : lo ≤ p ∧ p < hi) : PRow ns lo hi (.jump p)
  | t : PRow ns lo hi .stop
theorem PRow.mono {ns : List Str} {lo hi lo' hi' : Int} {r : R} (h : PRow ns lo hi r) (a : lo' ≤ lo) (b : hi ≤ hi') : PRow ns lo' hi' r := by
  cases h with
  | s h => exact .s h
  | z hn h => exact .z hn (by omega)
  | j h => exact .j (by omega)
  | t => exact .t
theorem PRow.ng {ns : List Str} {lo hi : Int} {r : R} (h : PRow ns lo hi r) : isG r = false := by
  cases h with
  | s h => have := h.w; cases r <;> first | rfl | cases this
  | _ => rfl
/-- a program: names, rows -/
structure ProgOk (ns : List Str) (rs : List R) : Prop where
  rows : ∀ r ∈ rs, PRow ns 0 rs.length r
  size : rs.length ≤ 90
theorem nm_at {i : Int} (hn : NamesOk ns) (h0 : 0 ≤ i) (h6 : i < 6) : ∃ s, s ∈ ns ∧ atI (ns.map V.str) i = some (.str s) := by
  have hj : i.toNat < ns.length := by rw [hn.len]; omega
  refine ⟨ns[i.toNat], List.getElem_mem hj, ?_⟩
  refine atI_of (j := i.toNat) (by omega) ?_
  rw [List.getElem?_map, List.getElem?_eq_getElem hj]
  rfl
theorem seven {w : Int} (h0 : 0 ≤ w) (h : w < 7) : w = 0 ∨ w = 1 ∨ w = 2 ∨ w = 3 ∨ w = 4 ∨ w = 5 ∨ w = 6 := by omega
theorem tag {v r : R} : True := trivial
theorem r_law_straight {way c : Int} (hn : NamesOk ns) (ha : H a = some (.lst (ns.map V.str))) (q : ∀ r, SRow ns r → ∀ p H2, Same H H2 → H2 p = some (.tup r.vs) → Q (.ref p) H2) : sp_law_straight g [.int way, .int c, .ref a] H Q E := by
  refine ⟨_, _, _, rfl, ?_⟩
  unfold t_law_straight
  obtain ⟨n1, m1, e1⟩ := nm_at (i := 2 + c % 3) hn (by omega) (by omega)
  obtain ⟨n2, m2, e2⟩ := nm_at (i := c / 3 % 5) hn (by omega) (by omega)
  obtain ⟨n3, m3, e3⟩ := nm_at (i := c / 15 % 5) hn (by omega) (by omega)
  walk_at "rd"
  refine v_ixL (SqL.of ha) e1 ?_
  walk_at "rd"
  refine v_ixL (SqL.of ha) e2 ?_
  walk_at "rd"
  refine v_ixL (SqL.of ha) e3 ?_
  walk_at "rd"
  refine ⟨show 7 ≤ sizeLine by decide, fun t H1 w1 => ?_⟩
  walk_at "rd"
  have hw := seven (w := way % 7) (by omega) (by omega)
  generalize way % 7 = w at hw
  have work : ∀ (k : Wk), SRow ns (.work k n1 (.nm n2) (.nm n3)) := fun k => ⟨rfl, ⟨trivial, trivial⟩, fun n h => by
    rcases List.mem_cons.mp h with rfl | h
    · exact m1
    · rcases List.mem_append.mp h with h | h
      · rw [List.mem_singleton.mp h]; exact m2
      · rw [List.mem_singleton.mp h]; exact m3, ⟨trivial, trivial⟩⟩
  rcases hw with rfl | rfl | rfl | rfl | rfl | rfl | rfl
  · walk_at "rd"
    refine r_law_number fun z hz => ?_
    walk_at "rd"
    refine ⟨show 3 ≤ sizeLine by decide, fun p H2 w2 => ?_⟩
    exact q (.put n1 z) ⟨rfl, hz, fun n h => by rw [List.mem_singleton.mp h]; exact m1, trivial⟩ p H2 (by walk_at "sm") w2.at_
  · walk_at "rd"
    refine ⟨show 3 ≤ sizeLine by decide, fun p H2 w2 => ?_⟩
    exact q (.copy n1 (.nm n2)) ⟨rfl, trivial, fun n h => by
      rcases List.mem_cons.mp h with rfl | h
      · exact m1
      · rw [List.mem_singleton.mp h]; exact m2, trivial⟩ p H2 (by walk_at "sm") w2.at_
  · walk_at "rd"
    refine ⟨show 4 ≤ sizeLine by decide, fun p H2 w2 => ?_⟩
    exact q _ (work .add) p H2 (by walk_at "sm") w2.at_
  · walk_at "rd"
    refine ⟨show 4 ≤ sizeLine by decide, fun p H2 w2 => ?_⟩
    exact q _ (work .minus) p H2 (by walk_at "sm") w2.at_
  · walk_at "rd"
    refine ⟨show 4 ≤ sizeLine by decide, fun p H2 w2 => ?_⟩
    exact q _ (work .times) p H2 (by walk_at "sm") w2.at_
  · walk_at "rd"
    refine ⟨show 4 ≤ sizeLine by decide, fun p H2 w2 => ?_⟩
    exact q _ (work .less) p H2 (by walk_at "sm") w2.at_
  · walk_at "rd"
    refine ⟨show 2 ≤ sizeLine by decide, fun p H2 w2 => ?_⟩
    exact q (.tell (.nm n2)) ⟨rfl, trivial, fun n h => by rw [List.mem_singleton.mp h]; exact m2, trivial⟩ p H2 (by walk_at "sm") w2.at_
/-- rows made so far at d -/
structure RowsNew (H0 : Hp) (d : Addr) (rs : List R) (H : Hp) : Prop where
  fr : H0 d = none
  sm : Same H0 H
  rows : RowsAt H d rs
theorem RowsNew.put {H0 H H2 H3 : Hp} {d p : Addr} {vs : List V} {rs : List R} {r : R} (fr : H0 d = none) (sm : Same H0 H) (hv : H d = some (.lst vs)) (hr : RowsV H vs rs) (s : Same H H2) (hp : H2 p = some (.tup r.vs)) (hg : isG r = false) (w : Wr H2 d (.lst (vs ++ [.ref p])) H3) : RowsNew H0 d (rs ++ [r]) H3 := by
  have t : Tk H2 H3 := w.tk (s _ _ hv) rfl
  refine ⟨fr, w.same (Same.trans sm s) fr, _, w.at_, All2.snoc (RowsV.tk (Tk.trans (Same.tk s) t) hr) ⟨p, rfl, ?_⟩⟩
  have := t _ _ rfl hp
  cases r <;> first | exact this | cases hg
theorem rows_len {H : Hp} {d : Addr} {vs : List V} {rs : List R} (h : RowsV H vs rs) : vs.length = rs.length := h.len
theorem r_law_body {sa : Addr} {ss : List Int} {first size start : Int} (hS : SqL g.K H sa (ss.map V.int)) (hn : NamesOk ns) (ha : H a = some (.lst (ns.map V.str))) (hf : 0 ≤ first) (h0 : 0 ≤ size) (h9 : size ≤ 30) (hs : 0 ≤ start)
    (q : ∀ rs, (∀ r ∈ rs, PRow ns start (start + size + 1) r) → (rs.length : Int) = size → ∀ p H2, RowsNew H p rs H2 → Q (.ref p) H2) : sp_law_body g [.ref sa, .int first, .int size, .ref a, .int start] H Q E := by
  refine ⟨_, _, _, _, _, rfl, ?_⟩
  unfold t_law_body
  walk_at "rd"
  refine ⟨show 0 ≤ sizeLine by decide, fun d H1 n1 => ?_⟩
  walk_at "rd"
  refine v_forR1 (by omega) (by omega) (fun i σ' H' => ∃ x6 x7 x8 rs, σ' = [some (.ref sa), some (.int first), some (.int size), some (.ref a), some (.int start), some (.ref d), x6, x7, x8] ∧ RowsNew H d rs H' ∧ (∀ r ∈ rs, PRow ns start (start + size + 1) r) ∧ rs.length = i) ⟨_, _, _, [], rfl, ⟨n1.fr, n1.sm, [], n1.at_, All2.nil⟩, fun r h => by (cases h), rfl⟩ ?_ ?_
  · rintro i σ' H' hi ⟨x6, x7, x8, rs, rfl, ⟨fr, sm, vs, hv, hR⟩, hp, hl⟩
    have hi' : (i : Int) < size := by omega
    have hz : vs.length < sizeLine := by rw [hR.len, hl]; exact small_sz (by omega)
    have fin : ∀ {r : R} {p2 : Addr} {H2 H3 : Hp}, PRow ns start (start + size + 1) r → Same H' H2 → H2 p2 = some (.tup r.vs) → Wr H2 d (.lst (vs ++ [.ref p2])) H3 → ∃ x6 x7 x8 rs', True ∧ RowsNew H d rs' H3 ∧ (∀ r ∈ rs', PRow ns start (start + size + 1) r) ∧ rs'.length = i + 1 := fun {r p2 H2 H3} pr s2 h2 w => ⟨(), (), (), rs ++ [r], trivial, RowsNew.put fr sm hv hR s2 h2 pr.ng w, fun r' h => by
      rcases List.mem_append.mp h with h | h
      · exact hp r' h
      · rw [List.mem_singleton.mp h]; exact pr, by rw [List.length_append, hl]; rfl⟩
    have hmin : ∀ m : Int, 0 < m → start ≤ start + (if m < size then m else size) ∧ start + (if m < size then m else size) < start + size + 1 := fun m hm => by split <;> omega
    walk_at "rd"
    refine r_law_cell_at (Same.seq sm hS) (by omega) ?_
    walk_at "rd"
    refine r_law_cell_at (Same.seq sm hS) (by omega) ?_
    walk_at "rd"
    generalize cellv ss (first + 2 * (i : Int)) = c1
    generalize cellv ss (first + 2 * (i : Int) + 1) = c2
    refine i_d (fun h => ?_) (fun h => ?_)
    · walk_at "rd"
      refine ⟨ty_l hv, ?_⟩
      walk_at "rd"
      obtain ⟨s, ms, es⟩ := nm_at (i := 1 + c2 % 4) hn (by omega) (by omega)
      refine v_ixL (SqL.of (sm _ _ ha)) es ?_
      walk_at "rd"
      refine ⟨show 3 ≤ sizeLine by decide, fun p2 H2 n2 => ?_⟩
      walk_at "rd"
      refine v_app (n2.sm _ _ hv) hz fun H3 w => ?_
      walk_at "rd"
      obtain ⟨_, _, _, rs', _, f1, f2, f3⟩ := fin (r := .zero s _) (.z ms (hmin _ (by omega))) n2.sm n2.at_ w
      exact ⟨_, _, _, rs', rfl, ⟨f1.fr, f1.sm, f1.rows⟩, f2, f3⟩
    · walk_at "rd"
      refine i_d (fun h8 => ?_) (fun h8 => ?_)
      · walk_at "rd"
        refine i_d (fun h3 => ?_) (fun h3 => ?_)
        · walk_at "rd"
          refine ⟨ty_l hv, ?_⟩
          walk_at "rd"
          refine ⟨show 2 ≤ sizeLine by decide, fun p2 H2 n2 => ?_⟩
          walk_at "rd"
          refine v_app (n2.sm _ _ hv) hz fun H3 w => ?_
          walk_at "rd"
          obtain ⟨_, _, _, rs', _, f1, f2, f3⟩ := fin (r := .jump _) (.j (hmin _ (by omega))) n2.sm n2.at_ w
          exact ⟨_, _, _, rs', rfl, f1, f2, f3⟩
        · walk_at "rd"
          refine ⟨ty_l hv, ?_⟩
          walk_at "rd"
          refine r_law_straight hn (sm _ _ ha) fun r hr p2 H2 s2 h2 => ?_
          walk_at "rd"
          refine v_app (s2 _ _ hv) hz fun H3 w => ?_
          walk_at "rd"
          obtain ⟨_, _, _, rs', _, f1, f2, f3⟩ := fin (.s hr) s2 h2 w
          exact ⟨_, _, _, rs', rfl, f1, f2, f3⟩
      · walk_at "rd"
        refine ⟨ty_l hv, ?_⟩
        walk_at "rd"
        refine r_law_straight hn (sm _ _ ha) fun r hr p2 H2 s2 h2 => ?_
        walk_at "rd"
        refine v_app (s2 _ _ hv) hz fun H3 w => ?_
        walk_at "rd"
        obtain ⟨_, _, _, rs', _, f1, f2, f3⟩ := fin (.s hr) s2 h2 w
        exact ⟨_, _, _, rs', rfl, f1, f2, f3⟩
  · rintro σ' H' ⟨x6, x7, x8, rs, rfl, n, hp, hl⟩
    walk_at "rd"
    exact q rs hp (by omega) d H' n

end Tf

namespace Tf
open PySem L2
local macro_rules | `(tactic| walk_at "hl") => `(tactic| first
  | assumption
  | exact SqL.of (by walk_at "hh")
  | exact Same.seq (New.sm (by assumption)) (by walk_at "hl")
  | exact Same.seq (NewX.sm (by assumption)) (by walk_at "hl")
  | exact Same.seq (by assumption) (by walk_at "hl"))
local macro_rules | `(tactic| walk_at "ht") => `(tactic| first
  | assumption
  | exact SqT.of (by walk_at "hh")
  | exact Same.tup (New.sm (by assumption)) (by walk_at "ht")
  | exact Same.tup (NewX.sm (by assumption)) (by walk_at "ht")
  | exact Same.tup (by assumption) (by walk_at "ht"))
local macro_rules | `(tactic| walk_at "hr") => `(tactic| first
  | assumption
  | exact Or.inl (by walk_at "hh")
  | exact Same.rd (New.sm (by assumption)) (by walk_at "hr")
  | exact Same.rd (NewX.sm (by assumption)) (by walk_at "hr")
  | exact Same.rd (by assumption) (by walk_at "hr"))
local macro_rules | `(tactic| walk_at "hh") => `(tactic| first
  | assumption
  | exact New.at_ (by assumption)
  | exact NewX.at_ (by assumption)
  | exact Wr.at_ (by assumption)
  | exact Same.get (New.sm (by assumption)) (by walk_at "hh")
  | exact Same.get (NewX.sm (by assumption)) (by walk_at "hh")
  | exact Same.get (by assumption) (by walk_at "hh"))
local macro_rules | `(tactic| walk_at "sm") => `(tactic| first
  | exact Same.refl _
  | assumption
  | exact Same.tr2 (New.sm (by assumption)) (by walk_at "sm")
  | exact Same.tr2 (NewX.sm (by assumption)) (by walk_at "sm")
  | exact Same.tr2 (by assumption) (by walk_at "sm"))
local macro_rules | `(tactic| walk_at "ix") => `(tactic| with_reducible first | exact at0 | exact at1 | exact at2 | exact at3 | exact at4 | exact at5 | exact at6 | exact at7)
local macro_rules | `(tactic| walk_at "tyx") => `(tactic| first
  | exact TyX.base (TyOf.int _) | exact TyX.base (TyOf.str _) | exact TyX.base (TyOf.bl _) | exact TyX.base TyOf.non
  | exact TyX.base (TyOf.lst (by walk_at "hh")) | exact TyX.base (TyOf.tup (by walk_at "hh")) | exact TyX.base (TyOf.dK (by walk_at "hh")))
local macro_rules | `(tactic| walk_at "cond") => `(tactic| first | assumption | exact rfl | decide +kernel | omega | (simp only [List.length_cons, List.length_nil]; omega))
local macro_rules | `(tactic| walk_at "rd1") => `(tactic| first
  | with_reducible refine Rd.go ?_
  | ((with_reducible refine' k_var ?rdh ?_); (case rdh => exact rfl))
  | ((with_reducible refine' k_gt2 ?rdh ?_); (case rdh => walk_at "ht"))
  | ((with_reducible refine' v_mod ?rdh ?_); (case rdh => first | decide | omega))
  | ((with_reducible refine' v_fdiv ?rdh ?_); (case rdh => exact ⟨by decide, by decide⟩))
  | ((with_reducible refine' v_mulI ?rdh ?_); (case rdh => first | exact .inl ⟨by omega, by omega⟩ | exact .inr ⟨by omega, by omega⟩))
  | ((with_reducible refine' v_isiT ?rdh ?rdk ?_); (case rdh => walk_at "tyx"); (case rdk => decide +kernel))
  | ((with_reducible refine' v_isiF ?rdh ?rdk ?_); (case rdh => walk_at "tyx"); (case rdk => decide +kernel))
  | ((with_reducible refine' v_ixT ?rdh ?rdk ?_); (case rdh => walk_at "ht"); (case rdk => walk_at "ix"))
  | ((with_reducible refine' v_ixL ?rdh ?rdk ?_); (case rdh => walk_at "hl"); (case rdk => walk_at "ix"))
  | ((with_reducible refine' v_lenL ?rdh ?_); (case rdh => walk_at "hl"))
  | ((with_reducible refine' v_lenT ?rdh ?_); (case rdh => walk_at "ht"))
  | ((with_reducible refine' v_lenD ?rdh ?_); (case rdh => walk_at "hh"))
  | ((with_reducible refine' i_dT ?rdh ?_); (case rdh => walk_at "cond"))
  | ((with_reducible refine' i_dF ?rdh ?_); (case rdh => walk_at "cond"))
  | ((with_reducible refine' i_nT ?rdh ?_); (case rdh => walk_at "cond"))
  | ((with_reducible refine' i_nF ?rdh ?_); (case rdh => walk_at "cond"))
  | ((with_reducible refine' i_bT ?rdh ?_); (case rdh => first | assumption | decide +kernel))
  | ((with_reducible refine' i_bF ?rdh ?_); (case rdh => first | assumption | decide +kernel)))
local macro_rules | `(tactic| walk_at "rd") => `(tactic| repeat walk_at "rd1")

variable {g : En} {H H0 : Hp} {Q : VK} {E : XK} {a b p l d : Addr} {ns : List Str} {e : En0} {r : R} {rs : List R} {σ : L2.St}
theorem r_law_wild {sa : Addr} {ss : List Int} {first size : Int} (hS : SqL g.K H sa (ss.map V.int)) (hn : NamesOk ns) (ha : H a = some (.lst (ns.map V.str))) (hf : 0 ≤ first) (h0 : 0 ≤ size) (h9 : size ≤ 30)
    (q : ∀ rs, (∀ r ∈ rs, PRow ns 0 size r) → (rs.length : Int) = size → ∀ p H2, RowsNew H p rs H2 → Q (.ref p) H2) : sp_law_wild g [.ref sa, .int first, .int size, .ref a] H Q E := by
  refine ⟨_, _, _, _, rfl, ?_⟩
  unfold t_law_wild
  walk_at "rd"
  refine ⟨show 0 ≤ sizeLine by decide, fun d H1 n1 => ?_⟩
  walk_at "rd"
  refine v_forR1 (by omega) (by omega) (fun i σ' H' => ∃ x6 x7 x8 rs, σ' = [some (.ref sa), some (.int first), some (.int size), some (.ref a), some (.ref d), x6, x7, x8] ∧ RowsNew H d rs H' ∧ (∀ r ∈ rs, PRow ns 0 size r) ∧ rs.length = i) ⟨_, _, _, [], rfl, ⟨n1.fr, n1.sm, [], n1.at_, All2.nil⟩, fun r h => by (cases h), rfl⟩ ?_ ?_
  · rintro i σ' H' hi ⟨x6, x7, x8, rs, rfl, ⟨fr, sm, vs, hv, hR⟩, hp, hl⟩
    have hi' : (i : Int) < size := by omega
    have hz : vs.length < sizeLine := by rw [hR.len, hl]; exact small_sz (by omega)
    have fin : ∀ {r : R} {p2 : Addr} {H2 H3 : Hp}, PRow ns 0 size r → Same H' H2 → H2 p2 = some (.tup r.vs) → Wr H2 d (.lst (vs ++ [.ref p2])) H3 → ∃ rs', RowsNew H d rs' H3 ∧ (∀ r ∈ rs', PRow ns 0 size r) ∧ rs'.length = i + 1 := fun {r p2 H2 H3} pr s2 h2 w => ⟨rs ++ [r], RowsNew.put fr sm hv hR s2 h2 pr.ng w, fun r' h => by
      rcases List.mem_append.mp h with h | h
      · exact hp r' h
      · rw [List.mem_singleton.mp h]; exact pr, by rw [List.length_append, hl]; rfl⟩
    have pos : ∀ z : Int, 0 ≤ z % size ∧ z % size < size := fun z => ⟨Int.emod_nonneg _ (by omega), Int.emod_lt_of_pos _ (by omega)⟩
    walk_at "rd"
    refine r_law_cell_at (Same.seq sm hS) (by omega) ?_
    walk_at "rd"
    refine r_law_cell_at (Same.seq sm hS) (by omega) ?_
    walk_at "rd"
    generalize cellv ss (first + 2 * (i : Int)) = c1
    generalize cellv ss (first + 2 * (i : Int) + 1) = c2
    refine i_d (fun h => ?_) (fun h => ?_)
    · walk_at "rd"
      refine ⟨ty_l hv, ?_⟩
      walk_at "rd"
      obtain ⟨s, ms, es⟩ := nm_at (i := c2 % 5) hn (by omega) (by omega)
      refine v_ixL (SqL.of (sm _ _ ha)) es ?_
      walk_at "rd"
      refine ⟨show 3 ≤ sizeLine by decide, fun p2 H2 n2 => ?_⟩
      walk_at "rd"
      refine v_app (n2.sm _ _ hv) hz fun H3 w => ?_
      walk_at "rd"
      obtain ⟨rs', f⟩ := fin (r := .zero s _) (.z ms (pos _)) n2.sm n2.at_ w
      exact ⟨_, _, _, rs', rfl, f⟩
    · walk_at "rd"
      refine i_d (fun h8 => ?_) (fun h8 => ?_)
      · walk_at "rd"
        refine ⟨ty_l hv, ?_⟩
        walk_at "rd"
        refine ⟨show 2 ≤ sizeLine by decide, fun t1 H2 n2 => ?_⟩
        walk_at "rd"
        refine ⟨show 1 ≤ sizeLine by decide, fun t2 H3 n3 => ?_⟩
        walk_at "rd"
        refine ⟨show 2 ≤ sizeLine by decide, fun t3 H4 n4 => ?_⟩
        walk_at "rd"
        refine ⟨show 3 ≤ sizeLine by decide, fun t4 H5 n5 => ?_⟩
        walk_at "rd"
        have s5 : Same H' H5 := by walk_at "sm"
        have h3 : c2 % 3 = 0 ∨ c2 % 3 = 1 ∨ c2 % 3 = 2 := by omega
        rcases h3 with h3 | h3 | h3
        · refine v_ixL (v := .ref t1) (SqL.of n5.at_) (by rw [h3]; exact at0) ?_
          walk_at "rd"
          refine v_app (s5 _ _ hv) hz fun H6 w => ?_
          walk_at "rd"
          obtain ⟨rs', f⟩ := fin (r := .jump _) (.j (pos _)) s5 (show H5 t1 = _ by walk_at "hh") w
          exact ⟨_, _, _, rs', rfl, f⟩
        · refine v_ixL (v := .ref t2) (SqL.of n5.at_) (by rw [h3]; exact at1) ?_
          walk_at "rd"
          refine v_app (s5 _ _ hv) hz fun H6 w => ?_
          walk_at "rd"
          obtain ⟨rs', f⟩ := fin (r := .stop) .t s5 (show H5 t2 = _ by walk_at "hh") w
          exact ⟨_, _, _, rs', rfl, f⟩
        · refine v_ixL (v := .ref t3) (SqL.of n5.at_) (by rw [h3]; exact at2) ?_
          walk_at "rd"
          refine v_app (s5 _ _ hv) hz fun H6 w => ?_
          walk_at "rd"
          obtain ⟨rs', f⟩ := fin (r := .jump ((i : Int) / 2)) (.j (by omega)) s5 (show H5 t3 = _ by walk_at "hh") w
          exact ⟨_, _, _, rs', rfl, f⟩
      · walk_at "rd"
        refine ⟨ty_l hv, ?_⟩
        walk_at "rd"
        refine r_law_straight hn (sm _ _ ha) fun r hr p2 H2 s2 h2 => ?_
        walk_at "rd"
        refine v_app (s2 _ _ hv) hz fun H3 w => ?_
        walk_at "rd"
        obtain ⟨rs', f⟩ := fin (.s hr) s2 h2 w
        exact ⟨_, _, _, rs', rfl, f⟩
  · rintro σ' H' ⟨x6, x7, x8, rs, rfl, n, hp, hl⟩
    walk_at "rd"
    exact q rs hp (by omega) d H' n
/-! ## rows that are written -/
theorem RowsV.nil {H : Hp} : RowsV H [] [] := All2.nil
theorem RowsV.one {H : Hp} {p : Addr} {r : R} {vs : List V} {rs : List R} (hp : H p = some (.tup r.vs)) (hg : isG r = false) (h : RowsV H vs rs) : RowsV H (.ref p :: vs) (r :: rs) := All2.cons ⟨p, rfl, by cases r <;> first | exact hp | cases hg⟩ h
theorem sPut {n : Str} {k : Int} (h : n ∈ ns) (hk : 0 ≤ k ∧ k < 1000000) : SRow ns (.put n k) := ⟨rfl, hk, fun m hm => by rw [List.mem_singleton.mp hm]; exact h, trivial⟩
theorem sTell {n : Str} (h : n ∈ ns) : SRow ns (.tell (.nm n)) := ⟨rfl, trivial, fun m hm => by rw [List.mem_singleton.mp hm]; exact h, trivial⟩
theorem sWork {w : Wk} {n x y : Str} (h : n ∈ ns) (hx : x ∈ ns) (hy : y ∈ ns) : SRow ns (.work w n (.nm x) (.nm y)) := ⟨rfl, ⟨trivial, trivial⟩, fun m hm => by
  rcases List.mem_cons.mp hm with rfl | hm
  · exact h
  · rcases List.mem_append.mp hm with hm | hm
    · rw [List.mem_singleton.mp hm]; exact hx
    · rw [List.mem_singleton.mp hm]; exact hy, ⟨trivial, trivial⟩⟩
theorem r_law_turn {c : Int} (hn : NamesOk ns) (ha : H a = some (.lst (ns.map V.str)))
    (q : ∀ rs, (∀ r ∈ rs, PRow ns 7 8 r) → (rs.length = 0 ∨ rs.length = 4) → (c % 4 ≠ 1 → rs = []) → (c % 4 = 1 → rs.length = 4) → ∀ p H2, RowsNew H p rs H2 → Q (.ref p) H2) : sp_law_turn g [.int c, .ref a] H Q E := by
  refine ⟨_, _, rfl, ?_⟩
  unfold t_law_turn
  obtain ⟨n0, m0, e0⟩ := nm_at (i := 0) hn (by omega) (by omega)
  obtain ⟨n1, m1, e1⟩ := nm_at (i := 1) hn (by omega) (by omega)
  obtain ⟨n2, m2, e2⟩ := nm_at (i := 2) hn (by omega) (by omega)
  obtain ⟨n3, m3, e3⟩ := nm_at (i := 3) hn (by omega) (by omega)
  obtain ⟨n4, m4, e4⟩ := nm_at (i := 4) hn (by omega) (by omega)
  walk_at "rd"
  refine i_n (fun h => ?_) (fun h => ?_)
  · walk_at "rd"
    exact ⟨show 0 ≤ sizeLine by decide, fun p H2 w2 => q [] (fun r h => by cases h) (.inl rfl) (fun _ => rfl) (fun z => absurd z h) p H2 ⟨w2.fr, w2.sm, [], w2.at_, All2.nil⟩⟩
  · walk_at "rd"
    refine v_ixL (by walk_at "hl") e3 ?_
    walk_at "rd"
    refine ⟨show 3 ≤ sizeLine by decide, fun p1 H1 w1 => ?_⟩
    walk_at "rd"
    refine v_ixL (by walk_at "hl") e2 ?_
    walk_at "rd"
    refine v_ixL (by walk_at "hl") e0 ?_
    walk_at "rd"
    refine v_ixL (by walk_at "hl") e3 ?_
    walk_at "rd"
    refine ⟨show 4 ≤ sizeLine by decide, fun p2 H2 w2 => ?_⟩
    walk_at "rd"
    refine ⟨show 2 ≤ sizeLine by decide, fun l1 H3 w3 => ?_⟩
    walk_at "rd"
    refine v_ixL (by walk_at "hl") e2 ?_
    walk_at "rd"
    refine ⟨show 3 ≤ sizeLine by decide, fun p3 H4 w4 => ?_⟩
    walk_at "rd"
    refine v_ixL (by walk_at "hl") e4 ?_
    walk_at "rd"
    refine v_ixL (by walk_at "hl") e4 ?_
    walk_at "rd"
    refine v_ixL (by walk_at "hl") e1 ?_
    walk_at "rd"
    refine ⟨show 4 ≤ sizeLine by decide, fun p4 H5 w5 => ?_⟩
    walk_at "rd"
    refine ⟨show 2 ≤ sizeLine by decide, fun l2 H6 w6 => ?_⟩
    walk_at "rd"
    refine v_addL (by walk_at "hh") (by walk_at "hh") (by show 4 ≤ sizeLine; decide) fun l3 H7 w7 => ?_
    refine q [.put n3 (2 + c / 4 % 8), .work .less n2 (.nm n0) (.nm n3), .zero n2 7, .work .add n4 (.nm n4) (.nm n1)] ?_ (.inr rfl) (fun z => absurd h z) (fun _ => rfl) l3 H7 ⟨Same.free (show Same H H6 by walk_at "sm") w7.fr, by walk_at "sm", _, w7.at_, ?_⟩
    · intro r hr
      rcases List.mem_cons.mp hr with rfl | hr
      · exact .s (sPut m3 (by omega))
      rcases List.mem_cons.mp hr with rfl | hr
      · exact .s (sWork m2 m0 m3)
      rcases List.mem_cons.mp hr with rfl | hr
      · exact .z m2 (by omega)
      rw [List.mem_singleton.mp hr]
      exact .s (sWork m4 m4 m1)
    · exact RowsV.one (by walk_at "hh") rfl (RowsV.one (by walk_at "hh") rfl (RowsV.one (by walk_at "hh") rfl (RowsV.one (by walk_at "hh") rfl RowsV.nil)))

end Tf

namespace Tf
open PySem L2
local macro_rules | `(tactic| walk_at "hl") => `(tactic| first
  | assumption
  | exact SqL.of (by walk_at "hh")
  | exact Same.seq (New.sm (by assumption)) (by walk_at "hl")
  | exact Same.seq (NewX.sm (by assumption)) (by walk_at "hl")
  | exact Same.seq (by assumption) (by walk_at "hl"))
local macro_rules | `(tactic| walk_at "ht") => `(tactic| first
  | assumption
  | exact SqT.of (by walk_at "hh")
  | exact Same.tup (New.sm (by assumption)) (by walk_at "ht")
  | exact Same.tup (NewX.sm (by assumption)) (by walk_at "ht")
  | exact Same.tup (by assumption) (by walk_at "ht"))
local macro_rules | `(tactic| walk_at "hr") => `(tactic| first
  | assumption
  | exact Or.inl (by walk_at "hh")
  | exact Same.rd (New.sm (by assumption)) (by walk_at "hr")
  | exact Same.rd (NewX.sm (by assumption)) (by walk_at "hr")
  | exact Same.rd (by assumption) (by walk_at "hr"))
local macro_rules | `(tactic| walk_at "hh") => `(tactic| first
  | assumption
  | exact New.at_ (by assumption)
  | exact NewX.at_ (by assumption)
  | exact Wr.at_ (by assumption)
  | exact Same.get (New.sm (by assumption)) (by walk_at "hh")
  | exact Same.get (NewX.sm (by assumption)) (by walk_at "hh")
  | exact Same.get (by assumption) (by walk_at "hh"))
local macro_rules | `(tactic| walk_at "sm") => `(tactic| first
  | exact Same.refl _
  | assumption
  | exact Same.tr2 (New.sm (by assumption)) (by walk_at "sm")
  | exact Same.tr2 (NewX.sm (by assumption)) (by walk_at "sm")
  | exact Same.tr2 (by assumption) (by walk_at "sm"))
local macro_rules | `(tactic| walk_at "ix") => `(tactic| with_reducible first | exact at0 | exact at1 | exact at2 | exact at3 | exact at4 | exact at5 | exact at6 | exact at7)
local macro_rules | `(tactic| walk_at "tyx") => `(tactic| first
  | exact TyX.base (TyOf.int _) | exact TyX.base (TyOf.str _) | exact TyX.base (TyOf.bl _) | exact TyX.base TyOf.non
  | exact TyX.base (TyOf.lst (by walk_at "hh")) | exact TyX.base (TyOf.tup (by walk_at "hh")) | exact TyX.base (TyOf.dK (by walk_at "hh")))
local macro_rules | `(tactic| walk_at "cond") => `(tactic| first | assumption | exact rfl | decide +kernel | omega | (simp only [List.length_cons, List.length_nil]; omega))
local macro_rules | `(tactic| walk_at "rd1") => `(tactic| first
  | with_reducible refine Rd.go ?_
  | ((with_reducible refine' k_var ?rdh ?_); (case rdh => exact rfl))
  | ((with_reducible refine' k_gt2 ?rdh ?_); (case rdh => walk_at "ht"))
  | ((with_reducible refine' v_mod ?rdh ?_); (case rdh => first | decide | omega))
  | ((with_reducible refine' v_fdiv ?rdh ?_); (case rdh => exact ⟨by decide, by decide⟩))
  | ((with_reducible refine' v_mulI ?rdh ?_); (case rdh => first | exact .inl ⟨by omega, by omega⟩ | exact .inr ⟨by omega, by omega⟩))
  | ((with_reducible refine' v_isiT ?rdh ?rdk ?_); (case rdh => walk_at "tyx"); (case rdk => decide +kernel))
  | ((with_reducible refine' v_isiF ?rdh ?rdk ?_); (case rdh => walk_at "tyx"); (case rdk => decide +kernel))
  | ((with_reducible refine' v_ixT ?rdh ?rdk ?_); (case rdh => walk_at "ht"); (case rdk => walk_at "ix"))
  | ((with_reducible refine' v_ixL ?rdh ?rdk ?_); (case rdh => walk_at "hl"); (case rdk => walk_at "ix"))
  | ((with_reducible refine' v_lenL ?rdh ?_); (case rdh => walk_at "hl"))
  | ((with_reducible refine' v_lenT ?rdh ?_); (case rdh => walk_at "ht"))
  | ((with_reducible refine' v_lenD ?rdh ?_); (case rdh => walk_at "hh"))
  | ((with_reducible refine' i_dT ?rdh ?_); (case rdh => walk_at "cond"))
  | ((with_reducible refine' i_dF ?rdh ?_); (case rdh => walk_at "cond"))
  | ((with_reducible refine' i_nT ?rdh ?_); (case rdh => walk_at "cond"))
  | ((with_reducible refine' i_nF ?rdh ?_); (case rdh => walk_at "cond"))
  | ((with_reducible refine' i_bT ?rdh ?_); (case rdh => first | assumption | decide +kernel))
  | ((with_reducible refine' i_bF ?rdh ?_); (case rdh => first | assumption | decide +kernel)))
local macro_rules | `(tactic| walk_at "rd") => `(tactic| repeat walk_at "rd1")

variable {g : En} {H H0 : Hp} {Q : VK} {E : XK} {a b p l d : Addr} {ns : List Str} {e : En0} {r : R} {rs : List R} {σ : L2.St}
theorem cutTo {xs : List V} {k : Nat} : cutV xs none (some (k : Int)) = xs.take k := by
  unfold cutV
  rw [HT.sIx_none, List.drop_zero, Nat.sub_zero, show HT.sIx xs.length xs.length (some (k : Int)) = min k xs.length from HT.sIx_nat xs.length xs.length k]
  by_cases h : k ≤ xs.length
  · rw [Nat.min_eq_left h]
  · rw [Nat.min_eq_right (by omega), List.take_length, List.take_of_length_le (by omega)]
theorem RowsV.app {H : Hp} {vs ws : List V} {rs ts : List R} (h : RowsV H vs rs) (k : RowsV H ws ts) : RowsV H (vs ++ ws) (rs ++ ts) := All2.append h k
theorem All2.take {A B : Type} {P : A → B → Prop} {xs : List A} {ys : List B} (k : Nat) (h : All2 P xs ys) : All2 P (xs.take k) (ys.take k) := ⟨by rw [List.length_take, List.length_take, h.len], fun i x y h1 h2 => by
  rw [List.getElem?_take] at h1 h2
  by_cases hk : i < k
  · rw [if_pos hk] at h1 h2
    exact h.at_ i x y h1 h2
  · rw [if_neg hk] at h1
    cases h1⟩
theorem nm_all (hn : NamesOk ns) : ∃ n0 n1 n2 n3 n4 n5, (n0 ∈ ns ∧ n1 ∈ ns ∧ n2 ∈ ns ∧ n3 ∈ ns ∧ n4 ∈ ns ∧ n5 ∈ ns) ∧ ns.map V.str = [.str n0, .str n1, .str n2, .str n3, .str n4, .str n5] := by
  have h := hn.len
  match ns, h with
  | [n0, n1, n2, n3, n4, n5], _ => exact ⟨n0, n1, n2, n3, n4, n5, ⟨by simp, by simp, by simp, by simp, by simp, by simp⟩, rfl⟩
theorem all_app {P : R → Prop} {xs ys : List R} (h : ∀ r ∈ xs, P r) (k : ∀ r ∈ ys, P r) : ∀ r ∈ xs ++ ys, P r := fun r hr => (List.mem_append.mp hr).elim (h r) (k r)
theorem all_cons {P : R → Prop} {x : R} {ys : List R} (h : P x) (k : ∀ r ∈ ys, P r) : ∀ r ∈ x :: ys, P r := fun r hr => by
  rcases List.mem_cons.mp hr with rfl | hr
  · exact h
  · exact k r hr
theorem all_nil {P : R → Prop} : ∀ r ∈ ([] : List R), P r := fun r h => by cases h
/-- PROGRAM: what the script builds -/
theorem r_law_program {sa : Addr} {ss : List Int} (hS : SqL g.K H sa (ss.map V.int)) (h63 : ss.length ≤ 63)
    (q : ∀ ns rs, NamesOk ns → ProgOk ns rs → ∀ p H2, RowsNew H p rs H2 → Q (.ref p) H2) : sp_law_program g [.ref sa] H Q E := by
  refine ⟨_, rfl, ?_⟩
  unfold t_law_program
  walk_at "rd"
  refine r_law_cell_at hS (by omega) ?_
  walk_at "rd"
  refine r_law_names fun ns hn a H1 n1 => ?_
  obtain ⟨n0, n1', n2, n3, n4, n5, ⟨m0, m1, m2, m3, m4, m5⟩, en⟩ := nm_all hn
  have hS1 : SqL g.K H1 sa (ss.map V.int) := Same.seq n1.sm hS
  have ha : H1 a = some (.lst (ns.map V.str)) := n1.at_
  have ha6 := ha
  rw [en] at ha6
  walk_at "rd"
  refine r_law_cell_at hS1 (by omega) ?_
  walk_at "rd"
  refine i_dF (by rw [List.length_map]; omega) ?_
  walk_at "rd"
  refine r_law_cell_at hS1 (by omega) ?_
  walk_at "rd"
  refine r_law_cell_at hS1 (by omega) ?_
  walk_at "rd"
  generalize cellv ss 0 = c0
  generalize cellv ss 3 = c3
  have hway : 0 ≤ cellv ss 4 % 5 ∧ cellv ss 4 % 5 < 5 := by omega
  generalize cellv ss 4 % 5 = way at hway
  have hz : 0 ≤ c0 % 10 ∧ c0 % 10 < 10 := by omega
  generalize c0 % 10 = z at hz
  refine i_d (fun h => ?_) (fun h => ?_)
  · walk_at "rd"
    refine r_law_wild hS1 hn ha (by omega) (by omega) (by omega) fun rs hp hl p H2 nr => ?_
    refine q ns rs hn ⟨by rw [hl]; exact hp, by omega⟩ p H2 ⟨Same.free n1.sm nr.fr, Same.trans n1.sm nr.sm, nr.rows⟩
  · walk_at "rd"
    refine r_law_turn hn ha fun ars hap hal ha0 ha4 la H2 na => ?_
    obtain ⟨fa, sa2, avs, hav, haR⟩ := na
    walk_at "rd"
    rw [haR.len]
    refine r_law_body (Same.seq sa2 hS1) hn (sa2 _ _ ha) (by omega) (by omega) (by omega) (by omega) fun brs hbp hbl lb H3 nb => ?_
    obtain ⟨fb, sb, bvs, hbv, hbR⟩ := nb
    have hav3 := sb _ _ hav
    refine v_addL hav3 hbv (by rw [haR.len, hbR.len]; exact Nat.le_of_lt (small_sz (by omega))) fun lc H4 nc => ?_
    walk_at "rd"
    have s4 : Same H1 H4 := by walk_at "sm"
    refine k_joinI (P := fun σ' H' => ∃ bh crs, σ' = [some (.ref sa), some (.ref a), some (.int z), some (.int c3), some (.int way), some (.ref la), some (.ref bh), none, none, none, none] ∧ Same H1 H' ∧ H' la = some (.lst avs) ∧ RowsAt H' bh crs ∧ (∀ r ∈ crs, PRow ns 3 (3 + crs.length + 1) r) ∧ crs.length ≤ 60) ?k ?h
    case h =>
      intro key
      refine i_d (fun h2 => ?_) (fun h2 => ?_)
      · walk_at "rd"
        refine ⟨show 2 ≤ sizeLine by decide, fun l2 H5 n5' => ?_⟩
        walk_at "rd"
        have hc : c3 / 4 % 2 = 0 ∨ c3 / 4 % 2 = 1 := by omega
        have puts : ∀ {m : Int} {H5 : Hp}, 0 ≤ m → m ≤ 60 → Same H4 H5 → ∀ D ys H6, Made (fun i y H => RowAt H y (.put n4 (i : Int))) m.toNat ys H6 → NewX H5 D (.lst ys) H6 → ∃ crs, RowsV H6 ys crs ∧ (∀ r ∈ crs, PRow ns 3 (3 + crs.length + 1) r) ∧ crs.length ≤ 60 := fun {m H5} h0 h60 s5 D ys H6 md n => by
          refine ⟨(List.range m.toNat).map fun (i : Nat) => R.put n4 (i : Int), ⟨by rw [md.len, List.length_map, List.length_range], fun i x y h1 h2 => ?_⟩, fun r hr => ?_, by rw [List.length_map, List.length_range]; omega⟩
          · rw [List.getElem?_map] at h2
            obtain ⟨j, hj, rfl⟩ := Option.map_eq_some_iff.mp h2
            have hj' := List.getElem?_eq_some_iff.mp hj
            obtain ⟨_, ej⟩ := hj'
            rw [List.getElem_range] at ej
            subst ej
            exact md.it _ _ h1
          · obtain ⟨i, hi, rfl⟩ := List.mem_map.mp hr
            have := List.mem_range.mp hi
            exact .s (sPut m4 (by omega))
        have each : ∀ {m : Int} {H5 : Hp}, Same H4 H5 → ∀ (i : Nat) H', (i : Int) < m → Same H5 H' → ∀ Q' : VK, (∀ y H2, Same H' H2 → RowAt H2 y (.put n4 (i : Int)) → Q' y H2) → tTupN (tCons (tC (.str "put")) (tCons (tOp (rIxA g.K) (tVar 1) (tC (.int 4))) (tCons (tVar 10) (tNil)))) ((wipe [some (.ref sa), some (.ref a), some (.int z), some (.int c3), some (.int way), some (.ref la), some (.ref lc), none, none, none, none] [10]).set 10 (some (.int (i : Int)))) H' Q' := fun {m H5} s5 i H' hi s6 Q' q' => by
          simp only [wipe]
          have ha' : H' a = some (.lst [.str n0, .str n1', .str n2, .str n3, .str n4, .str n5]) := s6 _ _ (s5 _ _ (s4 _ _ ha6))
          walk_at "rd"
          exact ⟨show 3 ≤ sizeLine by decide, fun p H7 n7 => q' _ H7 n7.sm ⟨p, rfl, n7.at_⟩⟩
        rcases hc with hc | hc
        · refine v_ixL (v := .int 57) (SqL.of n5'.at_) (by rw [hc]; exact at0) ?_
          walk_at "rd"
          refine v_lcR1 (fun i y H => RowAt H y (.put n4 (i : Int))) (fun i y H1 H2 t h => RowAt.tk t h) (by omega) (by omega) (each n5'.sm) fun D ys H6 md n => ?_
          obtain ⟨crs, c1, c2, c3'⟩ := puts (by omega) (by omega) n5'.sm D ys H6 md n
          exact key _ _ ⟨D, crs, rfl, by walk_at "sm", n.sm _ _ (n5'.sm _ _ (nc.sm _ _ hav3)), ⟨ys, n.at_, c1⟩, c2, c3'⟩
        · refine v_ixL (v := .int 58) (SqL.of n5'.at_) (by rw [hc]; exact at1) ?_
          walk_at "rd"
          refine v_lcR1 (fun i y H => RowAt H y (.put n4 (i : Int))) (fun i y H1 H2 t h => RowAt.tk t h) (by omega) (by omega) (each n5'.sm) fun D ys H6 md n => ?_
          obtain ⟨crs, c1, c2, c3'⟩ := puts (by omega) (by omega) n5'.sm D ys H6 md n
          exact key _ _ ⟨D, crs, rfl, by walk_at "sm", n.sm _ _ (n5'.sm _ _ (nc.sm _ _ hav3)), ⟨ys, n.at_, c1⟩, c2, c3'⟩
      · refine k_next (key _ _ ⟨lc, ars ++ brs, rfl, s4, nc.sm _ _ hav3, ⟨_, nc.at_, RowsV.app (RowsV.tk (Same.tk (Same.trans sb nc.sm)) haR) (RowsV.tk (Same.tk nc.sm) hbR)⟩, all_app (fun r hr => ?_) (fun r hr => (hbp r hr).mono (by omega) ?_), ?_⟩)
        · have hne : ars.length ≠ 0 := fun z => by
            have := List.eq_nil_of_length_eq_zero z
            subst this
            cases hr
          refine (hap r hr).mono (by omega) ?_
          rw [List.length_append]
          omega
        · rw [List.length_append]; omega
        · rw [List.length_append]; omega
    case k =>
      rintro σ' H5 ⟨bh, crs, rfl, s5, hla, ⟨cvs, hcv, hcR⟩, hcp, hcl⟩
      have ha5 : H5 a = some (.lst [.str n0, .str n1', .str n2, .str n3, .str n4, .str n5]) := s5 _ _ ha6
      walk_at "rd"
      have x5 := haR.len
      have x6 : cvs.length = crs.length := hcR.len
      refine ⟨show 2 ≤ sizeLine by decide, fun lt H6 n6 => ?_⟩
      walk_at "rd"
      have h6 : Same H5 H6 := n6.sm
      have times : ∀ Q' : VK, (∀ m : Int, 0 ≤ m → m ≤ 12 → Q' (.int m) H6) → rIxA g.K (.ref lt) (.int (if decide (0 < ((avs.length : Nat) : Int)) then 1 else 0)) H6 Q' := fun Q' q' => by
        by_cases hh : 0 < ((avs.length : Nat) : Int)
        · rw [decide_eq_true hh]
          exact v_ixL (SqL.of n6.at_) at1 (q' _ (by omega) (by omega))
        · rw [decide_eq_false hh]
          exact v_ixL (SqL.of n6.at_) at0 (q' _ (by omega) (by omega))
      refine times _ fun tm t0 t12 => ?_
      walk_at "rd"
      refine ⟨show 3 ≤ sizeLine by decide, fun p1 H7 n7 => ?_⟩
      walk_at "rd"
      refine ⟨show 3 ≤ sizeLine by decide, fun p2 H8 n8 => ?_⟩
      walk_at "rd"
      refine ⟨show 3 ≤ sizeLine by decide, fun p3 H9 n9 => ?_⟩
      walk_at "rd"
      refine ⟨show 3 ≤ sizeLine by decide, fun p4 H10 n10 => ?_⟩
      walk_at "rd"
      refine v_addL (by walk_at "hh") (by walk_at "hh") (by show 3 + cvs.length ≤ sizeLine; rw [x6]; exact Nat.le_of_lt (small_sz (by omega))) fun l5 H11 n11 => ?_
      walk_at "rd"
      refine ⟨show 4 ≤ sizeLine by decide, fun p5 H12 n12 => ?_⟩
      walk_at "rd"
      refine ⟨show 3 ≤ sizeLine by decide, fun p6 H13 n13 => ?_⟩
      walk_at "rd"
      refine ⟨show 2 ≤ sizeLine by decide, fun p7 H14 n14 => ?_⟩
      walk_at "rd"
      refine ⟨show 3 ≤ sizeLine by decide, fun l6 H15 n15 => ?_⟩
      walk_at "rd"
      refine v_addL (by walk_at "hh") (by walk_at "hh") (by rw [List.length_append]; show 3 + cvs.length + 3 ≤ sizeLine; rw [x6]; exact Nat.le_of_lt (small_sz (by omega))) fun l7 H16 n16 => ?_
      walk_at "rd"
      have s16 : Same H5 H16 := by walk_at "sm"
      have hR16 : RowsV H16 ([.ref p1, .ref p2, .ref p3] ++ cvs ++ [.ref p5, .ref p6, .ref p7]) ([.put n5 (1 + c3 / 12 % 5), .put n1' 1, .put n0 tm] ++ crs ++ [.work .minus n0 (.nm n0) (.nm n1'), .zero n0 (3 + ((cvs.length : Nat) : Int) + 3), .jump 3]) := RowsV.app (RowsV.app (RowsV.one (by walk_at "hh") rfl (RowsV.one (by walk_at "hh") rfl (RowsV.one (by walk_at "hh") rfl RowsV.nil))) (RowsV.tk (Same.tk s16) hcR)) (RowsV.one (by walk_at "hh") rfl (RowsV.one (by walk_at "hh") rfl (RowsV.one (by walk_at "hh") rfl RowsV.nil)))
      have s17 : Same H1 H16 := Same.trans s5 s16
      have h16 := n16.at_
      clear n6 n7 n8 n9 n10 n11 n12 n13 n14 n15 h6
      have hp16 : ∀ r ∈ [R.put n5 (1 + c3 / 12 % 5), .put n1' 1, .put n0 tm] ++ crs ++ [.work .minus n0 (.nm n0) (.nm n1'), .zero n0 (3 + ((cvs.length : Nat) : Int) + 3), .jump 3], PRow ns 0 (7 + crs.length) r := all_app (all_app (all_cons (.s (sPut m5 (by omega))) (all_cons (.s (sPut m1 (by omega))) (all_cons (.s (sPut m0 (by omega))) all_nil))) fun r hr => (hcp r hr).mono (by omega) (by omega)) (all_cons (.s (sWork m0 m0 m1)) (all_cons (.z m0 (by omega)) (all_cons (.j (by omega)) all_nil)))
      refine k_joinI (P := fun σ' H' => ∃ l8 tvs trs, σ' = [some (.ref sa), some (.ref a), some (.int z), some (.int c3), some (.int way), some (.ref la), some (.ref bh), some (.int tm), some (.ref l8), some (.int (3 + ((cvs.length : Nat) : Int))), none] ∧ Same H1 H' ∧ H' l8 = some (.lst tvs) ∧ RowsV H' tvs trs ∧ (∀ r ∈ trs, PRow ns 0 (trs.length + 1) r) ∧ trs.length ≤ 80) ?k ?h
      case h =>
        intro key
        refine i_d (fun h3 => ?_) (fun h3 => ?_)
        · walk_at "rd"
          refine ⟨show 4 ≤ sizeLine by decide, fun p5 H12 n12 => ?_⟩
          walk_at "rd"
          refine ⟨show 3 ≤ sizeLine by decide, fun p6 H13 n13 => ?_⟩
          walk_at "rd"
          refine ⟨show 2 ≤ sizeLine by decide, fun p7 H14 n14 => ?_⟩
          walk_at "rd"
          refine ⟨show 3 ≤ sizeLine by decide, fun l6 H15 n15 => ?_⟩
          walk_at "rd"
          refine v_addL (by walk_at "hh") (by walk_at "hh") (by rw [hR16.len, List.length_append, List.length_append]; show 3 + crs.length + 3 + 3 ≤ sizeLine; exact Nat.le_of_lt (small_sz (by omega))) fun l8 H17 n17 => ?_
          have s17' : Same H16 H17 := by walk_at "sm"
          refine key _ _ ⟨l8, _, _, rfl, Same.trans s17 s17', n17.at_, RowsV.app (RowsV.tk (Same.tk s17') hR16) (RowsV.one (r := .work .minus n5 (.nm n5) (.nm n1')) (by walk_at "hh") rfl (RowsV.one (r := .zero n5 (3 + ((cvs.length : Nat) : Int) + 6)) (by walk_at "hh") rfl (RowsV.one (r := .jump 2) (by walk_at "hh") rfl RowsV.nil))), ?_, ?_⟩
          · simp only [List.length_append, List.length_cons, List.length_nil]
            exact all_app (fun r hr => (hp16 r hr).mono (by omega) (by omega)) (all_cons (.s (sWork m5 m5 m1)) (all_cons (.z m5 (by omega)) (all_cons (.j (by omega)) all_nil)))
          · simp only [List.length_append, List.length_cons, List.length_nil]
            omega
        · refine k_next (key _ _ ⟨l7, _, _, rfl, s17, h16, hR16, ?_, ?_⟩)
          · simp only [List.length_append, List.length_cons, List.length_nil]
            exact fun r hr => (hp16 r hr).mono (by omega) (by omega)
          · simp only [List.length_append, List.length_cons, List.length_nil]
            omega
      case k =>
        rintro σ' H6 ⟨l8, tvs, trs, rfl, s6, hl8, htR, htp, htl⟩
        clear hR16 hp16 h16 n16 s17 s16 
        have ha7 : H6 a = some (.lst [.str n0, .str n1', .str n2, .str n3, .str n4, .str n5]) := s6 _ _ ha6
        walk_at "rd"
        refine ⟨show 2 ≤ sizeLine by decide, fun p1 H7 n7 => ?_⟩
        walk_at "rd"
        refine ⟨show 2 ≤ sizeLine by decide, fun p2 H8 n8 => ?_⟩
        walk_at "rd"
        refine ⟨show 1 ≤ sizeLine by decide, fun p3 H9 n9 => ?_⟩
        walk_at "rd"
        refine ⟨show 3 ≤ sizeLine by decide, fun l9 H10 n10 => ?_⟩
        walk_at "rd"
        refine v_slL (SqL.of n10.at_) fun l10 H11 n11 => ?_
        obtain ⟨k, hk, hk1, hk4⟩ : ∃ k : Nat, 4 - way = (k : Int) ∧ 1 ≤ k ∧ k ≤ 4 := ⟨(4 - way).toNat, by omega, by omega, by omega⟩
        rw [hk, cutTo] at n11
        have hR9 : RowsV H10 [.ref p1, .ref p2, .ref p3] [.tell (.nm n2), .tell (.nm n3), .stop] := RowsV.one (by walk_at "hh") rfl (RowsV.one (by walk_at "hh") rfl (RowsV.one (by walk_at "hh") rfl RowsV.nil))
        have hR10 := RowsV.tk (Same.tk n11.sm) (All2.take k hR9)
        have hlen : ([R.tell (.nm n2), .tell (.nm n3), .stop].take k).length = min k 3 := List.length_take ..
        refine v_addL (by walk_at "hh") n11.at_ (by rw [htR.len, hR10.len, hlen]; exact Nat.le_of_lt (small_sz (by omega))) fun l12 H12 n12 => ?_
        have s12 : Same H6 H12 := by walk_at "sm"
        refine q ns (trs ++ [R.tell (.nm n2), .tell (.nm n3), .stop].take k) hn ⟨?_, ?_⟩ l12 H12 ⟨Same.free (Same.trans n1.sm (Same.trans s6 (show Same H6 H11 by walk_at "sm"))) n12.fr, Same.trans n1.sm (Same.trans s6 s12), _, n12.at_, RowsV.app (RowsV.tk (Same.tk s12) htR) (RowsV.tk (Same.tk n12.sm) hR10)⟩
        · rw [List.length_append, hlen]
          exact all_app (fun r hr => (htp r hr).mono (by omega) (by omega)) fun r hr => by
            have := List.mem_of_mem_take hr
            rcases List.mem_cons.mp this with rfl | hr
            · exact .s (sTell m2)
            rcases List.mem_cons.mp hr with rfl | hr
            · exact .s (sTell m3)
            rw [List.mem_singleton.mp hr]
            exact .t
        · rw [List.length_append, hlen]
          omega

end Tf

namespace Tf
open PySem L2
local macro_rules | `(tactic| walk_at "hl") => `(tactic| first
  | assumption
  | exact SqL.of (by walk_at "hh")
  | exact Same.seq (New.sm (by assumption)) (by walk_at "hl")
  | exact Same.seq (NewX.sm (by assumption)) (by walk_at "hl")
  | exact Same.seq (by assumption) (by walk_at "hl"))
local macro_rules | `(tactic| walk_at "ht") => `(tactic| first
  | assumption
  | exact SqT.of (by walk_at "hh")
  | exact Same.tup (New.sm (by assumption)) (by walk_at "ht")
  | exact Same.tup (NewX.sm (by assumption)) (by walk_at "ht")
  | exact Same.tup (by assumption) (by walk_at "ht"))
local macro_rules | `(tactic| walk_at "hr") => `(tactic| first
  | assumption
  | exact Or.inl (by walk_at "hh")
  | exact Same.rd (New.sm (by assumption)) (by walk_at "hr")
  | exact Same.rd (NewX.sm (by assumption)) (by walk_at "hr")
  | exact Same.rd (by assumption) (by walk_at "hr"))
local macro_rules | `(tactic| walk_at "hh") => `(tactic| first
  | assumption
  | exact New.at_ (by assumption)
  | exact NewX.at_ (by assumption)
  | exact Wr.at_ (by assumption)
  | exact Same.get (New.sm (by assumption)) (by walk_at "hh")
  | exact Same.get (NewX.sm (by assumption)) (by walk_at "hh")
  | exact Same.get (by assumption) (by walk_at "hh"))
local macro_rules | `(tactic| walk_at "sm") => `(tactic| first
  | exact Same.refl _
  | assumption
  | exact Same.tr2 (New.sm (by assumption)) (by walk_at "sm")
  | exact Same.tr2 (NewX.sm (by assumption)) (by walk_at "sm")
  | exact Same.tr2 (by assumption) (by walk_at "sm"))
local macro_rules | `(tactic| walk_at "ix") => `(tactic| with_reducible first | exact at0 | exact at1 | exact at2 | exact at3 | exact at4 | exact at5 | exact at6 | exact at7)
local macro_rules | `(tactic| walk_at "tyx") => `(tactic| first
  | exact TyX.base (TyOf.int _) | exact TyX.base (TyOf.str _) | exact TyX.base (TyOf.bl _) | exact TyX.base TyOf.non
  | exact TyX.base (TyOf.lst (by walk_at "hh")) | exact TyX.base (TyOf.tup (by walk_at "hh")) | exact TyX.base (TyOf.dK (by walk_at "hh")))
local macro_rules | `(tactic| walk_at "cond") => `(tactic| first | assumption | exact rfl | decide +kernel | omega | (simp only [List.length_cons, List.length_nil]; omega))
local macro_rules | `(tactic| walk_at "rd1") => `(tactic| first
  | with_reducible refine Rd.go ?_
  | ((with_reducible refine' k_var ?rdh ?_); (case rdh => exact rfl))
  | ((with_reducible refine' k_gt2 ?rdh ?_); (case rdh => walk_at "ht"))
  | ((with_reducible refine' v_mod ?rdh ?_); (case rdh => first | decide | omega))
  | ((with_reducible refine' v_fdiv ?rdh ?_); (case rdh => exact ⟨by decide, by decide⟩))
  | ((with_reducible refine' v_mulI ?rdh ?_); (case rdh => first | exact .inl ⟨by omega, by omega⟩ | exact .inr ⟨by omega, by omega⟩))
  | ((with_reducible refine' v_isiT ?rdh ?rdk ?_); (case rdh => walk_at "tyx"); (case rdk => decide +kernel))
  | ((with_reducible refine' v_isiF ?rdh ?rdk ?_); (case rdh => walk_at "tyx"); (case rdk => decide +kernel))
  | ((with_reducible refine' v_ixT ?rdh ?rdk ?_); (case rdh => walk_at "ht"); (case rdk => walk_at "ix"))
  | ((with_reducible refine' v_ixL ?rdh ?rdk ?_); (case rdh => walk_at "hl"); (case rdk => walk_at "ix"))
  | ((with_reducible refine' v_lenL ?rdh ?_); (case rdh => walk_at "hl"))
  | ((with_reducible refine' v_lenT ?rdh ?_); (case rdh => walk_at "ht"))
  | ((with_reducible refine' v_lenD ?rdh ?_); (case rdh => walk_at "hh"))
  | ((with_reducible refine' i_dT ?rdh ?_); (case rdh => walk_at "cond"))
  | ((with_reducible refine' i_dF ?rdh ?_); (case rdh => walk_at "cond"))
  | ((with_reducible refine' i_nT ?rdh ?_); (case rdh => walk_at "cond"))
  | ((with_reducible refine' i_nF ?rdh ?_); (case rdh => walk_at "cond"))
  | ((with_reducible refine' i_bT ?rdh ?_); (case rdh => first | assumption | decide +kernel))
  | ((with_reducible refine' i_bF ?rdh ?_); (case rdh => first | assumption | decide +kernel)))
local macro_rules | `(tactic| walk_at "rd") => `(tactic| repeat walk_at "rd1")

variable {g : En} {H H0 : Hp} {Q : VK} {E : XK} {a b p l d : Addr} {ns : List Str} {e : En0} {r : R} {rs : List R} {σ : L2.St}
theorem nodup_snoc {A : Type} {xs : List A} {x : A} (h : xs.Nodup) (n : x ∉ xs) : (xs ++ [x]).Nodup := by
  rw [List.nodup_append]
  refine ⟨h, by simp, ?_⟩
  intro a ha b hb
  rw [List.mem_singleton.mp hb]
  exact fun z => n (z ▸ ha)
theorem fold_put (l : List Str) : ∀ e : En0, (keys e).Nodup → EnOk e → (keys (l.foldl (fun e n => putE e n 0) e)).Nodup ∧ EnOk (l.foldl (fun e n => putE e n 0) e) ∧ (∀ n ∈ keys e, n ∈ keys (l.foldl (fun e n => putE e n 0) e)) ∧ ∀ n ∈ l, n ∈ keys (l.foldl (fun e n => putE e n 0) e) := by
  induction l with
  | nil => exact fun e h1 h2 => ⟨h1, h2, fun _ h => h, fun _ h => by cases h⟩
  | cons x t ih =>
    intro e h1 h2
    have k1 : (keys (putE e x 0)).Nodup := by
      rw [keys_putE]
      split
      · exact h1
      · rename_i hx
        exact nodup_snoc h1 hx
    have k2 : ∀ n ∈ keys e, n ∈ keys (putE e x 0) := fun n hn => by
      rw [keys_putE]
      split
      · exact hn
      · exact List.mem_append.mpr (.inl hn)
    have k3 : x ∈ keys (putE e x 0) := by
      rw [keys_putE]
      split
      · assumption
      · exact List.mem_append.mpr (.inr (List.mem_singleton.mpr rfl))
    obtain ⟨i1, i2, i3, i4⟩ := ih (putE e x 0) k1 (EnOk.put h2 (by omega))
    exact ⟨i1, i2, fun n hn => i3 n (k2 n hn), fun n hn => by
      rcases List.mem_cons.mp hn with rfl | hn
      · exact i3 _ k3
      · exact i4 n hn⟩
theorem fold_all (rs : List R) : ∀ e : En0, (keys e).Nodup → EnOk e → (keys (rs.foldl allR e)).Nodup ∧ EnOk (rs.foldl allR e) ∧ (∀ n ∈ keys e, n ∈ keys (rs.foldl allR e)) ∧ ∀ r ∈ rs, ∀ n ∈ r.ns, n ∈ keys (rs.foldl allR e) := by
  induction rs with
  | nil => exact fun e h1 h2 => ⟨h1, h2, fun _ h => h, fun _ h => by cases h⟩
  | cons x t ih =>
    intro e h1 h2
    obtain ⟨k1, k2, k3, k4⟩ := fold_put x.ns e h1 h2
    obtain ⟨i1, i2, i3, i4⟩ := ih (allR e x) k1 k2
    exact ⟨i1, i2, fun n hn => i3 n (k3 n hn), fun r hr n hn => by
      rcases List.mem_cons.mp hr with rfl | hr
      · exact i3 n (k4 n hn)
      · exact i4 r hr n hn⟩
theorem srcIn_of {s : Src} (h : ∀ n ∈ s.ns, n ∈ keys e) : srcIn e s := by
  cases s with
  | num i => trivial
  | nm n => exact h n (List.mem_singleton.mpr rfl)
theorem rowIn_of (hg : isG r = false) (h : ∀ n ∈ r.ns, n ∈ keys e) : rowIn e r := by
  cases r with
  | put n k => exact h n (List.mem_singleton.mpr rfl)
  | copy n s => exact ⟨h n (List.mem_cons.mpr (.inl rfl)), srcIn_of fun m hm => h m (List.mem_cons.mpr (.inr hm))⟩
  | work w n x y => exact ⟨h n (List.mem_cons.mpr (.inl rfl)), srcIn_of fun m hm => h m (List.mem_cons.mpr (.inr (List.mem_append.mpr (.inl hm)))), srcIn_of fun m hm => h m (List.mem_cons.mpr (.inr (List.mem_append.mpr (.inr hm))))⟩
  | tell s => exact srcIn_of h
  | jump p => trivial
  | zero n p => exact h n (List.mem_singleton.mpr rfl)
  | stop => trivial
  | guard _ _ _ _ _ => cases hg
theorem PRow.ok {lo hi : Int} (h : PRow ns lo hi r) : rowOk r := by
  cases h with
  | s h => exact h.ok
  | z hn h => trivial
  | j h => trivial
  | t => trivial
def headS : R → Str
  | .put .. => "put" | .copy .. => "copy" | .work w .. => w.s | .tell .. => "tell" | .jump .. => "jump" | .zero .. => "zero" | .stop => "stop" | .guard .. => "guard"
theorem vs_head (hg : isG r = false) : r.vs = .str (headS r) :: r.vs.tail := by cases r <;> first | rfl | cases hg
theorem head_stop (h : ¬ headS r = "stop") : isStop r = false := by cases r <;> first | rfl | exact absurd rfl h
theorem toldE_len (e : En0) (r : R) : (toldE e r).length ≤ 1 := by cases r <;> simp [toldE]
theorem done_len (h : rowIn e r) : (doneE e r).length = e.length := by
  have := congrArg List.length (keys_doneE h)
  simpa [keys] using this
theorem encE_keys (e : En0) : (encE e).map (fun kv => kV kv.1) = (keys e).map V.str := by
  unfold encE keys
  rw [List.map_map, List.map_map]
  rfl
theorem ty_d {K : PySem.W.Frag} {kvs : List (Key × V)} (h : H d = some (.dK kvs)) : tyV K "dict" (.ref d) H := .inr (.inr (.inl ⟨rfl, .inl ⟨kvs, h⟩⟩))
theorem cutFrom1 (xs : List V) : cutV xs (some 1) none = xs.drop 1 := by
  cases xs with
  | nil => rfl
  | cons x t => exact cut1 _ (by intro z; cases z)
local macro_rules | `(tactic| walk_at "rp") => `(tactic| repeat (first | walk_at "rd1" | with_reducible refine k_pc ?_ | with_reducible refine k_pn ?_))
theorem wk_of {v : V} (h : v ∈ [V.str "add", .str "minus", .str "times", .str "less"]) : ∃ w : Wk, v = .str w.s := by
  simp only [List.mem_cons, List.not_mem_nil, or_false] at h
  rcases h with rfl | rfl | rfl | rfl
  · exact ⟨.add, rfl⟩
  · exact ⟨.minus, rfl⟩
  · exact ⟨.times, rfl⟩
  · exact ⟨.less, rfl⟩
/-- LAW: a plain step -/
theorem r_law_k01 {sa : Addr} {ss : List Int} (hS : SqL g.K H sa (ss.map V.int)) (h63 : ss.length ≤ 63) (q : ∀ H2, Q (.bl true) H2) : sp_law_k01 g [.ref sa] H Q E := by
  refine ⟨_, rfl, ?_⟩
  unfold t_law_k01
  walk_at "rd"
  refine r_law_program hS h63 fun ns rs hn po l H1 nr => ?_
  obtain ⟨fl, s1, vs, hv, hR⟩ := nr
  walk_at "rd"
  have hg : ∀ r ∈ rs, isG r = false := fun r hr => (po.rows r hr).ng
  refine r_law_all ⟨vs, hv, hR⟩ hg (by have := po.size; omega) fun d H2 nd => ?_
  obtain ⟨nd0, ok0, -, in0⟩ := fold_all rs [] (by exact List.nodup_nil) (fun p hp => by cases hp)
  have len0 : (allE rs).length ≤ 270 := by
    have h1 := allE_len rs []
    have h2 := po.size
    have h3 : ([] : En0).length = 0 := rfl
    unfold allE
    omega
  change (keys (allE rs)).Nodup at nd0
  change EnOk (allE rs) at ok0
  change ∀ r ∈ rs, ∀ n ∈ r.ns, n ∈ keys (allE rs) at in0
  generalize allE rs = e0 at *
  walk_at "rd"
  refine v_listD (.inl nd.at_) fun c H3 nc => ?_
  rw [encE_keys] at nc
  walk_at "rd"
  refine v_forE (SqL.of nc.at_) (fun i σ' H' => ∃ x3 x4 e, σ' = [some (.ref sa), some (.ref l), some (.ref d), x3, x4, none, none, none, none, none, none, none, none, none, none, none] ∧ keys e = keys e0 ∧ EnOk e ∧ NewX H1 d (.dK (encE e)) H' ∧ H' c = some (.lst ((keys e0).map V.str))) ⟨_, _, e0, rfl, rfl, ok0, nd.up nc.sm, nc.at_⟩ (fun i σ' H' ⟨_, _, _, _, _, _, _, hc⟩ => SqL.of hc) ?_ ?_
  · rintro i x σ' H' T H'' hx ⟨x3, x4, e, rfl, ke, ok, n, hc⟩ nT
    obtain ⟨nm, hnm, rfl⟩ := List.mem_map.mp (List.mem_of_getElem? hx)
    have le : e.length ≤ 270 := by
      have := congrArg List.length ke
      simp only [keys, List.length_map] at this
      omega
    walk_at "rd"
    refine r_law_cell_at (Same.seq (Same.trans (Same.trans s1 n.sm) nT.sm) hS) (by omega) ?_
    walk_at "rd"
    refine r_law_number fun z hz => ?_
    walk_at "rd"
    refine e_put (nT.sm _ _ n.at_) (by rw [encE_len]; exact small_sz (by omega)) fun H4 w => ?_
    rw [putK_encE] at w
    refine ⟨_, _, putE e nm z, rfl, ?_, ok.put hz, Wr.newX (n.up nT.sm) w, w.keep (nT.sm _ _ hc) (ne_of (nT.sm _ _ hc) (nT.sm _ _ n.at_) (by intro z; cases z))⟩
    rw [keys_putE_mem (by rw [ke]; exact hnm), ke]
  · rintro σ' H4 ⟨x3, x4, e, rfl, ke, ok, n, -⟩
    have le : e.length ≤ 270 := by
      have := congrArg List.length ke
      simp only [keys, List.length_map] at this
      omega
    have hv4 := n.sm _ _ hv
    have hR4 := RowsV.tk (Same.tk n.sm) hR
    rw [← ke] at nd0 in0
    have hd4 := n.at_
    clear nd n nc hR hv
    walk_at "rd"
    refine v_listL (SqL.of hv4) fun kp H5 nk => ?_
    walk_at "rd"
    refine v_dict (.inl (by walk_at "hh")) fun hd H6 nh => ?_
    walk_at "rd"
    have hv6 : H6 l = some (.lst vs) := by walk_at "hh"
    have hk6 : H6 kp = some (.lst vs) := by walk_at "hh"
    have hd6 : H6 d = some (.dK (encE e)) := by walk_at "hh"
    have hh6 := nh.at_
    have hR6 := RowsV.tk (Same.tk (Same.trans nk.sm nh.sm)) hR4
    clear hv4 hR4 hd4 nk nh
    have inr : ∀ r ∈ rs, rowIn e r ∧ rowOk r := fun r hr => ⟨rowIn_of (hg r hr) (in0 r hr), (po.rows r hr).ok⟩
    refine v_forE (SqL.of hv6) (fun i σ' H' => ∃ x7 x8 x9 x10, σ' = [some (.ref sa), some (.ref l), some (.ref d), x3, x4, some (.ref kp), some (.ref hd), x7, x8, x9, x10, none, none, none, none, none] ∧ Same H6 H') ⟨_, _, _, _, rfl, Same.refl _⟩ (fun i σ' H' ⟨_, _, _, _, _, s⟩ => Same.seq s (SqL.of hv6)) ?_ ?_
    · rintro i x σ' H7 T H8 hx ⟨x7, x8, x9, x10, rfl, s7⟩ nT
      obtain ⟨r, hr, bp, rfl, hO⟩ := hR6.get hx
      have hrs : r ∈ rs := List.mem_of_getElem? hr
      obtain ⟨ri, ro⟩ := inr r hrs
      have s8 : Same H6 H8 := Same.trans s7 nT.sm
      have hb := s8 _ _ (rowO_vs hO (hg r hrs))
      rw [vs_head (hg r hrs)] at hb
      walk_at "rd"
      refine i_n (fun hs => ?_) (fun hs => ?_)
      · have st := head_stop hs
        have dl : (doneE e r).length ≤ 300 := by rw [done_len ri]; omega
        have dn : (keys (doneE e r)).Nodup := by rw [keys_doneE ri]; exact nd0
        have tl := toldE_len e r
        have hv8 := s8 _ _ hv6
        have hk8 := s8 _ _ hk6
        have hd8 := s8 _ _ hd6
        have hh8 := s8 _ _ hh6
        have hR8 := RowsV.tk (Same.tk s8) hR6
        walk_at "rd"
        refine r_law_step ⟨vs, hv8, hR8⟩ rfl hr hd8 (hg r hrs) st ok ri ro (by omega) fun t2 d2 m2 H9 S2 => ?_
        walk_at "rd"
        have s9 := S2.sm
        refine r_stepped ⟨vs, s9 _ _ hk8, RowsV.tk (Same.tk s9) hR8⟩ rfl hr (s9 _ _ hh8) (hg r hrs) st ok ri ro (by omega) fun t1 d1 m1 H10 S1 => ?_
        walk_at "rd"
        have ne1 : d1 ≠ d2 := fun z => by have := S1.fd; rw [z, S2.hd] at this; cases this
        refine r_law_stepped dn dl (by omega) ne1 S1.ht (S1.sm _ _ S2.ht) S1.hd (S1.sm _ _ S2.hd) S1.hl (S1.sm _ _ S2.hl) fun H11 s11 => ?_
        have ht11 := s11 _ _ S1.ht
        have hd11 := s11 _ _ S1.hd
        have hl11 := s11 _ _ S1.hl
        have s11' := Same.trans S1.sm s11
        walk_at "rd"
        refine ⟨ty_d hd11, ?_⟩
        refine v_dclear hd11 fun H12 w12 => ?_
        have s12 := w12.same s11' S1.fd
        have ht12 := w12.keep ht11 (ne_of ht11 hd11 (by intro z; cases z))
        have hl12 := w12.keep hl11 (ne_of hl11 hd11 (by intro z; cases z))
        walk_at "rd"
        refine ⟨ty_l hl12, ?_⟩
        walk_at "rd"
        refine v_app hl12 (by rw [List.length_map]; exact small_sz (by omega)) fun H13 w13 => ?_
        have s13 := w13.same s12 S1.fl
        clear w12 w13 ht12 hl12 s12 s11' ht11 hd11 hl11 s11 S1 ne1
        walk_at "rd"
        have s13' := Same.trans s9 s13
        refine r_stepped ⟨vs, s13' _ _ hk8, RowsV.tk (Same.tk s13') hR8⟩ rfl hr (s13' _ _ hh8) (hg r hrs) st ok ri ro (by omega) fun t1 d1 m1 H14 S1 => ?_
        have ne1 : d1 ≠ d2 := fun z => by have := S1.fd; rw [z, s13 _ _ S2.hd] at this; cases this
        walk_at "rd"
        refine r_law_stepped dn dl (by omega) ne1 S1.ht (S1.sm _ _ (s13 _ _ S2.ht)) S1.hd (S1.sm _ _ (s13 _ _ S2.hd)) S1.hl (S1.sm _ _ (s13 _ _ S2.hl)) fun H15 s15 => ?_
        walk_at "rd"
        exact ⟨_, _, _, _, rfl, Same.trans (Same.trans s8 s13') (Same.trans S1.sm s15)⟩
      · walk_at "rd"
        exact ⟨_, _, _, _, rfl, s8⟩
    · rintro σ' H7 ⟨x7, x8, x9, x10, rfl, s7⟩
      have hv7 := s7 _ _ hv6
      have hk7 := s7 _ _ hk6
      have hd7 := s7 _ _ hd6
      have hh7 := s7 _ _ hh6
      have hr7 : ∀ v ∈ vs, ∃ p, v = .ref p := fun v hm => by
        obtain ⟨i, hi⟩ := List.mem_iff_getElem?.mp hm
        obtain ⟨r, -, p, e1, -⟩ := hR6.get hi
        exact ⟨p, e1⟩
      clear hv6 hk6 hd6 hh6 hR6 s7
      walk_at "rd"
      refine v_listD (.inl hd7) fun c H8 nc => ?_
      rw [encE_keys] at nc
      walk_at "rd"
      refine v_lcLs (ys := e.map fun p => V.int p.2) (SqL.of nc.at_) (by simp [keys]) (by simp [keys]; omega) ?_ ?_
      · intro i x y H' hx hy s Q' q'
        simp only [keys, List.map_map] at hx
        rw [List.getElem?_map] at hx hy
        obtain ⟨p, hp, rfl⟩ := Option.map_eq_some_iff.mp hx
        rw [hp] at hy
        cases hy
        simp only [wipe]
        show tOp (rIxA g.K) (tVar 2) (tVar 4) [some (.ref sa), some (.ref l), some (.ref d), x3, some (.str p.1), some (.ref kp), some (.ref hd), x7, x8, x9, x10, none, none, none, none, none] H' Q'
        walk_at "rd"
        exact v_ixDS (.inl (s _ _ (nc.sm _ _ hd7))) (by rw [valV_encE, lkE_self nd0 (List.mem_of_getElem? hp)]; rfl) (q' H' (Same.refl _))
      · intro D H9 n9
        have n9' := n9.of nc.sm
        have hv9 := n9'.sm _ _ hv7
        have hk9 := n9'.sm _ _ hk7
        have hd9 := n9'.sm _ _ hd7
        have hh9 := n9'.sm _ _ hh7
        have hD := n9.at_
        clear n9 n9' nc hv7 hk7 hd7 hh7
        have hxs : ∀ v ∈ e.map (fun p => V.int p.2), ∃ i : Int, v = .int i ∧ 0 ≤ i ∧ i < 1000000 := fun v hm => by
          obtain ⟨p, hp, rfl⟩ := List.mem_map.mp hm
          exact ⟨p.2, rfl, ok p hp⟩
        have hxl : (e.map fun p => V.int p.2).length ≤ 270 := by rw [List.length_map]; exact le
        generalize (e.map fun p => V.int p.2) = xs at hD hxs hxl
        walk_at "rd"
        refine v_slL (SqL.of hD) fun la H10 na => ?_
        walk_at "rd"
        refine v_slL (SqL.of (na.sm _ _ hD)) fun lb H11 nb => ?_
        have cb : cutV xs none (some 1) = xs.take 1 := cutTo (k := 1)
        rw [cutFrom1] at na
        rw [cb] at nb
        walk_at "rd"
        refine v_addL (by walk_at "hh") nb.at_ (by rw [List.length_drop, List.length_take]; exact Nat.le_of_lt (small_sz (by omega))) fun lz H12 nz => ?_
        walk_at "rd"
        have hD12 : H12 D = some (.lst xs) := by walk_at "hh"
        have hv12 : H12 l = some (.lst vs) := by walk_at "hh"
        have hk12 : H12 kp = some (.lst vs) := by walk_at "hh"
        have hd12 : H12 d = some (.dK (encE e)) := by walk_at "hh"
        have hh12 : H12 hd = some (.dK (encE e)) := by walk_at "hh"
        have hz12 := nz.at_
        clear nz na nb hv9 hk9 hd9 hh9 hD
        refine v_forZ (SqL.of hD12) (SqL.of hz12) (by rw [List.length_append, List.length_drop, List.length_take]; omega) (fun i σ' H' => ∃ x8 x12 x13 x14 x15, σ' = [some (.ref sa), some (.ref l), some (.ref d), x3, x4, some (.ref kp), some (.ref hd), x7, x8, x9, x10, some (.ref D), x12, x13, x14, x15] ∧ Same H12 H') ⟨_, _, _, _, _, rfl, Same.refl _⟩ (fun i σ' H' ⟨_, _, _, _, _, _, s⟩ => ⟨Same.seq s (SqL.of hD12), Same.seq s (SqL.of hz12)⟩) ?_ ?_
        · rintro i x y σ' H' T H'' hx hy ⟨x8, x12, x13, x14, x15, rfl, s⟩ nT
          obtain ⟨one, rfl, ho1, ho2⟩ := hxs x (List.mem_of_getElem? hx)
          obtain ⟨other, rfl, hr1, hr2⟩ := hxs y ((List.mem_append.mp (List.mem_of_getElem? hy)).elim List.mem_of_mem_drop List.mem_of_mem_take)
          have s2 := Same.trans s nT.sm
          walk_at "rd"
          refine ⟨show 4 ≤ sizeLine by decide, fun wl H3 nw => ?_⟩
          refine v_forL (SqL.of nw.at_) (fun i σ' H' => ∃ x8 x14 x15, σ' = [some (.ref sa), some (.ref l), some (.ref d), x3, x4, some (.ref kp), some (.ref hd), x7, x8, x9, x10, some (.ref D), some (.int one), some (.int other), x14, x15] ∧ Same H3 H') ⟨_, _, _, rfl, Same.refl _⟩ (fun i σ' H' ⟨_, _, _, _, s⟩ => Same.seq s (SqL.of nw.at_)) ?_ ?_
          · rintro i x σ' H4 hx ⟨x8, x14, x15, rfl, s4⟩
            obtain ⟨w, rfl⟩ := wk_of (List.mem_of_getElem? hx)
            walk_at "rd"
            refine ⟨show 4 ≤ sizeLine by decide, fun p1 H5 n5 => ?_⟩
            walk_at "rd"
            refine ⟨show 4 ≤ sizeLine by decide, fun p2 H6 n6 => ?_⟩
            walk_at "rd"
            refine ⟨show 2 ≤ sizeLine by decide, fun pl H7 n7 => ?_⟩
            have hp1 : H7 p1 = some (.tup (R.work w "x" (.nm "y") (.nm "z")).vs) := by walk_at "hh"
            have hp2 : H7 p2 = some (.tup (R.work w "x" (.nm "y") (.nm "y")).vs) := by walk_at "hh"
            have s7 : Same H4 H7 := by walk_at "sm"
            refine v_forL (SqL.of n7.at_) (fun i σ' H' => ∃ x8 x15, σ' = [some (.ref sa), some (.ref l), some (.ref d), x3, x4, some (.ref kp), some (.ref hd), x7, x8, x9, x10, some (.ref D), some (.int one), some (.int other), some (.str w.s), x15] ∧ Same H7 H') ⟨_, _, rfl, Same.refl _⟩ (fun i σ' H' ⟨_, _, _, s⟩ => Same.seq s (SqL.of n7.at_)) ?_ ?_
            · rintro i x σ' H8 hx ⟨x8, x15, rfl, s8⟩
              obtain ⟨z, hz, rp, rfl, hrp⟩ : ∃ z : Str, (z = "y" ∨ z = "z") ∧ ∃ rp, x = .ref rp ∧ H8 rp = some (.tup (R.work w "x" (.nm "y") (.nm z)).vs) := by
                rcases List.mem_cons.mp (List.mem_of_getElem? hx) with rfl | hx
                · exact ⟨_, .inr rfl, p1, rfl, s8 _ _ hp1⟩
                · rw [List.mem_singleton.mp hx]
                  exact ⟨_, .inl rfl, p2, rfl, s8 _ _ hp2⟩
              walk_at "rd"
              refine k_disp fun vd H9 n9 => ?_
              walk_at "rp"
              refine ⟨n9.at_, [(.inr "x", _), (.inr "y", _), (.inr "z", _)], rfl, (show 3 ≤ 15 by decide), fun H10 w10 => ?_⟩
              have w10' : H10 vd = some (.dK (encE [("x", 5), ("y", one), ("z", other)])) := w10.at_
              have s10 : Same H8 H10 := w10.same n9.sm n9.fr
              clear w10 n9
              have okv : EnOk [("x", 5), ("y", one), ("z", other)] := fun p hp => by
                rcases List.mem_cons.mp hp with rfl | hp
                · exact ⟨by show (0 : Int) ≤ 5; decide, by show (5 : Int) < 1000000; decide⟩
                rcases List.mem_cons.mp hp with rfl | hp
                · exact ⟨ho1, ho2⟩
                rw [List.mem_singleton.mp hp]
                exact ⟨hr1, hr2⟩
              have ndv : (keys [(("x" : Str), (5 : Int)), ("y", one), ("z", other)]).Nodup := by
                show [("x" : Str), "y", "z"].Nodup
                decide
              have riv : rowIn [("x", 5), ("y", one), ("z", other)] (R.work w "x" (.nm "y") (.nm z)) := by
                refine ⟨?_, ?_, ?_⟩
                · show ("x" : Str) ∈ [("x" : Str), "y", "z"]; decide
                · show ("y" : Str) ∈ [("x" : Str), "y", "z"]; decide
                · show z ∈ [("x" : Str), "y", "z"]
                  rcases hz with rfl | rfl <;> decide
              walk_at "rd"
              refine ⟨show 1 ≤ sizeLine by decide, fun q1 H11 m1 => ?_⟩
              have rv : ∀ {p : Addr} {H' : Hp}, Same H8 H' → H' p = some (.lst [.ref rp]) → RowsAt H' p [R.work w "x" (.nm "y") (.nm z)] := fun s h => ⟨_, h, RowsV.one (s _ _ hrp) rfl RowsV.nil⟩
              walk_at "rd"
              refine r_stepped (rv (Same.trans s10 m1.sm) m1.at_) (j := 0) rfl rfl (m1.sm _ _ w10') rfl rfl okv riv (by exact ⟨trivial, trivial⟩) (by show 3 ≤ 1000; decide) fun t1 d1 l1 H12 S1 => ?_
              walk_at "rd"
              refine ⟨show 1 ≤ sizeLine by decide, fun q2 H13 m2 => ?_⟩
              walk_at "rd"
              have s13 : Same H10 H13 := Same.trans m1.sm (Same.trans S1.sm m2.sm)
              refine r_law_step (rv (Same.trans s10 s13) m2.at_) (j := 0) rfl rfl (s13 _ _ w10') rfl rfl okv riv (by exact ⟨trivial, trivial⟩) (by show 3 ≤ 1000; decide) fun t2 d2 l2 H14 S2 => ?_
              walk_at "rd"
              have s14 := Same.trans m2.sm S2.sm
              have ne1 : d1 ≠ d2 := fun zz => by
                rcases S2.fd with h | h
                · have := S1.fd
                  rw [zz, h, m1.sm _ _ w10'] at this
                  cases this
                · have := m2.sm _ _ S1.hd
                  rw [zz, h] at this
                  cases this
              refine r_law_stepped (by rw [keys_doneE riv]; exact ndv) (by rw [done_len riv]; show 3 ≤ 300; decide) (by show 0 ≤ 1000; decide) ne1 (s14 _ _ S1.ht) S2.ht (s14 _ _ S1.hd) S2.hd (s14 _ _ S1.hl) S2.hl fun H15 s15 => ?_
              walk_at "rd"
              exact ⟨_, _, rfl, Same.trans s8 (Same.trans s10 (Same.trans s13 (Same.trans S2.sm s15)))⟩
            · rintro σ' H8 ⟨x8, x15, rfl, s8⟩
              exact ⟨_, _, _, rfl, Same.trans s4 (Same.trans s7 s8)⟩
          · rintro σ' H4 ⟨x8, x14, x15, rfl, s4⟩
            exact ⟨_, _, _, _, _, rfl, Same.trans s2 (Same.trans nw.sm s4)⟩
        · rintro σ' H' ⟨x8, x12, x13, x14, x15, rfl, s⟩
          walk_at "rd"
          refine .inr (.inr ⟨3, by decide, eqv_dicts (EqvE.refl nd0) (s _ _ hh12) (s _ _ hd12), ?_⟩)
          walk_at "rd"
          exact r_law_alike hr7 (s _ _ hk12) (s _ _ hv12) fun H2 s2 => q H2
theorem true_k01 {K : PySem.W.Frag} {T : Prop} (_ : T) {H : Hp} {a : Addr} {ns : List Int} (hl : ns.length ≤ 63) (hS : SqL K H a (ns.map V.int)) : sp_law_k01 (enOf K) [.ref a] H (fun v _ => v = .bl true) (fun _ _ _ => False) := r_law_k01 hS hl fun _ => rfl

end Tf

namespace Tf
open PySem L2
local macro_rules | `(tactic| walk_at "hl") => `(tactic| first
  | assumption
  | exact SqL.of (by walk_at "hh")
  | exact Same.seq (New.sm (by assumption)) (by walk_at "hl")
  | exact Same.seq (NewX.sm (by assumption)) (by walk_at "hl")
  | exact Same.seq (by assumption) (by walk_at "hl"))
local macro_rules | `(tactic| walk_at "ht") => `(tactic| first
  | assumption
  | exact SqT.of (by walk_at "hh")
  | exact Same.tup (New.sm (by assumption)) (by walk_at "ht")
  | exact Same.tup (NewX.sm (by assumption)) (by walk_at "ht")
  | exact Same.tup (by assumption) (by walk_at "ht"))
local macro_rules | `(tactic| walk_at "hr") => `(tactic| first
  | assumption
  | exact Or.inl (by walk_at "hh")
  | exact Same.rd (New.sm (by assumption)) (by walk_at "hr")
  | exact Same.rd (NewX.sm (by assumption)) (by walk_at "hr")
  | exact Same.rd (by assumption) (by walk_at "hr"))
local macro_rules | `(tactic| walk_at "hh") => `(tactic| first
  | assumption
  | exact New.at_ (by assumption)
  | exact NewX.at_ (by assumption)
  | exact Wr.at_ (by assumption)
  | exact Same.get (New.sm (by assumption)) (by walk_at "hh")
  | exact Same.get (NewX.sm (by assumption)) (by walk_at "hh")
  | exact Same.get (by assumption) (by walk_at "hh"))
local macro_rules | `(tactic| walk_at "sm") => `(tactic| first
  | exact Same.refl _
  | assumption
  | exact Same.tr2 (New.sm (by assumption)) (by walk_at "sm")
  | exact Same.tr2 (NewX.sm (by assumption)) (by walk_at "sm")
  | exact Same.tr2 (by assumption) (by walk_at "sm"))
local macro_rules | `(tactic| walk_at "ix") => `(tactic| with_reducible first | exact at0 | exact at1 | exact at2 | exact at3 | exact at4 | exact at5 | exact at6 | exact at7)
local macro_rules | `(tactic| walk_at "tyx") => `(tactic| first
  | exact TyX.base (TyOf.int _) | exact TyX.base (TyOf.str _) | exact TyX.base (TyOf.bl _) | exact TyX.base TyOf.non
  | exact TyX.base (TyOf.lst (by walk_at "hh")) | exact TyX.base (TyOf.tup (by walk_at "hh")) | exact TyX.base (TyOf.dK (by walk_at "hh")))
local macro_rules | `(tactic| walk_at "cond") => `(tactic| first | assumption | exact rfl | decide +kernel | omega | (simp only [List.length_cons, List.length_nil]; omega))
local macro_rules | `(tactic| walk_at "rd1") => `(tactic| first
  | with_reducible refine Rd.go ?_
  | ((with_reducible refine' k_var ?rdh ?_); (case rdh => exact rfl))
  | ((with_reducible refine' k_gt2 ?rdh ?_); (case rdh => walk_at "ht"))
  | ((with_reducible refine' v_mod ?rdh ?_); (case rdh => first | decide | omega))
  | ((with_reducible refine' v_fdiv ?rdh ?_); (case rdh => exact ⟨by decide, by decide⟩))
  | ((with_reducible refine' v_mulI ?rdh ?_); (case rdh => first | exact .inl ⟨by omega, by omega⟩ | exact .inr ⟨by omega, by omega⟩))
  | ((with_reducible refine' v_isiT ?rdh ?rdk ?_); (case rdh => walk_at "tyx"); (case rdk => decide +kernel))
  | ((with_reducible refine' v_isiF ?rdh ?rdk ?_); (case rdh => walk_at "tyx"); (case rdk => decide +kernel))
  | ((with_reducible refine' v_ixT ?rdh ?rdk ?_); (case rdh => walk_at "ht"); (case rdk => walk_at "ix"))
  | ((with_reducible refine' v_ixL ?rdh ?rdk ?_); (case rdh => walk_at "hl"); (case rdk => walk_at "ix"))
  | ((with_reducible refine' v_lenL ?rdh ?_); (case rdh => walk_at "hl"))
  | ((with_reducible refine' v_lenT ?rdh ?_); (case rdh => walk_at "ht"))
  | ((with_reducible refine' v_lenD ?rdh ?_); (case rdh => walk_at "hh"))
  | ((with_reducible refine' i_dT ?rdh ?_); (case rdh => walk_at "cond"))
  | ((with_reducible refine' i_dF ?rdh ?_); (case rdh => walk_at "cond"))
  | ((with_reducible refine' i_nT ?rdh ?_); (case rdh => walk_at "cond"))
  | ((with_reducible refine' i_nF ?rdh ?_); (case rdh => walk_at "cond"))
  | ((with_reducible refine' i_bT ?rdh ?_); (case rdh => first | assumption | decide +kernel))
  | ((with_reducible refine' i_bF ?rdh ?_); (case rdh => first | assumption | decide +kernel)))
local macro_rules | `(tactic| walk_at "rd") => `(tactic| repeat walk_at "rd1")

variable {g : En} {H H0 : Hp} {Q : VK} {E : XK} {a b p l d : Addr} {ns : List Str} {e : En0} {r : R} {rs : List R} {σ : L2.St}
section
variable {K : PySem.W.Frag} {nx : L2.St → Hp → Prop} {rt : VK} {bk ct : L2.St → Hp → Prop} {c : TT} {tb : TS} {te ta tc : TE} {k : Nat} {r1 r2 : R2}
theorem v_while (W : Nat → L2.St → Hp → Prop) (m : Nat) (h0 : W m σ H) (hs : ∀ m σ H, W m σ H → c σ H fun b H1 => if b = true then ∃ N : L2.St → Hp → Prop, (∀ σ' H', N σ' H' → ∃ m', m' < m ∧ W m' σ' H') ∧ tb ⟨N, rt, nx, N⟩ σ H1 else nx σ H1) : tWhile c tb ⟨nx, rt, bk, ct⟩ σ H := ⟨W, ⟨m, h0⟩, hs⟩
/-- [te for c in x] over a text: the items are ys -/
theorem v_lcS {x : Str} {ys : List V} (hl : ys.length = x.cps.size) (hz : ys.length ≤ 1000)
    (each : ∀ (i : Nat) c y H', x.cps[i]? = some c → ys[i]? = some y → Same H H' → ∀ Q' : VK, Q' y H' → te ((wipe σ [k]).set k (some (.str ⟨#[c]⟩))) H' Q')
    (q : ∀ D H2, NewX H D (.lst ys) H2 → Q (.ref D) H2) : LcOf (Its x) (gName k) tYes te [k] σ Q H := by
  intro D nD
  refine ⟨fun i m H' => m = x.cps.size - i ∧ i ≤ x.cps.size ∧ NewX H D (.lst (ys.take i)) H', ⟨x.cps.size, rfl, Nat.zero_le _, nD, (new_upd nD).sm, by rw [upd_same]; rfl⟩, ?_⟩
  rintro i m H' ⟨rfl, hi, n⟩
  by_cases c : i < x.cps.size
  · refine .inr ⟨c, fun H2 => NewX H D (.lst (ys.take (i + 1))) H2, fun H2 n2 => ⟨x.cps.size - (i + 1), by omega, rfl, c, n2⟩, ?_⟩
    rintro v H2 ⟨rfl, z, hz2, rfl⟩
    have hi2 : i < ys.length := by omega
    have hy : ys[i]? = some ys[i] := List.getElem?_eq_getElem hi2
    refine ⟨wipe1, k_yes (i_T ?_)⟩
    refine each i z _ H2 hz2 hy n.sm _ ⟨_, n.at_, ?_, ?_⟩
    · have := take_le ys i
      exact small_sz (by omega)
    · rw [List.take_add_one, hy]
      exact Wr.newX n wr_upd
  · refine .inl ⟨Nat.le_of_not_lt c, ?_⟩
    rw [List.take_of_length_le (by omega)] at n
    exact q D H' n
theorem k_lcStr (h : te σ H fun v H1 => ∃ x, v = .str x ∧ LcOf (Its x) (gName k) tYes tc [k] σ Q H1) : tLc (iStr te) (gName k) tYes tc [k] σ H Q := h
end
/-! ## words and rows of the program -/
theorem r_is_word {s : Str} (h : wordOk s) (q : ∀ H2, Same H H2 → Q (.bl true) H2) : sp_is_word g [.str s] H Q E := by
  refine ⟨_, rfl, ?_⟩
  unfold t_is_word
  obtain ⟨h1, h2, h3⟩ := h
  have h4 : s.length ≤ sizeLine := Nat.le_of_lt (small_sz (by omega))
  walk_at "rd"
  refine v_lenS h4 ?_
  walk_at "rd"
  refine v_lenS h4 ?_
  walk_at "rd"
  refine k_lcStr ?_
  walk_at "rd"
  refine ⟨s, rfl, ?_⟩
  refine v_lcS (ys := List.replicate s.cps.size (V.bl true)) List.length_replicate (by rw [List.length_replicate]; exact Nat.le_trans h2 (by decide)) ?_ ?_
  · intro i c y H' hc hy s1 Q' q'
    have ey : y = .bl true := (List.mem_replicate.mp (List.mem_of_getElem? hy)).2
    subst ey
    simp only [wipe]
    walk_at "rd"
    have hm : c ∈ s.cps.toList := by
      rw [← Array.getElem?_toList] at hc
      exact List.mem_of_getElem? hc
    have hb := h3 c hm
    have ab : ∀ c, 97 ≤ c → c ≤ 122 → c ∈ abc.cps.toList := fun c h1 h2 => by
      have : ∀ j : Nat, j < 26 → 97 + j ∈ abc.cps.toList := by decide +kernel
      have e : c = 97 + (c - 97) := by omega
      rw [e]
      exact this _ (by omega)
    refine .inr (.inr ⟨c, abc, rfl, rfl, ?_⟩)
    rw [decide_eq_true (ab c hb.1 hb.2)]
    exact q'
  · intro D H2 n
    walk_at "rd"
    exact v_allT (SqL.of n.at_) (q _ n.sm)
theorem r_is_number {k : Int} (h : 0 ≤ k ∧ k < 1000000) (q : Q (.bl true) H) : sp_is_number g [.int k] H Q E := by
  refine ⟨_, rfl, ?_⟩
  unfold t_is_number
  walk_at "rd"
  rw [decide_eq_true h.2]
  exact q
theorem r_is_place {k : Int} (q : Q (.bl true) H) : sp_is_place g [.int k] H Q E := by
  refine ⟨_, rfl, ?_⟩
  unfold t_is_place
  walk_at "rd"
  exact q
/-- the kinds of rows -/
inductive RowC (ns : List Str) : R → Prop
  | put {n : Str} {k : Int} (h : n ∈ ns) (hk : 0 ≤ k ∧ k < 1000000) : RowC ns (.put n k)
  | copy {n m : Str} (h : n ∈ ns) (hm : m ∈ ns) : RowC ns (.copy n (.nm m))
  | work {w : Wk} {n x y : Str} (h : n ∈ ns) (hx : x ∈ ns) (hy : y ∈ ns) : RowC ns (.work w n (.nm x) (.nm y))
  | tell {m : Str} (h : m ∈ ns) : RowC ns (.tell (.nm m))
  | zero {n : Str} {k : Int} (h : n ∈ ns) : RowC ns (.zero n k)
  | jump {k : Int} : RowC ns (.jump k)
  | stop : RowC ns .stop
theorem PRow.c {lo hi : Int} (h : PRow ns lo hi r) : RowC ns r := by
  cases h with
  | z hn h => exact .zero hn
  | j h => exact .jump
  | t => exact .stop
  | s h =>
    obtain ⟨w, ok, inn, src⟩ := h
    have nmo : ∀ s : Src, s.isNm → ∃ m, s = .nm m := fun s hs => by
      cases s with
      | num i => exact hs.elim
      | nm m => exact ⟨m, rfl⟩
    cases r with
    | put n k => exact .put (inn n (by simp [R.ns])) ok
    | copy n s =>
      obtain ⟨m, rfl⟩ := nmo s src
      exact .copy (inn n (by simp [R.ns])) (inn m (by simp [R.ns, Src.ns]))
    | work w n x y =>
      obtain ⟨m, rfl⟩ := nmo x src.1
      obtain ⟨m2, rfl⟩ := nmo y src.2
      exact .work (inn n (by simp [R.ns])) (inn m (by simp [R.ns, Src.ns])) (inn m2 (by simp [R.ns, Src.ns]))
    | tell s =>
      obtain ⟨m, rfl⟩ := nmo s src
      exact .tell (inn m (by simp [R.ns, Src.ns]))
    | _ => cases w
def WorksOk (g : En) : Prop := ∀ H : Hp, SqT g.K H g.wk [.str "add", .str "minus", .str "times", .str "less"]
theorem r_is_row (hW : WorksOk g) (hn : NamesOk ns) (hc : RowC ns r) (hb : H b = some (.tup r.vs)) (q : ∀ H2, Same H H2 → Q (.bl true) H2) : sp_is_row g [.ref b] H Q E := by
  refine ⟨_, rfl, ?_⟩
  unfold t_is_row
  cases hc with
  | stop =>
    simp only [R.vs] at hb
    walk_at "rd"
    exact q H (Same.refl _)
  | jump => 
    simp only [R.vs] at hb
    walk_at "rd"
    exact r_is_place (q H (Same.refl _))
  | put h hk =>
    simp only [R.vs] at hb
    walk_at "rd"
    refine r_is_word (hn.ok _ h) fun H2 s2 => ?_
    walk_at "rd"
    exact r_is_number hk (q H2 s2)
  | copy h hm => 
    simp only [R.vs] at hb
    walk_at "rd"
    refine r_is_word (hn.ok _ h) fun H2 s2 => ?_
    walk_at "rd"
    exact r_is_word (hn.ok _ hm) fun H3 s3 => q H3 (Same.trans s2 s3)
  | tell h =>
    simp only [R.vs] at hb
    walk_at "rd"
    refine r_is_word (hn.ok _ h) fun H2 s2 => ?_
    walk_at "rd"
    exact q H2 s2
  | zero h =>
    simp only [R.vs] at hb
    walk_at "rd"
    refine r_is_word (hn.ok _ h) fun H2 s2 => ?_
    walk_at "rd"
    exact r_is_place (q H2 s2)
  | @work w n x y h hx hy =>
    simp only [R.vs] at hb
    have fin : ∀ {z : Str} {H2 : Hp}, Same H H2 → z = w.s → rInA g.K (.str z) (.ref g.wk) H2 (fun x1 H1 => ∃ k, x1 = .bl k ∧ if k = true then tAndV (tOp (rEqA g.K) (tCB (rLen g.K) (tCons (tVar 0) (tNil))) (tC (.int 4))) (tAndV (tCall (sp_is_word g) [] E0 (tCons (tOp (rIxA g.K) (tVar 0) (tC (.int 2))) (tNil))) (tCall (sp_is_word g) [] E0 (tCons (tOp (rIxA g.K) (tVar 0) (tC (.int 3))) (tNil)))) [some (.ref b)] H1 Q else Q (.bl false) H1) := fun {z H2} s2 ez => by
      have e1 : inV (.str z) [.str "add", .str "minus", .str "times", .str "less"] = true := by rw [ez]; cases w <;> decide +kernel
      refine v_inSq (.inr (hW H2)) rfl (by rfl) ?_
      rw [e1]
      walk_at "rd"
      refine r_is_word (hn.ok _ hx) fun H3 s3 => ?_
      walk_at "rd"
      exact r_is_word (hn.ok _ hy) fun H4 s4 => q H4 (Same.trans s2 (Same.trans s3 s4))
    cases w <;> simp only [Wk.s] at hb
    all_goals
      walk_at "rd"
      refine r_is_word (hn.ok _ h) fun H2 s2 => ?_
      walk_at "rd"
      exact fin s2 rfl
/-- no row is refused -/
theorem r_checked (hW : WorksOk g) (hn : NamesOk ns) (hl : RowsAt H l rs) (hp : ∀ r ∈ rs, PRow ns 0 rs.length r) (q : ∀ H2, Same H H2 → Q .non H2) : sp_checked g [.ref l] H Q E := by
  refine ⟨_, rfl, ?_⟩
  unfold t_checked
  obtain ⟨vs, hv, hR⟩ := hl
  have hlen := hR.len
  walk_at "rd"
  refine v_forE (SqL.of hv) (fun i σ' H' => ∃ x1 x2, σ' = [some (.ref l), x1, x2] ∧ Same H H') ⟨_, _, rfl, Same.refl _⟩ (fun i σ' H' ⟨_, _, _, s⟩ => Same.seq s (SqL.of hv)) ?_ ?_
  · rintro i x σ' H1 T H2 hx ⟨x1, x2, rfl, s1⟩ nT
    obtain ⟨r, hr, bp, rfl, hO⟩ := hR.get hx
    have pr := hp r (List.mem_of_getElem? hr)
    have s2 := Same.trans s1 nT.sm
    have hb := s2 _ _ (rowO_vs hO pr.ng)
    have hv2 := s2 _ _ hv
    walk_at "rd"
    refine r_is_row hW hn pr.c hb fun H3 s3 => ?_
    have hb3 := s3 _ _ hb
    have hv3 := s3 _ _ hv2
    have s3' := Same.trans s2 s3
    clear hb hv2 s3 nT s2 s1
    have other : ∀ {h : Str} {tl : List V}, r.vs = .str h :: tl → inV (.str h) [.str "jump", .str "zero"] = false → tIfS (tAnd (tTest (tOp (rInA g.K) (tOp (rIxA g.K) (tVar 2) (tC (.int 0))) (tTupN (tCons (tC (.str "jump")) (tCons (tC (.str "zero")) (tNil)))))) (tNot (tTest (tChain (rLe) (rLt) (tC (.int 0)) (tOp (rIxA g.K) (tVar 2) (tUn rNeg (tC (.int 1)))) (tCB (rLen g.K) (tCons (tVar 0) (tNil))))))) (tNever) (tNext) ⟨fun σ' H' => ∃ x1 x2, σ' = [some (.ref l), x1, x2] ∧ Same H H', Q, fun σ' H' => Q .non H', fun σ' H' => ∃ x1 x2, σ' = [some (.ref l), x1, x2] ∧ Same H H'⟩ [some (.ref l), some (.int (i : Int)), some (.ref bp)] H3 := fun {h tl} e1 e2 => by
      rw [e1] at hb3
      walk_at "rd"
      refine ⟨show 2 ≤ sizeLine by decide, fun t H4 n4 => ?_⟩
      refine v_inSq (.inr (SqT.of n4.at_)) rfl (by rfl) ?_
      rw [e2]
      walk_at "rd"
      exact ⟨_, _, rfl, Same.trans s3' n4.sm⟩
    have far : ∀ {h : Str} {tl : List V} {z : Int}, r.vs = .str h :: tl → inV (.str h) [.str "jump", .str "zero"] = true → atI r.vs (-1) = some (.int z) → 0 ≤ z ∧ z < rs.length → tIfS (tAnd (tTest (tOp (rInA g.K) (tOp (rIxA g.K) (tVar 2) (tC (.int 0))) (tTupN (tCons (tC (.str "jump")) (tCons (tC (.str "zero")) (tNil)))))) (tNot (tTest (tChain (rLe) (rLt) (tC (.int 0)) (tOp (rIxA g.K) (tVar 2) (tUn rNeg (tC (.int 1)))) (tCB (rLen g.K) (tCons (tVar 0) (tNil))))))) (tNever) (tNext) ⟨fun σ' H' => ∃ x1 x2, σ' = [some (.ref l), x1, x2] ∧ Same H H', Q, fun σ' H' => Q .non H', fun σ' H' => ∃ x1 x2, σ' = [some (.ref l), x1, x2] ∧ Same H H'⟩ [some (.ref l), some (.int (i : Int)), some (.ref bp)] H3 := fun {h tl z} e1 e2 e3 hz => by
      rw [e1] at hb3 e3
      walk_at "rd"
      refine ⟨show 2 ≤ sizeLine by decide, fun t H4 n4 => ?_⟩
      refine v_inSq (.inr (SqT.of n4.at_)) rfl (by rfl) ?_
      rw [e2]
      walk_at "rd"
      refine v_ixT (SqT.of (n4.sm _ _ hb3)) e3 ?_
      have z1 := hz.1
      walk_at "rd"
      have z2 : z < ((vs.length : Nat) : Int) := by rw [hlen]; exact hz.2
      walk_at "rd"
      exact ⟨_, _, rfl, Same.trans s3' n4.sm⟩
    refine ⟨true, rfl, i_bF (b := !true) rfl ?_⟩
    cases pr with
    | @z n k hm h => exact far (h := "zero") (tl := [.str n, .int k]) rfl (by decide +kernel) (atI_last [.str "zero", .str n] _) h
    | @j k h => exact far (h := "jump") (tl := [.int k]) rfl (by decide +kernel) (atI_last [.str "jump"] _) h
    | t => exact other (h := "stop") (tl := []) rfl (by decide +kernel)
    | s h =>
      have hw := h.w
      cases r with
      | put n k => exact other (h := "put") rfl (by decide +kernel)
      | copy n k => exact other (h := "copy") rfl (by decide +kernel)
      | work w n x y => exact other (h := w.s) rfl (by cases w <;> decide +kernel)
      | tell n => exact other (h := "tell") rfl (by decide +kernel)
      | _ => cases hw
  · rintro σ' H' ⟨x1, x2, rfl, s⟩
    walk_at "rd"
    exact q H' s

/-! ## the names of a program -/
def isStrV : V → Bool
  | .str _ => true
  | _ => false
theorem names_cut (hc : RowC ns r) (hj : isStop r = false) (hj2 : ∀ k, r ≠ .jump k) : (r.vs.drop 1).filter isStrV = r.ns.map V.str := by
  cases hc <;> first | rfl | (exfalso; exact hj2 _ rfl) | cases hj
theorem r_names_of (hc : RowC ns r) (hb : H b = some (.tup r.vs)) (q : ∀ p H2, NewX H p (.lst (r.ns.map V.str)) H2 → Q (.ref p) H2) : sp_names_of g [.ref b] H Q E := by
  refine ⟨_, rfl, ?_⟩
  unfold t_names_of
  have hg : isG r = false := by cases hc <;> rfl
  have hb' := hb
  rw [vs_head hg] at hb'
  have hne := vs_ne r hg
  have l4 := vs_len r
  walk_at "rd"
  refine ⟨show 2 ≤ sizeLine by decide, fun t H1 n1 => ?_⟩
  refine v_inSq (.inr (SqT.of n1.at_)) rfl (by rfl) ?_
  have quit : ∀ {nx bk ct}, r.ns = [] → tRet (tLstN tNil) ⟨nx, Q, bk, ct⟩ [some (.ref b), none] H1 := fun e1 => by
    walk_at "rd"
    exact ⟨show 0 ≤ sizeLine by decide, fun p H2 n2 => q p H2 (by rw [e1]; exact n2.x.of n1.sm)⟩
  have go : isStop r = false → (∀ k, r ≠ .jump k) → tRet (tLc (iTup g.K (tSl (rSlX g.K) (tVar 0) (tPart (tC (.int 1))) (tNoPart))) (gName 1) (tB (tCB (rIsX g.K) (tCons (tVar 1) (tCons (tC (.ty "str")) (tNil))))) (tVar 1) [1]) ⟨fun _ H1 => Q V.non H1, Q, fun _ _ => False, fun _ _ => False⟩ [some (.ref b), none] H1 := fun e1 e2 => by
    walk_at "rd"
    refine v_slT (n1.sm _ _ hb) fun c H2 s2 hc2 _ => ?_
    rw [cut1 _ hne] at hc2
    refine v_lcTf (SqT.of hc2) isStrV (by rw [List.length_drop]; omega) ?_ ?_ ?_
    · intro i x H3 hx s3 Q' q'
      have hm : x ∈ r.vs := List.mem_of_mem_drop (List.mem_of_getElem? hx)
      simp only [wipe]
      rcases flat_vs r x hm with ⟨z, rfl⟩ | ⟨z, rfl⟩
      · walk_at "rd"
        exact q' H3 (Same.refl _)
      · walk_at "rd"
        exact q' H3 (Same.refl _)
    · intro i x H3 hx hf s3 Q' q'
      simp only [wipe]
      walk_at "rd"
      exact q' H3 (Same.refl _)
    · intro D H3 n3
      rw [names_cut hc e1 e2] at n3
      exact q D H3 (n3.of (Same.trans n1.sm s2))
  refine ⟨_, rfl, ?_⟩
  cases hc with
  | stop => exact i_bT (by decide +kernel) (quit rfl)
  | jump => exact i_bT (by simp only [headS]; decide +kernel) (quit rfl)
  | @work w n x y h hx hy => exact i_bF (by cases w <;> simp only [headS, Wk.s] <;> decide +kernel) (go rfl (fun k z => by cases z))
  | _ => exact i_bF (by simp only [headS]; decide +kernel) (go rfl (fun k z => by cases z))
/-- the dict of names with True -/
def encT (e : En0) : List (Key × V) := e.map fun p => (Sum.inr p.1, V.bl true)
theorem encT_len (e : En0) : (encT e).length = e.length := List.length_map _
theorem encT_keys (e : En0) : (encT e).map (fun kv => kV kv.1) = (keys e).map V.str := by
  unfold encT keys
  rw [List.map_map, List.map_map]
  rfl
theorem encT_any (e : En0) (n : Str) : ((encT e).any fun kv => decide (kv.1 = (Sum.inr n : Key))) = e.any fun p => decide (p.1 = n) := by
  induction e with
  | nil => rfl
  | cons p r ih =>
    show (decide ((Sum.inr p.1 : Key) = Sum.inr n) || (encT r).any _) = (decide (p.1 = n) || r.any _)
    rw [ih]
    congr 1
    exact key_rr p.1 n
theorem putK_encT (e : En0) (n : Str) (v : Int) : putK (encT e) (.inr n) (.bl true) = encT (putE e n v) := by
  unfold putK putE
  rw [encT_any]
  by_cases h : (e.any fun p => decide (p.1 = n)) = true
  · rw [if_pos h, if_pos h]
    unfold encT
    rw [List.map_map, List.map_map]
    refine List.map_congr_left fun p _ => ?_
    show (if (Sum.inr p.1 : Key) = Sum.inr n then ((Sum.inr p.1 : Key), V.bl true) else (Sum.inr p.1, V.bl true)) = ((Sum.inr (if p.1 = n then (p.1, v) else p).1 : Key), V.bl true)
    by_cases hp : p.1 = n
    · rw [if_pos (by rw [hp]), if_pos hp]
    · rw [if_neg (fun z => hp (Sum.inr.inj z)), if_neg hp]
  · rw [if_neg h, if_neg h]
    unfold encT
    rw [List.map_append]
    rfl
theorem r_names_in (hl : RowsAt H l rs) (hp : ∀ r ∈ rs, RowC ns r) (h90 : rs.length ≤ 90) (h64 : (allE rs).length < 64) (q : ∀ ys : List Str, ys.Perm (keys (allE rs)) → ∀ p H2, NewX H p (.lst (ys.map V.str)) H2 → Q (.ref p) H2) : sp_names_in g [.ref l] H Q E := by
  refine ⟨_, rfl, ?_⟩
  unfold t_names_in
  obtain ⟨vs, hv, hR⟩ := hl
  have hlen := hR.len
  walk_at "rd"
  intro d H1 n1
  walk_at "rd"
  refine v_forL (SqL.of (n1.sm _ _ hv)) (fun i σ' H' => ∃ x2 x3, σ' = [some (.ref l), some (.ref d), x2, x3] ∧ NewX H d (.dK (encT (allE (rs.take i)))) H') ⟨_, _, rfl, n1.x⟩ (fun i σ' H' ⟨_, _, _, n⟩ => SqL.of (n.sm _ _ hv)) ?_ ?_
  · rintro i x σ' H2 hx ⟨x2, x3, rfl, n2⟩
    obtain ⟨r, hr, bp, rfl, hO⟩ := hR.get hx
    have pr := hp r (List.mem_of_getElem? hr)
    have hg : isG r = false := by cases pr <;> rfl
    have hb := n2.sm _ _ (rowO_vs hO hg)
    have l1 : (allE (rs.take i)).length ≤ 3 * 90 := by
      have h1 := allE_len (rs.take i) []
      have h2 := take_le rs i
      have h3 : ([] : En0).length = 0 := rfl
      unfold allE
      omega
    walk_at "rd"
    refine r_names_of pr hb fun c H3 n3 => ?_
    have l3 : r.ns.length ≤ 3 := by cases pr <;> simp [R.ns, Src.ns]
    refine v_forL (SqL.of n3.at_) (fun j σ' H' => ∃ x3, σ' = [some (.ref l), some (.ref d), some (.ref bp), x3] ∧ H' c = some (.lst (r.ns.map V.str)) ∧ NewX H d (.dK (encT ((r.ns.take j).foldl (fun e n => putE e n 0) (allE (rs.take i))))) H') ⟨_, rfl, n3.at_, n2.up n3.sm⟩ (fun j σ' H' ⟨_, _, h, _⟩ => SqL.of h) ?_ ?_
    · rintro j x σ' H4 hx4 ⟨x3, rfl, hc4, n4⟩
      rw [List.getElem?_map] at hx4
      obtain ⟨nm, hnm, rfl⟩ := Option.map_eq_some_iff.mp hx4
      walk_at "rd"
      refine e_put n4.at_ ?_ fun H5 w => ?_
      · rw [encT_len]
        have go : ∀ (l : List Str) (e : En0), (l.foldl (fun e n => putE e n 0) e).length ≤ e.length + l.length := fun l => by
          induction l with
          | nil => intro e; exact Nat.le_refl _
          | cons x r ih =>
            intro e
            have h1 := ih (putE e x 0)
            have h2 := putE_len e x 0
            rw [List.foldl_cons, List.length_cons]
            omega
        have h1 := go (r.ns.take j) (allE (rs.take i))
        have h2 := take_le r.ns j
        exact small_sz (by omega)
      · rw [putK_encT _ _ 0] at w
        refine ⟨_, rfl, w.keep hc4 (ne_of hc4 n4.at_ (by intro z; cases z)), ?_⟩
        rw [foldl_snoc _ _ _ _ _ hnm]
        exact Wr.newX n4 w
    · rintro σ' H4 ⟨x3, rfl, hc4, n4⟩
      refine ⟨_, _, rfl, ?_⟩
      rw [List.length_map, List.take_length] at n4
      unfold allE
      rw [foldl_snoc _ _ _ _ _ hr]
      exact n4
  · rintro σ' H2 ⟨x2, x3, rfl, n2⟩
    rw [hlen, List.take_length] at n2
    walk_at "rd"
    refine v_listD (.inl n2.at_) fun c H3 n3 => ?_
    rw [encT_keys] at n3
    walk_at "rd"
    refine ⟨c, keys (allE rs), rfl, SqL.of n3.at_, by simpa [keys] using h64, fun ys p pm _ fr => ?_⟩
    have n4 : New H3 p (.lst (ys.map V.str)) (upd H3 p (.lst (ys.map V.str))) := new_upd fr
    exact q ys pm p _ (n4.x.of (Same.trans n2.sm n3.sm))

end Tf

namespace Tf
open PySem L2
local macro_rules | `(tactic| walk_at "hl") => `(tactic| first
  | assumption
  | exact SqL.of (by walk_at "hh")
  | exact Same.seq (New.sm (by assumption)) (by walk_at "hl")
  | exact Same.seq (NewX.sm (by assumption)) (by walk_at "hl")
  | exact Same.seq (by assumption) (by walk_at "hl"))
local macro_rules | `(tactic| walk_at "ht") => `(tactic| first
  | assumption
  | exact SqT.of (by walk_at "hh")
  | exact Same.tup (New.sm (by assumption)) (by walk_at "ht")
  | exact Same.tup (NewX.sm (by assumption)) (by walk_at "ht")
  | exact Same.tup (by assumption) (by walk_at "ht"))
local macro_rules | `(tactic| walk_at "hr") => `(tactic| first
  | assumption
  | exact Or.inl (by walk_at "hh")
  | exact Same.rd (New.sm (by assumption)) (by walk_at "hr")
  | exact Same.rd (NewX.sm (by assumption)) (by walk_at "hr")
  | exact Same.rd (by assumption) (by walk_at "hr"))
local macro_rules | `(tactic| walk_at "hh") => `(tactic| first
  | assumption
  | exact New.at_ (by assumption)
  | exact NewX.at_ (by assumption)
  | exact Wr.at_ (by assumption)
  | exact Same.get (New.sm (by assumption)) (by walk_at "hh")
  | exact Same.get (NewX.sm (by assumption)) (by walk_at "hh")
  | exact Same.get (by assumption) (by walk_at "hh"))
local macro_rules | `(tactic| walk_at "sm") => `(tactic| first
  | exact Same.refl _
  | assumption
  | exact Same.tr2 (New.sm (by assumption)) (by walk_at "sm")
  | exact Same.tr2 (NewX.sm (by assumption)) (by walk_at "sm")
  | exact Same.tr2 (by assumption) (by walk_at "sm"))
local macro_rules | `(tactic| walk_at "ix") => `(tactic| with_reducible first | exact at0 | exact at1 | exact at2 | exact at3 | exact at4 | exact at5 | exact at6 | exact at7)
local macro_rules | `(tactic| walk_at "tyx") => `(tactic| first
  | exact TyX.base (TyOf.int _) | exact TyX.base (TyOf.str _) | exact TyX.base (TyOf.bl _) | exact TyX.base TyOf.non
  | exact TyX.base (TyOf.lst (by walk_at "hh")) | exact TyX.base (TyOf.tup (by walk_at "hh")) | exact TyX.base (TyOf.dK (by walk_at "hh")))
local macro_rules | `(tactic| walk_at "cond") => `(tactic| first | assumption | exact rfl | decide +kernel | omega | (simp only [List.length_cons, List.length_nil]; omega))
local macro_rules | `(tactic| walk_at "rd1") => `(tactic| first
  | with_reducible refine Rd.go ?_
  | ((with_reducible refine' k_var ?rdh ?_); (case rdh => exact rfl))
  | ((with_reducible refine' k_gt2 ?rdh ?_); (case rdh => walk_at "ht"))
  | ((with_reducible refine' v_mod ?rdh ?_); (case rdh => first | decide | omega))
  | ((with_reducible refine' v_fdiv ?rdh ?_); (case rdh => exact ⟨by decide, by decide⟩))
  | ((with_reducible refine' v_mulI ?rdh ?_); (case rdh => first | exact .inl ⟨by omega, by omega⟩ | exact .inr ⟨by omega, by omega⟩))
  | ((with_reducible refine' v_isiT ?rdh ?rdk ?_); (case rdh => walk_at "tyx"); (case rdk => decide +kernel))
  | ((with_reducible refine' v_isiF ?rdh ?rdk ?_); (case rdh => walk_at "tyx"); (case rdk => decide +kernel))
  | ((with_reducible refine' v_ixT ?rdh ?rdk ?_); (case rdh => walk_at "ht"); (case rdk => walk_at "ix"))
  | ((with_reducible refine' v_ixL ?rdh ?rdk ?_); (case rdh => walk_at "hl"); (case rdk => walk_at "ix"))
  | ((with_reducible refine' v_lenL ?rdh ?_); (case rdh => walk_at "hl"))
  | ((with_reducible refine' v_lenT ?rdh ?_); (case rdh => walk_at "ht"))
  | ((with_reducible refine' v_lenD ?rdh ?_); (case rdh => walk_at "hh"))
  | ((with_reducible refine' i_dT ?rdh ?_); (case rdh => walk_at "cond"))
  | ((with_reducible refine' i_dF ?rdh ?_); (case rdh => walk_at "cond"))
  | ((with_reducible refine' i_nT ?rdh ?_); (case rdh => walk_at "cond"))
  | ((with_reducible refine' i_nF ?rdh ?_); (case rdh => walk_at "cond"))
  | ((with_reducible refine' i_bT ?rdh ?_); (case rdh => first | assumption | decide +kernel))
  | ((with_reducible refine' i_bF ?rdh ?_); (case rdh => first | assumption | decide +kernel)))
local macro_rules | `(tactic| walk_at "rd") => `(tactic| repeat walk_at "rd1")

variable {g : En} {H H0 : Hp} {Q : VK} {E : XK} {a b p l d : Addr} {ns : List Str} {e e1 e2 : En0} {r : R} {rs : List R} {σ : L2.St}
/-! ## names: how many, and what they hold -/
theorem nodup_le {A : Type} [DecidableEq A] : ∀ {xs ys : List A}, xs.Nodup → (∀ x ∈ xs, x ∈ ys) → xs.length ≤ ys.length
  | [], _, _, _ => Nat.zero_le _
  | x :: t, ys, h, k => by
    obtain ⟨h1, h2⟩ := List.nodup_cons.mp h
    have hx : x ∈ ys := k x (List.mem_cons.mpr (.inl rfl))
    have ih := nodup_le (xs := t) (ys := ys.erase x) h2 fun z hz => (List.mem_erase_of_ne (by intro e; subst e; exact h1 hz)).mpr (k z (List.mem_cons.mpr (.inr hz)))
    have l1 := List.length_erase_of_mem hx
    have l2 := List.length_pos_of_mem hx
    rw [List.length_cons]
    omega
theorem fold_sub {P : Str → Prop} (l : List Str) : ∀ e : En0, (∀ n ∈ keys e, P n) → (∀ n ∈ l, P n) → ∀ n ∈ keys (l.foldl (fun e n => putE e n 0) e), P n := by
  induction l with
  | nil => exact fun e h _ => h
  | cons x t ih =>
    intro e h k
    refine ih _ (fun n hn => ?_) fun n hn => k n (List.mem_cons.mpr (.inr hn))
    rw [keys_putE] at hn
    split at hn
    · exact h n hn
    · rcases List.mem_append.mp hn with hn | hn
      · exact h n hn
      · rw [List.mem_singleton.mp hn]
        exact k x (List.mem_cons.mpr (.inl rfl))
theorem all_sub {P : Str → Prop} (rs : List R) : ∀ e : En0, (∀ n ∈ keys e, P n) → (∀ r ∈ rs, ∀ n ∈ r.ns, P n) → ∀ n ∈ keys (rs.foldl allR e), P n := by
  induction rs with
  | nil => exact fun e h _ => h
  | cons x t ih => exact fun e h k => ih _ (fold_sub _ _ h (k x (List.mem_cons.mpr (.inl rfl)))) fun r hr => k r (List.mem_cons.mpr (.inr hr))
def Zero (e : En0) : Prop := ∀ p ∈ e, p.2 = 0
theorem fold_zero (l : List Str) : ∀ e : En0, Zero e → Zero (l.foldl (fun e n => putE e n 0) e) := by
  induction l with
  | nil => exact fun e h => h
  | cons x t ih => exact fun e h => ih _ fun p hp => (putE_mem hp).elim (h p) id
theorem all_zero (rs : List R) : ∀ e : En0, Zero e → Zero (rs.foldl allR e) := by
  induction rs with
  | nil => exact fun e h => h
  | cons x t ih => exact fun e h => ih _ (fold_zero _ _ h)
theorem lkE_none {n : Str} (h : n ∉ keys e) : lkE e n = none := by
  cases q : lkE e n with
  | none => rfl
  | some v => exact absurd (List.mem_map.mpr ⟨_, lkE_some q, rfl⟩) h
theorem lkE_zero (h : Zero e) {n : Str} (hn : n ∈ keys e) : lkE e n = some 0 := by
  obtain ⟨v, hv⟩ := lkE_mem hn
  rw [hv, show v = 0 from h _ (lkE_some hv)]
/-- two dicts that answer alike -/
def Lk (e1 e2 : En0) : Prop := ∀ n, lkE e1 n = lkE e2 n
theorem Lk.zero (h1 : Zero e1) (h2 : Zero e2) (h : ∀ n, n ∈ keys e1 ↔ n ∈ keys e2) : Lk e1 e2 := fun n => by
  by_cases c : n ∈ keys e1
  · rw [lkE_zero h1 c, lkE_zero h2 ((h n).mp c)]
  · rw [lkE_none c, lkE_none fun z => c ((h n).mpr z)]
theorem Lk.mem (h : Lk e1 e2) {n : Str} (hn : n ∈ keys e1) : n ∈ keys e2 := by
  obtain ⟨v, hv⟩ := lkE_mem hn
  rw [h n] at hv
  exact List.mem_map.mpr ⟨_, lkE_some hv, rfl⟩
theorem Lk.symm (h : Lk e1 e2) : Lk e2 e1 := fun n => (h n).symm
theorem Lk.eqv (h : Lk e1 e2) (n1 : (keys e1).Nodup) (n2 : (keys e2).Nodup) : EqvE e1 e2 := ⟨by
  have a := nodup_le n1 fun n hn => h.mem hn
  have b := nodup_le n2 fun n hn => h.symm.mem hn
  simp only [keys, List.length_map] at a b
  omega, fun p hp => by rw [← h p.1]; exact lkE_self n1 hp, fun n hn => h.symm.mem hn⟩
theorem Lk.srcV (h : Lk e1 e2) (s : Src) : srcV e1 s = srcV e2 s := by
  cases s with
  | num i => rfl
  | nm n => show (lkE e1 n).getD 0 = (lkE e2 n).getD 0; rw [h n]
theorem Lk.put (h : Lk e1 e2) (n : Str) (v : Int) : Lk (putE e1 n v) (putE e2 n v) := fun m => by rw [lkE_putE, lkE_putE, h m]
theorem Lk.next (h : Lk e1 e2) (p : Int) (r : R) : nextP e1 p r = nextP e2 p r := by cases r <;> simp only [nextP, h _]
theorem Lk.done (h : Lk e1 e2) (r : R) : Lk (doneE e1 r) (doneE e2 r) := by
  cases r with
  | put n k => exact h.put n k
  | copy n s => simp only [doneE, h.srcV]; exact h.put _ _
  | work w n x y => simp only [doneE, h.srcV]; exact h.put _ _
  | _ => exact h
theorem Lk.told (h : Lk e1 e2) (r : R) : toldE e1 r = toldE e2 r := by cases r <;> simp only [toldE, h.srcV]
/-! ## the plain run -/
structure S3 where
  p : Int
  e : En0
  t : List Int
def overR (rs : List R) (p : Int) : Bool := match rs[p.toNat]? with
  | some r => isStop r
  | none => true
def nextS (rs : List R) (s : S3) : S3 := match rs[s.p.toNat]? with
  | some r => ⟨nextP s.e s.p r, doneE s.e r, s.t ++ toldE s.e r⟩
  | none => s
def runS (rs : List R) : Nat → S3 → S3 × Nat
  | 0, s => (s, 0)
  | k + 1, s => if overR rs s.p = true then (s, 0) else ((runS rs k (nextS rs s)).1, (runS rs k (nextS rs s)).2 + 1)
structure Alike (s u : S3) : Prop where
  p : s.p = u.p
  e : Lk s.e u.e
  t : s.t = u.t
theorem Alike.next {s u : S3} (h : Alike s u) : Alike (nextS rs s) (nextS rs u) := by
  unfold nextS
  rw [← h.p]
  cases rs[s.p.toNat]? with
  | none => exact h
  | some r => exact ⟨by show nextP s.e s.p r = nextP u.e s.p r; exact h.e.next _ _, h.e.done r, by show s.t ++ toldE s.e r = u.t ++ toldE u.e r; rw [h.t, h.e.told]⟩
theorem Alike.run : ∀ (k : Nat) {s u : S3}, Alike s u → Alike (runS rs k s).1 (runS rs k u).1 ∧ (runS rs k s).2 = (runS rs k u).2
  | 0, _, _, h => ⟨h, rfl⟩
  | k + 1, s, u, h => by
    unfold runS
    rw [← h.p]
    by_cases c : overR rs s.p = true
    · rw [if_pos c, if_pos c]
      exact ⟨h, rfl⟩
    · rw [if_neg c, if_neg c]
      obtain ⟨i1, i2⟩ := Alike.run k (h.next (rs := rs))
      exact ⟨i1, by rw [i2]⟩
/-- a standing is in order -/
structure StOk (rs : List R) (s : S3) : Prop where
  p : 0 ≤ s.p
  nd : (keys s.e).Nodup
  ok : EnOk s.e
  len : s.e.length ≤ 60
  inr : ∀ r ∈ rs, rowIn s.e r
theorem rowIn_keys (h : rowIn e1 r) (k : keys e2 = keys e1) : rowIn e2 r := by
  have sk : ∀ s : Src, srcIn e1 s → srcIn e2 s := fun s hs => by
    cases s with
    | num i => trivial
    | nm n => show n ∈ keys e2; rw [k]; exact hs
  cases r with
  | put n k' => show n ∈ keys e2; rw [k]; exact h
  | copy n s => exact ⟨by rw [k]; exact h.1, sk _ h.2⟩
  | work w n x y => exact ⟨by rw [k]; exact h.1, sk _ h.2.1, sk _ h.2.2⟩
  | tell s => exact sk _ h
  | zero n p => show n ∈ keys e2; rw [k]; exact h
  | _ => trivial
theorem StOk.next {s : S3} (h : StOk rs s) (hr : rs[s.p.toNat]? = some r) (hp : PRow ns 0 rs.length r) (ro : rowOk r) : StOk rs ⟨nextP s.e s.p r, doneE s.e r, s.t ++ toldE s.e r⟩ := by
  have ri := h.inr r (List.mem_of_getElem? hr)
  have hp0 := h.p
  refine ⟨?_, by show (keys (doneE s.e r)).Nodup; rw [keys_doneE ri]; exact h.nd, ?_, by show (doneE s.e r).length ≤ 60; rw [done_len ri]; exact h.len, fun r' hr' => rowIn_keys (h.inr r' hr') (keys_doneE ri)⟩
  · show 0 ≤ nextP s.e s.p r
    cases hp with
    | @z n k hn hz =>
      show 0 ≤ if (lkE s.e n).getD 0 = 0 then k else s.p + 1
      split
      · exact hz.1
      · omega
    | j hz => exact hz.1
    | t => show 0 ≤ s.p + 1; omega
    | s hs =>
      have hw := hs.w
      cases r <;> first | (show 0 ≤ s.p + 1; omega) | cases hw
  · show EnOk (doneE s.e r)
    exact doneE_ok h.ok ri ro
theorem r_is_over {pl : Int} (h0 : 0 ≤ pl) (hl : RowsAt H l rs) (hg : ∀ r ∈ rs, isG r = false) (hz : rs.length ≤ 1000) (q : Q (.bl (overR rs pl)) H) : sp_is_over g [.ref l, .int pl] H Q E := by
  refine ⟨_, _, rfl, ?_⟩
  unfold t_is_over
  obtain ⟨vs, hv, hR⟩ := hl
  have hlen := hR.len
  obtain ⟨j, rfl⟩ : ∃ j : Nat, pl = (j : Int) := ⟨pl.toNat, by omega⟩
  walk_at "rd"
  refine i_d (fun h => ?_) (fun h => ?_)
  · have e1 : overR rs (j : Int) = true := by
      unfold overR
      rw [Int.toNat_natCast, List.getElem?_eq_none (by omega)]
    rw [e1] at q
    exact q
  · have hj : j < rs.length := by omega
    have hr : rs[j]? = some rs[j] := List.getElem?_eq_getElem hj
    obtain ⟨bp, hb, hO⟩ := rows_at hR hr
    have hgj := hg _ (List.getElem_mem hj)
    have hb2 := rowO_vs hO hgj
    rw [vs_head hgj] at hb2
    walk_at "rd"
    refine v_ixL (SqL.of hv) (atI_nat hb) ?_
    walk_at "rd"
    have e1 : overR rs (j : Int) = decide (headS rs[j] = "stop") := by
      unfold overR
      rw [Int.toNat_natCast, hr]
      show isStop rs[j] = _
      by_cases c : headS rs[j] = "stop"
      · rw [decide_eq_true c]
        cases q2 : isStop rs[j] with
        | true => rfl
        | false => 
          exfalso
          revert c q2 hgj
          cases rs[j] with
          | work w n x y => cases w <;> intro a c b <;> revert c <;> simp only [headS, Wk.s] <;> decide +kernel
          | guard _ _ _ _ _ => intro a; cases a
          | stop => intro a c b; cases b
          | _ => intro a c b; revert c; simp only [headS]; decide +kernel
      · rw [head_stop c, decide_eq_false c]
    rw [e1] at q
    exact q
theorem law_over_eq (g : En) : sp_law_over g = sp_is_over g := rfl

theorem atI_end {A : Type} {xs : List A} {x : A} (h : xs.getLast? = some x) : atI xs (-1) = some x := by
  have e := List.getLast?_eq_some_iff.mp h
  obtain ⟨ys, rfl⟩ := e
  exact atI_last ys x
theorem r_begun (hl : RowsAt H l rs) (hp : ∀ r ∈ rs, RowC ns r) (h90 : rs.length ≤ 90) (h64 : (allE rs).length < 64) (nd0 : (keys (allE rs)).Nodup) (q : ∀ e, (keys e).Nodup → EnOk e → Lk e (allE rs) → e.length < 64 → (∀ n, n ∈ keys e ↔ n ∈ keys (allE rs)) → ∀ p H2, NewX H p (.dK (encE e)) H2 → Q (.ref p) H2) : sp_begun g [.ref l] H Q E := by
  refine ⟨_, rfl, ?_⟩
  unfold t_begun
  walk_at "rd"
  intro d H1 n1
  walk_at "rd"
  obtain ⟨vs, hv, hR⟩ := hl
  refine r_names_in ⟨vs, n1.sm _ _ hv, RowsV.tk (Same.tk n1.sm) hR⟩ hp h90 h64 fun ys pm c H2 n2 => ?_
  have yl : ys.length < 64 := by
    have := pm.length_eq
    simp only [keys, List.length_map] at this
    omega
  have go : ∀ (l : List Str) (e : En0), (l.foldl (fun e n => putE e n 0) e).length ≤ e.length + l.length := fun l => by
    induction l with
    | nil => intro e; exact Nat.le_refl _
    | cons x r ih =>
      intro e
      have h1 := ih (putE e x 0)
      have h2 := putE_len e x 0
      rw [List.foldl_cons, List.length_cons]
      omega
  refine v_forL (SqL.of n2.at_) (fun i σ' H' => ∃ x2, σ' = [some (.ref l), some (.ref d), x2] ∧ H' c = some (.lst (ys.map V.str)) ∧ NewX H d (.dK (encE ((ys.take i).foldl (fun e n => putE e n 0) []))) H') ⟨_, rfl, n2.at_, n1.x.up n2.sm⟩ (fun i σ' H' ⟨_, _, h, _⟩ => SqL.of h) ?_ ?_
  · rintro i x σ' H3 hx ⟨x2, rfl, hc3, n3⟩
    rw [List.getElem?_map] at hx
    obtain ⟨nm, hnm, rfl⟩ := Option.map_eq_some_iff.mp hx
    walk_at "rd"
    refine e_put n3.at_ ?_ fun H4 w => ?_
    · rw [encE_len]
      have h1 := go (ys.take i) []
      have h2 := take_le ys i
      have h3 : ([] : En0).length = 0 := rfl
      exact small_sz (by omega)
    · rw [putK_encE] at w
      refine ⟨_, rfl, w.keep hc3 (ne_of hc3 n3.at_ (by intro z; cases z)), ?_⟩
      rw [foldl_snoc _ _ _ _ _ hnm]
      exact Wr.newX n3 w
  · rintro σ' H3 ⟨x2, rfl, hc3, n3⟩
    rw [List.length_map, List.take_length] at n3
    walk_at "rd"
    obtain ⟨k1, k2, -, k4⟩ := fold_put ys [] (by exact List.nodup_nil) (fun p hp => by cases hp)
    have k5 := fold_sub (P := fun n => n ∈ ys) ys [] (fun n hn => by cases hn) (fun n hn => hn)
    have k6 : ∀ n, n ∈ keys (ys.foldl (fun e n => putE e n 0) []) ↔ n ∈ keys (allE rs) := fun n => ⟨fun h => pm.mem_iff.mp (k5 n h), fun h => k4 n (pm.mem_iff.mpr h)⟩
    refine q _ k1 k2 (Lk.zero (fold_zero ys [] fun p hp => by cases hp) (all_zero rs [] fun p hp => by cases hp) k6) ?_ k6 d H3 n3
    have h1 := go ys []
    have h3 : ([] : En0).length = 0 := rfl
    omega
/-- what plain answers -/
structure PlainR (H : Hp) (z : S3 × Nat) (t l d : Addr) (H2 : Hp) : Prop where
  sm : Same H H2
  ht : H2 t = some (.tup [.ref l, .int z.1.p, .ref d, .int z.2])
  fl : H l = none
  hl : H2 l = some (.lst (z.1.t.map V.int))
  fd : H d = none
  hd : H2 d = some (.dK (encE z.1.e))
/-- facts of a program -/
structure Pg (ns : List Str) (rs : List R) : Prop where
  rows : ∀ r ∈ rs, PRow ns 0 rs.length r
  size : rs.length ≤ 90
  nms : NamesOk ns
  nd : (keys (allE rs)).Nodup
  len : (allE rs).length ≤ 6
  inr : ∀ r ∈ rs, ∀ n ∈ r.ns, n ∈ keys (allE rs)
theorem Pg.of (hn : NamesOk ns) (h : ProgOk ns rs) : Pg ns rs := by
  obtain ⟨nd0, ok0, -, in0⟩ := fold_all rs [] (by exact List.nodup_nil) (fun p hp => by cases hp)
  refine ⟨h.rows, h.size, hn, nd0, ?_, in0⟩
  have k := all_sub (P := fun n => n ∈ ns) rs [] (fun n hn => by cases hn) (fun r hr n hm => by
    cases h.rows r hr with
    | s hs => exact hs.inn n hm
    | z hz _ => rw [List.mem_singleton.mp hm]; exact hz
    | j _ => cases hm
    | t => cases hm)
  have := nodup_le nd0 k
  rw [hn.len] at this
  simpa [keys, allE] using this
theorem runS_told (k : Nat) : ∀ s : S3, (runS rs k s).1.t.length ≤ s.t.length + (runS rs k s).2 := by
  induction k with
  | zero => intro s; exact Nat.le_refl _
  | succ k ih =>
    intro s
    unfold runS
    by_cases c : overR rs s.p = true
    · rw [if_pos c]; exact Nat.le_refl _
    · rw [if_neg c]
      have h1 := ih (nextS rs s)
      have h2 : (nextS rs s).t.length ≤ s.t.length + 1 := by
        unfold nextS
        cases rs[s.p.toNat]? with
        | none => exact Nat.le_succ _
        | some r =>
          show (s.t ++ toldE s.e r).length ≤ _
          have := toldE_len s.e r
          rw [List.length_append]
          omega
      show (runS rs k (nextS rs s)).1.t.length ≤ s.t.length + ((runS rs k (nextS rs s)).2 + 1)
      omega
theorem r_plain {ms : Int} (hW : WorksOk g) (pg : Pg ns rs) (hl : RowsAt H l rs) (h0 : 0 ≤ ms) (h300 : ms ≤ 300)
    (q : ∀ e0, (keys e0).Nodup → Lk e0 (allE rs) → ∀ t dl d H2, PlainR H (runS rs ms.toNat ⟨0, e0, []⟩) t dl d H2 → (keys (runS rs ms.toNat ⟨0, e0, []⟩).1.e).Nodup → Q (.ref t) H2) : sp_plain g [.ref l, .int ms] H Q E := by
  refine ⟨_, _, rfl, ?_⟩
  unfold t_plain
  have hc : ∀ r ∈ rs, RowC ns r := fun r hr => (pg.rows r hr).c
  have hg : ∀ r ∈ rs, isG r = false := fun r hr => (pg.rows r hr).ng
  walk_at "rd"
  refine r_checked hW pg.nms hl pg.rows fun H1 s1 => ?_
  walk_at "rd"
  refine ⟨show 0 ≤ sizeLine by decide, fun tl H2 n2 => ?_⟩
  walk_at "rd"
  have hl2 := RowsAt.same (Same.trans s1 n2.sm) hl
  refine r_begun hl2 hc pg.size (by have := pg.len; omega) pg.nd fun e0 k1 k2 k3 k4 k5 d0 H3 n3 => ?_
  walk_at "rd"
  have q0 := q e0 k1 k3
  generalize hz : runS rs ms.toNat ⟨0, e0, []⟩ = z at q0
  have st0 : StOk rs ⟨0, e0, []⟩ := ⟨Int.le_refl _, k1, k2, ?_, fun r hr => rowIn_of (hg r hr) fun n hn => (k5 n).mpr (pg.inr r hr n hn)⟩
  have s3 : Same H H3 := Same.trans s1 (Same.trans n2.sm n3.sm)
  refine v_while (fun m σ' H' => ∃ (st : Nat) (s : S3) (al ad : Addr) (x6 : Option V), σ' = [some (.ref l), some (.int ms), some (.ref al), some (.int s.p), some (.ref ad), some (.int st), x6] ∧ m + st = ms.toNat ∧ (runS rs m s).1 = z.1 ∧ (runS rs m s).2 + st = z.2 ∧ StOk rs s ∧ s.t.length ≤ st ∧ Same H H' ∧ H al = none ∧ H' al = some (.lst (s.t.map V.int)) ∧ H ad = none ∧ H' ad = some (.dK (encE s.e))) ms.toNat ⟨0, ⟨0, e0, []⟩, tl, d0, _, rfl, rfl, by rw [hz], by rw [hz]; rfl, st0, Nat.le_refl _, s3, Same.free s1 n2.fr, n3.sm _ _ n2.at_, Same.free (Same.trans s1 n2.sm) n3.fr, n3.at_⟩ ?_
  · rintro m σ' H4 ⟨st, s, al, ad, x6, rfl, hm, hz1, hz2, sok, tst, s4, fal, hal, fad, had⟩
    have fin : ∀ x6, runS rs m s = (s, 0) → tRet (tTupN (tCons (tVar 2) (tCons (tVar 3) (tCons (tVar 4) (tCons (tVar 5) (tNil)))))) ⟨fun _ H1 => Q .non H1, Q, fun _ _ => False, fun _ _ => False⟩ [some (.ref l), some (.int ms), some (.ref al), some (.int s.p), some (.ref ad), some (.int (st : Int)), x6] H4 := fun x6 e => by
      rw [e] at hz1 hz2
      have hz2' : st = z.2 := by omega
      have hz1' : s = z.1 := hz1
      walk_at "rd"
      refine ⟨show 4 ≤ sizeLine by decide, fun t H5 n5 => ?_⟩
      subst hz1' hz2'
      refine q0 t al ad H5 ⟨Same.trans s4 n5.sm, n5.at_, fal, n5.sm _ _ hal, fad, n5.sm _ _ had⟩ ?_
      exact sok.nd
    have hlA := RowsAt.same s4 hl
    walk_at "rd"
    refine i_d (fun c => ?_) (fun c => ?_)
    · walk_at "rd"
      refine r_is_over sok.p hlA hg (by have := pg.size; omega) ?_
      refine ⟨_, rfl, ?_⟩
      cases ho : overR rs s.p with
      | true =>
        refine i_bF (b := !true) rfl (fin _ ?_)
        cases m with
        | zero => rfl
        | succ k => unfold runS; rw [if_pos ho]
      | false =>
        refine i_bT (b := !false) rfl ?_
        obtain ⟨k, rfl⟩ : ∃ k, m = k + 1 := ⟨m - 1, by omega⟩
        refine ⟨_, fun σ' H' h => h, ?_⟩
        obtain ⟨r, hr⟩ : ∃ r, rs[s.p.toNat]? = some r := by
          unfold overR at ho
          cases hx : rs[s.p.toNat]? with
          | none => rw [hx] at ho; cases ho
          | some r => exact ⟨r, rfl⟩
        have hst : isStop r = false := by
          unfold overR at ho
          rw [hr] at ho
          exact ho
        have hmem := List.mem_of_getElem? hr
        have pr := pg.rows r hmem
        have ne : nextS rs s = ⟨nextP s.e s.p r, doneE s.e r, s.t ++ toldE s.e r⟩ := by unfold nextS; rw [hr]
        have sok2 := sok.next hr pr pr.ok
        have tl1 := toldE_len s.e r
        have hrun : runS rs (k + 1) s = ((runS rs k (nextS rs s)).1, (runS rs k (nextS rs s)).2 + 1) := by rw [runS, if_neg (by rw [ho]; decide)]
        rw [hrun, ne] at hz1 hz2
        walk_at "rd"
        have hp0 := sok.p
        refine r_stepped hlA (j := s.p.toNat) (by omega) hr had (hg r hmem) hst sok.ok (sok.inr r hmem) pr.ok (by have := sok.len; omega) fun t2 d2 l2 H5 S => ?_
        have ht2 := S.ht
        walk_at "rd"
        refine v_addL (S.sm _ _ hal) S.hl (by rw [List.length_map, List.length_map]; exact Nat.le_of_lt (small_sz (by omega))) fun al2 H6 n6 => ?_
        walk_at "rd"
        have s56 := Same.trans s4 S.sm
        refine ⟨k, by omega, st + 1, ⟨nextP s.e s.p r, doneE s.e r, s.t ++ toldE s.e r⟩, al2, d2, _, rfl, by omega, hz1, by have hz3 : _ + 1 + st = z.2 := hz2; omega, sok2, by rw [List.length_append]; omega, Same.trans s56 n6.sm, Same.free s56 n6.fr, ?_, Same.free s4 S.fd, n6.sm _ _ S.hd⟩
        rw [List.map_append]
        exact n6.at_
    · have hm0 : m = 0 := by omega
      subst hm0
      have hz2' : st = z.2 := by have h : 0 + st = z.2 := hz2; omega
      have hz1' : s = z.1 := hz1
      walk_at "rd"
      refine ⟨show 4 ≤ sizeLine by decide, fun t H5 n5 => ?_⟩
      subst hz1' hz2'
      refine q0 t al ad H5 ⟨Same.trans s4 n5.sm, n5.at_, fal, n5.sm _ _ hal, fad, n5.sm _ _ had⟩ ?_
      exact sok.nd
  · show e0.length ≤ 60
    have h1 := nodup_le k1 fun n hn => (k5 n).mp hn
    have h2 := pg.len
    simp only [keys, List.length_map] at h1
    omega
/-! ## the law's own run -/
theorem nine {w : Int} (h0 : 0 ≤ w) (h : w < 8) : w = 0 ∨ w = 1 ∨ w = 2 ∨ w = 3 ∨ w = 4 ∨ w = 5 ∨ w = 6 ∨ w = 7 := by omega
theorem r_law_most {sa : Addr} {ss : List Int} (hS : SqL g.K H sa (ss.map V.int)) (q : ∀ ms : Int, 0 ≤ ms → ms ≤ 300 → ∀ H2, Same H H2 → Q (.int ms) H2) : sp_law_most g [.ref sa] H Q E := by
  refine ⟨_, rfl, ?_⟩
  unfold t_law_most
  walk_at "rd"
  refine r_law_cell_at hS (by omega) ?_
  walk_at "rd"
  refine ⟨show 8 ≤ sizeLine by decide, fun t H1 n1 => ?_⟩
  walk_at "rd"
  have h8 := nine (w := cellv ss 1 % 8) (by omega) (by omega)
  rcases h8 with h8 | h8 | h8 | h8 | h8 | h8 | h8 | h8
  · exact v_ixL (SqL.of n1.at_) (by rw [h8]; exact at0) (q _ (by omega) (by omega) H1 n1.sm)
  · exact v_ixL (SqL.of n1.at_) (by rw [h8]; exact at1) (q _ (by omega) (by omega) H1 n1.sm)
  · exact v_ixL (SqL.of n1.at_) (by rw [h8]; exact at2) (q _ (by omega) (by omega) H1 n1.sm)
  · exact v_ixL (SqL.of n1.at_) (by rw [h8]; exact at3) (q _ (by omega) (by omega) H1 n1.sm)
  · exact v_ixL (SqL.of n1.at_) (by rw [h8]; exact at4) (q _ (by omega) (by omega) H1 n1.sm)
  · exact v_ixL (SqL.of n1.at_) (by rw [h8]; exact at5) (q _ (by omega) (by omega) H1 n1.sm)
  · exact v_ixL (SqL.of n1.at_) (by rw [h8]; exact at6) (q _ (by omega) (by omega) H1 n1.sm)
  · exact v_ixL (SqL.of n1.at_) (by rw [h8]; exact at7) (q _ (by omega) (by omega) H1 n1.sm)
/-- one standing of the law -/
structure StAt (H : Hp) (x : V) (s : S3) : Prop where
  at_ : ∃ t d l, x = .ref t ∧ H t = some (.tup [.int s.p, .ref d, .ref l]) ∧ H d = some (.dK (encE s.e)) ∧ H l = some (.lst (s.t.map V.int))
theorem StAt.same {x : V} {s : S3} {H2 : Hp} (h : StAt H x s) (k : Same H H2) : StAt H2 x s := by
  obtain ⟨t, d, l, e, h1, h2, h3⟩ := h.at_
  exact ⟨t, d, l, e, k _ _ h1, k _ _ h2, k _ _ h3⟩
theorem r_law_plain {ms : Int} (pg : Pg ns rs) (hl : RowsAt H l rs) (h0 : 0 ≤ ms) (h300 : ms ≤ 300)
    (q : ∀ (xs : List V) x p H2, NewX H p (.lst (xs ++ [x])) H2 → xs.length = (runS rs ms.toNat ⟨0, allE rs, []⟩).2 → StAt H2 x (runS rs ms.toNat ⟨0, allE rs, []⟩).1 → (keys (runS rs ms.toNat ⟨0, allE rs, []⟩).1.e).Nodup → Q (.ref p) H2) : sp_law_plain g [.ref l, .int ms] H Q E := by
  refine ⟨_, _, rfl, ?_⟩
  unfold t_law_plain
  rw [law_over_eq]
  have hc : ∀ r ∈ rs, RowC ns r := fun r hr => (pg.rows r hr).c
  have hg : ∀ r ∈ rs, isG r = false := fun r hr => (pg.rows r hr).ng
  walk_at "rd"
  refine r_law_all hl hg (by have := pg.size; omega) fun d0 H1 n1 => ?_
  walk_at "rd"
  refine ⟨show 0 ≤ sizeLine by decide, fun tl H2 n2 => ?_⟩
  walk_at "rd"
  refine ⟨show 3 ≤ sizeLine by decide, fun t0 H3 n3 => ?_⟩
  walk_at "rd"
  refine ⟨show 1 ≤ sizeLine by decide, fun f H4 n4 => ?_⟩
  walk_at "rd"
  obtain ⟨-, ok0, -, -⟩ := fold_all rs [] (by exact List.nodup_nil) (fun p hp => by cases hp)
  have st0 : StOk rs ⟨0, allE rs, []⟩ := ⟨Int.le_refl _, pg.nd, ok0, by have := pg.len; show (allE rs).length ≤ 60; omega, fun r hr => rowIn_of (hg r hr) fun n hn => pg.inr r hr n hn⟩
  generalize hz : runS rs ms.toNat ⟨0, allE rs, []⟩ = z at q
  have s3 : Same H H3 := Same.trans n1.sm (Same.trans n2.sm n3.sm)
  have x0 : NewX H f (.lst ([] ++ [.ref t0])) H4 := n4.x.of s3
  have a0 : StAt H4 (.ref t0) ⟨0, allE rs, []⟩ := ⟨t0, d0, tl, rfl, n4.sm _ _ n3.at_, by walk_at "hh", by walk_at "hh"⟩
  refine v_while (fun m σ' H' => ∃ (xs : List V) (x : V) (s : S3) (x3 : Option V), σ' = [some (.ref l), some (.int ms), some (.ref f), x3] ∧ m + xs.length = ms.toNat ∧ (runS rs m s).1 = z.1 ∧ (runS rs m s).2 + xs.length = z.2 ∧ StOk rs s ∧ s.t.length ≤ xs.length ∧ NewX H f (.lst (xs ++ [x])) H' ∧ StAt H' x s) ms.toNat ⟨[], .ref t0, ⟨0, allE rs, []⟩, _, rfl, rfl, by rw [hz], by rw [hz]; rfl, st0, Nat.le_refl _, x0, a0⟩ ?_
  rintro m σ' H5 ⟨xs, x, s, x3, rfl, hm, hz1, hz2, sok, tst, n5, sa⟩
  have hlA := RowsAt.same n5.sm hl
  obtain ⟨ta, da, la, rfl, hta, hda, hla⟩ := sa.at_
  walk_at "rd"
  have lst := SqL.of (K := g.K) n5.at_
  have ln : (xs ++ [V.ref ta]).length = xs.length + 1 := by rw [List.length_append]; rfl
  refine i_d (fun c => ?_) (fun c => ?_)
  · walk_at "rd"
    refine v_ixL lst (atI_last xs _) ?_
    walk_at "rd"
    refine r_is_over sok.p hlA hg (by have := pg.size; omega) ?_
    refine ⟨_, rfl, ?_⟩
    cases ho : overR rs s.p with
    | true =>
      refine i_bF (b := !true) rfl ?_
      have e : runS rs m s = (s, 0) := by
        cases m with
        | zero => rfl
        | succ k => unfold runS; rw [if_pos ho]
      rw [e] at hz1 hz2
      walk_at "rd"
      have hz1' : s = z.1 := hz1
      have hz2' : 0 + xs.length = z.2 := hz2
      subst hz1'
      exact q xs _ f H5 n5 (by omega) sa sok.nd
    | false =>
      refine i_bT (b := !false) rfl ?_
      obtain ⟨k, rfl⟩ : ∃ k, m = k + 1 := ⟨m - 1, by omega⟩
      refine ⟨_, fun σ' H' h => h, ?_⟩
      obtain ⟨r, hr⟩ : ∃ r, rs[s.p.toNat]? = some r := by
        unfold overR at ho
        cases hx : rs[s.p.toNat]? with
        | none => rw [hx] at ho; cases ho
        | some r => exact ⟨r, rfl⟩
      have hst : isStop r = false := by
        unfold overR at ho
        rw [hr] at ho
        exact ho
      have hmem := List.mem_of_getElem? hr
      have pr := pg.rows r hmem
      have ne : nextS rs s = ⟨nextP s.e s.p r, doneE s.e r, s.t ++ toldE s.e r⟩ := by unfold nextS; rw [hr]
      have sok2 := sok.next hr pr pr.ok
      have tl1 := toldE_len s.e r
      have hrun : runS rs (k + 1) s = ((runS rs k (nextS rs s)).1, (runS rs k (nextS rs s)).2 + 1) := by rw [runS, if_neg (by rw [ho]; decide)]
      rw [hrun, ne] at hz1 hz2
      have hp0 := sok.p
      walk_at "rd"
      refine v_ixL lst (atI_last xs _) ?_
      walk_at "rd"
      refine v_ixL lst (atI_last xs _) ?_
      walk_at "rd"
      refine r_law_step hlA (j := s.p.toNat) (by omega) hr hda (hg r hmem) hst sok.ok (sok.inr r hmem) pr.ok (by have := sok.len; omega) fun t2 d2 l2 H6 S => ?_
      have ht2 := S.ht
      have n6 := n5.up S.sm
      have lst6 := SqL.of (K := g.K) n6.at_
      have hta6 := S.sm _ _ hta
      walk_at "rd"
      refine ⟨ty_l n6.at_, ?_⟩
      walk_at "rd"
      refine v_ixL lst6 (atI_last xs _) ?_
      walk_at "rd"
      refine v_addL (S.sm _ _ hla) S.hl (by rw [List.length_map, List.length_map]; exact Nat.le_of_lt (small_sz (by omega))) fun l3 H7 n7 => ?_
      walk_at "rd"
      refine ⟨show 3 ≤ sizeLine by decide, fun t3 H8 n8 => ?_⟩
      walk_at "rd"
      have n9 := n6.up (Same.trans n7.sm n8.sm)
      refine v_app n9.at_ (by rw [ln]; exact small_sz (by omega)) fun H9 w => ?_
      have tk := w.tk n9.at_ rfl
      refine ⟨k, by omega, xs ++ [V.ref ta], .ref t3, ⟨nextP s.e s.p r, doneE s.e r, s.t ++ toldE s.e r⟩, _, rfl, by rw [ln]; omega, hz1, by have hz3 : _ + 1 + xs.length = z.2 := hz2; rw [ln]; omega, sok2, by rw [List.length_append, ln]; omega, Wr.newX n9 w, ⟨t3, d2, l3, rfl, tk _ _ rfl n8.at_, ?_, ?_⟩⟩
      · have h1 := n8.sm _ _ (n7.sm _ _ S.hd)
        exact w.keep h1 (ne_of h1 n9.at_ (by intro z; cases z))
      · have h1 := n8.sm _ _ n7.at_
        rw [List.map_append]
        refine w.keep h1 fun z => ?_
        have h2 := n7.fr
        rw [z, n6.at_] at h2
        cases h2
  · walk_at "rd"
    have hm0 : m = 0 := by omega
    subst hm0
    have hz1' : s = z.1 := hz1
    have hz2' : 0 + xs.length = z.2 := hz2
    subst hz1'
    exact q xs _ f H5 n5 (by omega) sa sok.nd

end Tf

namespace Tf
open PySem L2
local macro_rules | `(tactic| walk_at "hl") => `(tactic| first
  | assumption
  | exact SqL.of (by walk_at "hh")
  | exact Same.seq (New.sm (by assumption)) (by walk_at "hl")
  | exact Same.seq (NewX.sm (by assumption)) (by walk_at "hl")
  | exact Same.seq (by assumption) (by walk_at "hl"))
local macro_rules | `(tactic| walk_at "ht") => `(tactic| first
  | assumption
  | exact SqT.of (by walk_at "hh")
  | exact Same.tup (New.sm (by assumption)) (by walk_at "ht")
  | exact Same.tup (NewX.sm (by assumption)) (by walk_at "ht")
  | exact Same.tup (by assumption) (by walk_at "ht"))
local macro_rules | `(tactic| walk_at "hr") => `(tactic| first
  | assumption
  | exact Or.inl (by walk_at "hh")
  | exact Same.rd (New.sm (by assumption)) (by walk_at "hr")
  | exact Same.rd (NewX.sm (by assumption)) (by walk_at "hr")
  | exact Same.rd (by assumption) (by walk_at "hr"))
local macro_rules | `(tactic| walk_at "hh") => `(tactic| first
  | assumption
  | exact New.at_ (by assumption)
  | exact NewX.at_ (by assumption)
  | exact Wr.at_ (by assumption)
  | exact Same.get (New.sm (by assumption)) (by walk_at "hh")
  | exact Same.get (NewX.sm (by assumption)) (by walk_at "hh")
  | exact Same.get (by assumption) (by walk_at "hh"))
local macro_rules | `(tactic| walk_at "sm") => `(tactic| first
  | exact Same.refl _
  | assumption
  | exact Same.tr2 (New.sm (by assumption)) (by walk_at "sm")
  | exact Same.tr2 (NewX.sm (by assumption)) (by walk_at "sm")
  | exact Same.tr2 (by assumption) (by walk_at "sm"))
local macro_rules | `(tactic| walk_at "ix") => `(tactic| with_reducible first | exact at0 | exact at1 | exact at2 | exact at3 | exact at4 | exact at5 | exact at6 | exact at7)
local macro_rules | `(tactic| walk_at "tyx") => `(tactic| first
  | exact TyX.base (TyOf.int _) | exact TyX.base (TyOf.str _) | exact TyX.base (TyOf.bl _) | exact TyX.base TyOf.non
  | exact TyX.base (TyOf.lst (by walk_at "hh")) | exact TyX.base (TyOf.tup (by walk_at "hh")) | exact TyX.base (TyOf.dK (by walk_at "hh")))
local macro_rules | `(tactic| walk_at "cond") => `(tactic| first | assumption | exact rfl | decide +kernel | omega | (simp only [List.length_cons, List.length_nil]; omega))
local macro_rules | `(tactic| walk_at "rd1") => `(tactic| first
  | with_reducible refine Rd.go ?_
  | ((with_reducible refine' k_var ?rdh ?_); (case rdh => exact rfl))
  | ((with_reducible refine' k_gt2 ?rdh ?_); (case rdh => walk_at "ht"))
  | ((with_reducible refine' v_mod ?rdh ?_); (case rdh => first | decide | omega))
  | ((with_reducible refine' v_fdiv ?rdh ?_); (case rdh => exact ⟨by decide, by decide⟩))
  | ((with_reducible refine' v_mulI ?rdh ?_); (case rdh => first | exact .inl ⟨by omega, by omega⟩ | exact .inr ⟨by omega, by omega⟩))
  | ((with_reducible refine' v_isiT ?rdh ?rdk ?_); (case rdh => walk_at "tyx"); (case rdk => decide +kernel))
  | ((with_reducible refine' v_isiF ?rdh ?rdk ?_); (case rdh => walk_at "tyx"); (case rdk => decide +kernel))
  | ((with_reducible refine' v_ixT ?rdh ?rdk ?_); (case rdh => walk_at "ht"); (case rdk => walk_at "ix"))
  | ((with_reducible refine' v_ixL ?rdh ?rdk ?_); (case rdh => walk_at "hl"); (case rdk => walk_at "ix"))
  | ((with_reducible refine' v_lenL ?rdh ?_); (case rdh => walk_at "hl"))
  | ((with_reducible refine' v_lenT ?rdh ?_); (case rdh => walk_at "ht"))
  | ((with_reducible refine' v_lenD ?rdh ?_); (case rdh => walk_at "hh"))
  | ((with_reducible refine' i_dT ?rdh ?_); (case rdh => walk_at "cond"))
  | ((with_reducible refine' i_dF ?rdh ?_); (case rdh => walk_at "cond"))
  | ((with_reducible refine' i_nT ?rdh ?_); (case rdh => walk_at "cond"))
  | ((with_reducible refine' i_nF ?rdh ?_); (case rdh => walk_at "cond"))
  | ((with_reducible refine' i_bT ?rdh ?_); (case rdh => first | assumption | decide +kernel))
  | ((with_reducible refine' i_bF ?rdh ?_); (case rdh => first | assumption | decide +kernel)))
local macro_rules | `(tactic| walk_at "rd") => `(tactic| repeat walk_at "rd1")

variable {g : En} {H H0 : Hp} {Q : VK} {E : XK} {a b p l d : Addr} {ns : List Str} {e e1 e2 : En0} {r : R} {rs : List R} {σ : L2.St}
/-! ## LAW: a plain run -/
theorem r_law_bits {t l d : Addr} {is : List Int} {pl st : Int} (ht : H t = some (.tup [.ref l, .int pl, .ref d, .int st])) (hl : H l = some (.lst (is.map V.int))) (hd : H d = some (.dK (encE e))) (nd : (keys e).Nodup) (hz : is.length ≤ 1000) (hz2 : e.length ≤ 1000) (q : ∀ H2, Same H H2 → Q (.bl true) H2) : sp_law_bits g [.ref t] H Q E := by
  refine ⟨_, rfl, ?_⟩
  unfold t_law_bits
  walk_at "rd"
  refine v_lcLs (ys := List.replicate is.length (V.bl true)) (SqL.of hl) (by simp) (by simpa using hz) ?_ ?_
  · intro i x y H' hx hy s1 Q' q'
    have ey : y = .bl true := (List.mem_replicate.mp (List.mem_of_getElem? hy)).2
    subst ey
    obtain ⟨z, _, rfl⟩ := List.mem_map.mp (List.mem_of_getElem? hx)
    simp only [wipe]
    walk_at "rd"
    exact r_law_whole (q' H' (Same.refl _))
  · intro D H2 n2
    have ht2 := n2.sm _ _ ht
    have hd2 := n2.sm _ _ hd
    walk_at "rd"
    refine v_allT (SqL.of n2.at_) ?_
    walk_at "rd"
    refine r_law_whole ?_
    walk_at "rd"
    refine r_law_whole ?_
    walk_at "rd"
    refine v_listD (.inl hd2) fun c H3 n3 => ?_
    rw [encE_keys] at n3
    walk_at "rd"
    refine v_lcLs (ys := List.replicate e.length (V.bl true)) (SqL.of n3.at_) (by simp [keys]) (by simpa [keys] using hz2) ?_ ?_
    · intro i x y H' hx hy s1 Q' q'
      have ey : y = .bl true := (List.mem_replicate.mp (List.mem_of_getElem? hy)).2
      subst ey
      obtain ⟨nm, hnm, rfl⟩ := List.mem_map.mp (List.mem_of_getElem? hx)
      obtain ⟨v, hv⟩ := lkE_mem hnm
      simp only [wipe]
      have ht' := s1 _ _ (n3.sm _ _ ht2)
      have hd' := s1 _ _ (n3.sm _ _ hd2)
      walk_at "rd"
      refine v_ixDS (.inl hd') (by rw [valV_encE, hv]; rfl) ?_
      walk_at "rd"
      exact r_law_whole (q' H' (Same.refl _))
    · intro D2 H4 n4
      walk_at "rd"
      exact v_allT (SqL.of n4.at_) (q H4 (Same.trans n2.sm (Same.trans n3.sm n4.sm)))
theorem ints_eqR {K : PySem.W.Frag} {is : List Int} (ha : H a = some (.lst (is.map V.int))) (hb : H b = some (.lst (is.map V.int))) {n : Nat} : EqR K H (EqW K H n) (.ref a) (.ref b) := by
  refine .inl ⟨a, b, _, _, rfl, rfl, SqL.of ha, SqL.of hb, All2.paired ⟨rfl, fun i x y h1 h2 => ?_⟩⟩
  rw [h1] at h2
  cases h2
  obtain ⟨z, _, rfl⟩ := List.mem_map.mp (List.mem_of_getElem? h1)
  cases n with
  | zero => exact .inl ⟨rfl, rfl⟩
  | succ n => exact .inl ⟨rfl, rfl⟩
theorem quad_eq {K : PySem.W.Frag} {n : Nat} {is : List Int} {a1 a2 b1 b2 : Addr} {i j : Int} (v : EqvE e1 e2) (h1 : H a1 = some (.lst (is.map V.int))) (h2 : H b1 = some (.lst (is.map V.int))) (h3 : H a2 = some (.dK (encE e1))) (h4 : H b2 = some (.dK (encE e2))) :
    Paired (EqW K H (n + 1)) [.ref a1, .int i, .ref a2, .int j] [.ref b1, .int i, .ref b2, .int j] :=
  .cons (.inr (.inr (ints_eqR h1 h2))) (.cons (.inl ⟨rfl, rfl⟩) (.cons (.inr (.inr (eqv_dicts v h3 h4))) (.cons (.inl ⟨rfl, rfl⟩) .nil)))
theorem runS_steps (k : Nat) : ∀ s : S3, (runS rs k s).2 ≤ k := by
  induction k with
  | zero => intro s; exact Nat.le_refl _
  | succ k ih =>
    intro s
    unfold runS
    by_cases c : overR rs s.p = true
    · rw [if_pos c]; exact Nat.zero_le _
    · rw [if_neg c]; exact Nat.succ_le_succ (ih _)
theorem runS_ok (pg : Pg ns rs) (k : Nat) : ∀ s : S3, StOk rs s → StOk rs (runS rs k s).1 := by
  induction k with
  | zero => exact fun s h => h
  | succ k ih =>
    intro s h
    unfold runS
    by_cases c : overR rs s.p = true
    · rw [if_pos c]; exact h
    · rw [if_neg c]
      refine ih _ ?_
      unfold nextS
      cases hx : rs[s.p.toNat]? with
      | none => exact h
      | some r => exact h.next hx (pg.rows r (List.mem_of_getElem? hx)) (pg.rows r (List.mem_of_getElem? hx)).ok
theorem Pg.st0 (pg : Pg ns rs) : StOk rs ⟨0, allE rs, []⟩ := by
  obtain ⟨-, ok0, -, -⟩ := fold_all rs [] (by exact List.nodup_nil) (fun p hp => by cases hp)
  exact ⟨Int.le_refl _, pg.nd, ok0, by have := pg.len; show (allE rs).length ≤ 60; omega, fun r hr => rowIn_of (pg.rows r hr).ng fun n hn => pg.inr r hr n hn⟩
theorem runS_size (pg : Pg ns rs) (k : Nat) : (runS rs k ⟨0, allE rs, []⟩).1.e.length ≤ 1000 := Nat.le_trans (runS_ok pg k _ pg.st0).len (by decide)
theorem r_law_k03 (hW : WorksOk g) {sa : Addr} {ss : List Int} (hS : SqL g.K H sa (ss.map V.int)) (h63 : ss.length ≤ 63) (q : ∀ H2, Q (.bl true) H2) : sp_law_k03 g [.ref sa] H Q E := by
  refine ⟨_, rfl, ?_⟩
  unfold t_law_k03
  walk_at "rd"
  refine r_law_program hS h63 fun ns rs hn po l H1 nr => ?_
  obtain ⟨fl, s1, vs, hv, hR⟩ := nr
  have pg := Pg.of hn po
  walk_at "rd"
  refine r_law_most (Same.seq s1 hS) fun ms m0 m300 H2 s2 => ?_
  have hv2 := s2 _ _ hv
  have hR2 := RowsV.tk (Same.tk s2) hR
  walk_at "rd"
  refine r_law_plain pg ⟨vs, hv2, hR2⟩ m0 m300 fun xs x f H3 n3 hx sx nd3 => ?_
  obtain ⟨lt, ld, ll, rfl, hlt, hld, hll⟩ := sx.at_
  have hlenf : (xs ++ [V.ref lt]).length = xs.length + 1 := by rw [List.length_append]; rfl
  have hf := n3.at_
  walk_at "rd"
  refine v_ixL (SqL.of n3.at_) (atI_last xs _) ?_
  walk_at "rd"
  refine ⟨show 4 ≤ sizeLine by decide, fun due H4 n4 => ?_⟩
  have hv4 := n4.sm _ _ (n3.sm _ _ hv2)
  have hR4 := RowsV.tk (Same.tk (Same.trans n3.sm n4.sm)) hR2
  have hdue := n4.at_
  walk_at "rd"
  refine v_listL (SqL.of hv4) fun kp H5 n5 => ?_
  have hdue5 := n5.sm _ _ hdue
  have hl5 := n5.sm _ _ (n4.sm _ _ hll)
  have hd5 := n5.sm _ _ (n4.sm _ _ hld)
  have hv5 := n5.sm _ _ hv4
  have hR5 := RowsV.tk (Same.tk n5.sm) hR4
  have hk5 := n5.at_
  have hxs : ((xs ++ [V.ref lt]).length : Int) - 1 = ((runS rs ms.toNat ⟨0, allE rs, []⟩).2 : Nat) := by rw [hlenf, ← hx]; omega
  rw [hxs] at hdue5
  walk_at "rd"
  have told : (runS rs ms.toNat ⟨0, allE rs, []⟩).1.t.length ≤ 300 ∧ (runS rs ms.toNat ⟨0, allE rs, []⟩).1.e.length ≤ 1000 ∧ ∀ e0, Lk e0 (allE rs) → (keys (runS rs ms.toNat ⟨0, e0, []⟩).1.e).Nodup → (runS rs ms.toNat ⟨0, e0, []⟩).1.p = (runS rs ms.toNat ⟨0, allE rs, []⟩).1.p ∧ (runS rs ms.toNat ⟨0, e0, []⟩).1.t = (runS rs ms.toNat ⟨0, allE rs, []⟩).1.t ∧ (runS rs ms.toNat ⟨0, e0, []⟩).2 = (runS rs ms.toNat ⟨0, allE rs, []⟩).2 ∧ EqvE (runS rs ms.toNat ⟨0, e0, []⟩).1.e (runS rs ms.toNat ⟨0, allE rs, []⟩).1.e := by
    refine ⟨?_, ?_, fun e0 hk hnd => ?_⟩
    · have h1 := runS_told (rs := rs) ms.toNat ⟨0, allE rs, []⟩
      have h2 := runS_steps (rs := rs) ms.toNat ⟨0, allE rs, []⟩
      have h3 : ([] : List Int).length = 0 := rfl
      simp only [h3] at h1
      omega
    · exact runS_size pg ms.toNat
    · obtain ⟨al, e2⟩ := Alike.run (rs := rs) ms.toNat (s := ⟨0, e0, []⟩) (u := ⟨0, allE rs, []⟩) ⟨rfl, hk, rfl⟩
      exact ⟨al.p, al.t, e2, al.e.eqv hnd nd3⟩
  generalize runS rs ms.toNat ⟨0, allE rs, []⟩ = z at *
  obtain ⟨tlen, elen, same⟩ := told
  refine r_plain hW pg ⟨vs, hk5, hR5⟩ m0 m300 fun e0 k1 k2 t1 l1 d1 H6 P1 nd1 => ?_
  obtain ⟨ep, et, es, ev⟩ := same e0 k2 nd1
  obtain ⟨s6, ht1, fl1, hl1, fd1, hd1⟩ := P1
  rw [ep, es] at ht1
  rw [et] at hl1
  generalize runS rs ms.toNat ⟨0, e0, []⟩ = z1 at *
  have el1 : z1.1.e.length ≤ 1000 := by rw [ev.len]; exact elen
  walk_at "rd"
  refine r_law_bits ht1 hl1 hd1 nd1 (by omega) el1 fun H7 s7 => ?_
  walk_at "rd"
  have s57 := Same.trans s6 s7
  have ht7 := s7 _ _ ht1
  have hl7 := s7 _ _ hl1
  have hd7 := s7 _ _ hd1
  refine .inr (.inr (.inr ⟨3, by decide, ⟨t1, due, _, _, rfl, rfl, SqT.of ht7, SqT.of (s57 _ _ hdue5), quad_eq ev hl7 (s57 _ _ hl5) hd7 (s57 _ _ hd5)⟩, ?_⟩))
  walk_at "rd"
  refine ⟨ty_l hl7, ?_⟩
  walk_at "rd"
  refine v_app hl7 (by rw [List.length_map]; exact small_sz (by omega)) fun H8 w8 => ?_
  have s58 := w8.same s57 fl1
  have ht8 := w8.keep ht7 (ne_of ht7 hl7 (by intro z; cases z))
  have hd8 := w8.keep hd7 (ne_of hd7 hl7 (by intro z; cases z))
  walk_at "rd"
  refine ⟨ty_d hd8, ?_⟩
  refine v_dclear hd8 fun H9 w9 => ?_
  have s59 := w9.same s58 fd1
  clear w8 w9 ht8 hd8 s58 ht7 hl7 hd7 s57 s7 s6 ht1 hl1 hd1 fl1 fd1 ev ep et es
  walk_at "rd"
  refine r_plain hW pg ⟨vs, s59 _ _ hk5, RowsV.tk (Same.tk s59) hR5⟩ m0 m300 fun e0 k1 k2 t1 l1 d1 H10 P1 nd1 => ?_
  obtain ⟨ep, et, es, ev⟩ := same e0 k2 nd1
  obtain ⟨s6, ht1, fl1, hl1, fd1, hd1⟩ := P1
  rw [ep, es] at ht1
  rw [et] at hl1
  walk_at "rd"
  have s510 := Same.trans s59 s6
  refine .inr (.inr ⟨4, by decide, .inr (.inl ⟨t1, due, _, _, rfl, rfl, SqT.of ht1, SqT.of (s510 _ _ hdue5), ?_⟩), ?_⟩)
  · exact (quad_eq ev hl1 (s510 _ _ hl5) hd1 (s510 _ _ hd5))
  · walk_at "rd"
    refine r_law_alike (fun v hm => ?_) (s510 _ _ hk5) (s510 _ _ hv5) fun H2 s2 => q H2
    obtain ⟨i, hi⟩ := List.mem_iff_getElem?.mp hm
    obtain ⟨r, -, p, e1, -⟩ := hR5.get hi
    exact ⟨p, e1⟩
theorem true_k03 {K : PySem.W.Frag} (hW : ∀ H : Hp, SqT K H (He.ga K "WORKS") [.str "add", .str "minus", .str "times", .str "less"]) {H : Hp} {a : Addr} {ns : List Int} (hl : ns.length ≤ 63) (hS : SqL K H a (ns.map V.int)) : sp_law_k03 (enOf K) [.ref a] H (fun v _ => v = .bl true) (fun _ _ _ => False) := r_law_k03 (g := enOf K) hW hS hl fun _ => rfl

end Tf

namespace Tf
open PySem L2
local macro_rules | `(tactic| walk_at "hl") => `(tactic| first
  | assumption
  | exact SqL.of (by walk_at "hh")
  | exact Same.seq (New.sm (by assumption)) (by walk_at "hl")
  | exact Same.seq (NewX.sm (by assumption)) (by walk_at "hl")
  | exact Same.seq (by assumption) (by walk_at "hl"))
local macro_rules | `(tactic| walk_at "ht") => `(tactic| first
  | assumption
  | exact SqT.of (by walk_at "hh")
  | exact Same.tup (New.sm (by assumption)) (by walk_at "ht")
  | exact Same.tup (NewX.sm (by assumption)) (by walk_at "ht")
  | exact Same.tup (by assumption) (by walk_at "ht"))
local macro_rules | `(tactic| walk_at "hr") => `(tactic| first
  | assumption
  | exact Or.inl (by walk_at "hh")
  | exact Same.rd (New.sm (by assumption)) (by walk_at "hr")
  | exact Same.rd (NewX.sm (by assumption)) (by walk_at "hr")
  | exact Same.rd (by assumption) (by walk_at "hr"))
local macro_rules | `(tactic| walk_at "hh") => `(tactic| first
  | assumption
  | exact New.at_ (by assumption)
  | exact NewX.at_ (by assumption)
  | exact Wr.at_ (by assumption)
  | exact Same.get (New.sm (by assumption)) (by walk_at "hh")
  | exact Same.get (NewX.sm (by assumption)) (by walk_at "hh")
  | exact Same.get (by assumption) (by walk_at "hh"))
local macro_rules | `(tactic| walk_at "sm") => `(tactic| first
  | exact Same.refl _
  | assumption
  | exact Same.tr2 (New.sm (by assumption)) (by walk_at "sm")
  | exact Same.tr2 (NewX.sm (by assumption)) (by walk_at "sm")
  | exact Same.tr2 (by assumption) (by walk_at "sm"))
local macro_rules | `(tactic| walk_at "ix") => `(tactic| with_reducible first | exact at0 | exact at1 | exact at2 | exact at3 | exact at4 | exact at5 | exact at6 | exact at7)
local macro_rules | `(tactic| walk_at "tyx") => `(tactic| first
  | exact TyX.base (TyOf.int _) | exact TyX.base (TyOf.str _) | exact TyX.base (TyOf.bl _) | exact TyX.base TyOf.non
  | exact TyX.base (TyOf.lst (by walk_at "hh")) | exact TyX.base (TyOf.tup (by walk_at "hh")) | exact TyX.base (TyOf.dK (by walk_at "hh")))
local macro_rules | `(tactic| walk_at "cond") => `(tactic| first | assumption | exact rfl | decide +kernel | omega | (simp only [List.length_cons, List.length_nil]; omega))
local macro_rules | `(tactic| walk_at "rd1") => `(tactic| first
  | with_reducible refine Rd.go ?_
  | ((with_reducible refine' k_var ?rdh ?_); (case rdh => exact rfl))
  | ((with_reducible refine' k_gt2 ?rdh ?_); (case rdh => walk_at "ht"))
  | ((with_reducible refine' v_mod ?rdh ?_); (case rdh => first | decide | omega))
  | ((with_reducible refine' v_fdiv ?rdh ?_); (case rdh => exact ⟨by decide, by decide⟩))
  | ((with_reducible refine' v_mulI ?rdh ?_); (case rdh => first | exact .inl ⟨by omega, by omega⟩ | exact .inr ⟨by omega, by omega⟩))
  | ((with_reducible refine' v_isiT ?rdh ?rdk ?_); (case rdh => walk_at "tyx"); (case rdk => decide +kernel))
  | ((with_reducible refine' v_isiF ?rdh ?rdk ?_); (case rdh => walk_at "tyx"); (case rdk => decide +kernel))
  | ((with_reducible refine' v_ixT ?rdh ?rdk ?_); (case rdh => walk_at "ht"); (case rdk => walk_at "ix"))
  | ((with_reducible refine' v_ixL ?rdh ?rdk ?_); (case rdh => walk_at "hl"); (case rdk => walk_at "ix"))
  | ((with_reducible refine' v_lenL ?rdh ?_); (case rdh => walk_at "hl"))
  | ((with_reducible refine' v_lenT ?rdh ?_); (case rdh => walk_at "ht"))
  | ((with_reducible refine' v_lenD ?rdh ?_); (case rdh => walk_at "hh"))
  | ((with_reducible refine' i_dT ?rdh ?_); (case rdh => walk_at "cond"))
  | ((with_reducible refine' i_dF ?rdh ?_); (case rdh => walk_at "cond"))
  | ((with_reducible refine' i_nT ?rdh ?_); (case rdh => walk_at "cond"))
  | ((with_reducible refine' i_nF ?rdh ?_); (case rdh => walk_at "cond"))
  | ((with_reducible refine' i_bT ?rdh ?_); (case rdh => first | assumption | decide +kernel))
  | ((with_reducible refine' i_bF ?rdh ?_); (case rdh => first | assumption | decide +kernel)))
local macro_rules | `(tactic| walk_at "rd") => `(tactic| repeat walk_at "rd1")

variable {g : En} {H H0 : Hp} {Q : VK} {E : XK} {a b p l d : Addr} {ns : List Str} {e e1 e2 : En0} {r : R} {rs : List R} {σ : L2.St}
/-! ## traces -/
theorem SqT.frz {K : PySem.W.Frag} {o : Obj} {xs : List V} (h : H p = some (.frz o (.tup xs))) : SqT K H p xs := .inl (.inr ⟨o, h⟩)
section
variable {te : TE} {ta : TA}
theorem k_tupF {t : TA} (h : t σ H fun xs H1 => xs.length ≤ sizeLine ∧ ∀ p o H2, o.dict = none → New H1 p (.frz o (.tup xs)) H2 → Q (.ref p) H2) : tTupF t σ H Q := h
instance rd_k_tupF {t : TA} : Rd (tTupF t σ H Q) (t σ H fun xs H1 => xs.length ≤ sizeLine ∧ ∀ p o H2, o.dict = none → New H1 p (.frz o (.tup xs)) H2 → Q (.ref p) H2) := ⟨k_tupF⟩
end
/-- the row that a zero comes to -/
def guardR (e : En0) (n : Str) (k p : Int) (st : Nat) : R := .guard (.nm n) (decide ((lkE e n).getD 0 = 0)) (if (lkE e n).getD 0 = 0 then p + 1 else k) st []
theorem RepAt.nil {o : Obj} (hd : o.dict = none) (h : H p = some (.frz o (.tup []))) : RepAt H p [] := ⟨o, [], hd, h, All2.nil⟩
theorem r_guard_of {n : Str} {k pl : Int} {st : Nat} (hb : H b = some (.tup [.str "zero", .str n, .int k])) (ha : H a = some (.dK (encE e))) (hn : n ∈ keys e)
    (q : ∀ t H2, Same H H2 → RowO H2 t (guardR e n k pl st) → Q (.ref t) H2) : sp_guard_of g [.ref b, .int pl, .ref a, .int (st : Int)] H Q E := by
  refine ⟨_, _, _, _, rfl, ?_⟩
  unfold t_guard_of
  obtain ⟨v, hv⟩ := lkE_mem hn
  walk_at "rd"
  refine v_ixDS (v := .int v) (.inl ha) (by rw [valV_encE, hv]; rfl) ?_
  walk_at "rd"
  unfold guardR at q
  rw [hv] at q
  refine i_d (fun c => ?_) (fun c => ?_)
  · walk_at "rd"
    refine ⟨show 0 ≤ sizeLine by decide, fun f o H1 od n1 => ?_⟩
    walk_at "rd"
    refine ⟨show 6 ≤ sizeLine by decide, fun t H2 n2 => ?_⟩
    refine q t H2 (Same.trans n1.sm n2.sm) ⟨f, ?_, RepAt.nil od (n2.sm _ _ n1.at_)⟩
    have h2 := n2.at_
    have c' : (some v).getD 0 = 0 := c
    rw [if_pos c']
    exact h2
  · walk_at "rd"
    refine ⟨show 0 ≤ sizeLine by decide, fun f o H1 od n1 => ?_⟩
    walk_at "rd"
    refine ⟨show 6 ≤ sizeLine by decide, fun t H2 n2 => ?_⟩
    refine q t H2 (Same.trans n1.sm n2.sm) ⟨f, ?_, RepAt.nil od (n2.sm _ _ n1.at_)⟩
    have h2 := n2.at_
    have c' : ¬ (some v).getD 0 = 0 := c
    rw [if_neg c']
    exact h2
def dueR (e : En0) (p : Int) (st : Nat) : R → List R
  | .jump _ => []
  | .zero n k => [guardR e n k p st]
  | r => [r]
/-- what writing a trace comes to -/
def wrS (rs : List R) (start : Int) : Nat → Nat → Int → En0 → List R → Option (List R × Nat)
  | 0, _, _, _, _ => none
  | k + 1, st, p, e, f => if overR rs p = true then none else match rs[p.toNat]? with
    | none => none
    | some r => if nextP e p r = start then some (f ++ dueR e p (st + 1) r, st + 1) else wrS rs start k (st + 1) (nextP e p r) (doneE e r) (f ++ dueR e p (st + 1) r)
theorem r_law_due_row {pl : Int} {j st : Nat} (hl : RowsAt H l rs) (ej : pl = (j : Int)) (hr : rs[j]? = some r) (ha : H a = some (.dK (encE e))) (hc : RowC ns r) (hs : isStop r = false) (hi : rowIn e r)
    (q : ∀ t H2, Same H H2 → RowsAt H2 t (dueR e pl st r) → Q (.ref t) H2) : sp_law_due_row g [.ref l, .int pl, .ref a, .int (st : Int)] H Q E := by
  refine ⟨_, _, _, _, rfl, ?_⟩
  unfold t_law_due_row
  obtain ⟨vs, hv, hR⟩ := hl
  obtain ⟨b, hb0, hO⟩ := rows_at hR hr
  have hg : isG r = false := by cases hc <;> rfl
  have hb := rowO_vs hO hg
  walk_at "rd"
  refine v_ixL (SqL.of hv) (atI_of ej hb0) ?_
  walk_at "rd"
  have fin : dueR e pl st r = [r] → [V.ref b].length ≤ sizeLine ∧ ∀ p H2, New H p (.lst [.ref b]) H2 → Q (.ref p) H2 := fun e3 => ⟨show 1 ≤ sizeLine by decide, fun t H2 n2 => q t H2 n2.sm (by rw [e3]; exact ⟨_, n2.at_, RowsV.one (n2.sm _ _ hb) hg RowsV.nil⟩)⟩
  cases hc with
  | stop => cases hs
  | jump =>
    simp only [R.vs] at hb
    walk_at "rd"
    exact ⟨show 0 ≤ sizeLine by decide, fun t H2 n2 => q t H2 n2.sm ⟨_, n2.at_, RowsV.nil⟩⟩
  | put h hk =>
    simp only [R.vs] at hb
    walk_at "rd"
    exact fin rfl
  | copy h hm =>
    simp only [R.vs] at hb
    walk_at "rd"
    exact fin rfl
  | tell h =>
    simp only [R.vs] at hb
    walk_at "rd"
    exact fin rfl
  | @work w n x y h hx hy =>
    cases w <;> simp only [R.vs, Wk.s] at hb
    all_goals
      walk_at "rd"
      exact fin rfl
  | @zero n k h =>
    simp only [R.vs] at hb
    walk_at "rd"
    obtain ⟨v, hv1⟩ := lkE_mem (show n ∈ keys e from hi)
    refine v_ixDS (v := .int v) (.inl ha) (by rw [valV_encE, hv1]; rfl) ?_
    walk_at "rd"
    change ∀ t H2, Same H H2 → RowsAt H2 t [guardR e n k pl st] → Q (.ref t) H2 at q
    unfold guardR at q
    rw [hv1] at q
    refine i_d (fun c => ?_) (fun c => ?_)
    · have c' : (some v).getD 0 = 0 := c
      rw [if_pos c', decide_eq_true c'] at q
      walk_at "rd"
      refine ⟨show 0 ≤ sizeLine by decide, fun f o H1 od n1 => ?_⟩
      walk_at "rd"
      refine ⟨show 6 ≤ sizeLine by decide, fun t H2 n2 => ?_⟩
      walk_at "rd"
      refine ⟨show 1 ≤ sizeLine by decide, fun z H3 n3 => q z H3 (by walk_at "sm") ⟨_, n3.at_, All2.cons ⟨t, rfl, f, ?_, RepAt.nil od ?_⟩ All2.nil⟩⟩
      · exact n3.sm _ _ n2.at_
      · exact n3.sm _ _ (n2.sm _ _ n1.at_)
    · have c' : ¬ (some v).getD 0 = 0 := c
      rw [if_neg c', decide_eq_false c'] at q
      walk_at "rd"
      refine ⟨show 0 ≤ sizeLine by decide, fun f o H1 od n1 => ?_⟩
      walk_at "rd"
      refine ⟨show 6 ≤ sizeLine by decide, fun t H2 n2 => ?_⟩
      walk_at "rd"
      refine ⟨show 1 ≤ sizeLine by decide, fun z H3 n3 => q z H3 (by walk_at "sm") ⟨_, n3.at_, All2.cons ⟨t, rfl, f, ?_, RepAt.nil od ?_⟩ All2.nil⟩⟩
      · exact n3.sm _ _ n2.at_
      · exact n3.sm _ _ (n2.sm _ _ n1.at_)
/-- a trace as it lies in memory -/
structure TrAt (H : Hp) (x : V) (start : Int) (f : List R) (st : Nat) : Prop where
  at_ : ∃ t m, x = .ref t ∧ H t = some (.tup [.int start, .ref m, .int (st : Int)]) ∧ RowsAt H m f
def WrOk (start : Int) (z : Option (List R × Nat)) (Q : VK) (H : Hp) : Prop :=
  (z = none → ∀ H2, Same H H2 → Q .non H2) ∧ ∀ f st, z = some (f, st) → ∀ t m H2, Same H H2 → H2 t = some (.tup [.int start, .ref m, .int (st : Int)]) → H m = none → RowsAt H2 m f → Q (.ref t) H2
theorem dueR_len (e : En0) (p : Int) (st : Nat) (r : R) : (dueR e p st r).length ≤ 1 := by cases r <;> simp [dueR]
theorem r_law_written {ms start : Int} (hc : ∀ r ∈ rs, PRow ns 0 rs.length r) (h90 : rs.length ≤ 90) (hl : RowsAt H l rs) (h0 : 0 ≤ ms) (h300 : ms ≤ 300) (hs0 : 0 ≤ start) (ha : H a = some (.dK (encE e))) (sok : StOk rs ⟨start, e, []⟩)
    (q : WrOk start (wrS rs start ms.toNat 0 start e []) Q H) : sp_law_written g [.ref l, .int start, .ref a, .int ms] H Q E := by
  refine ⟨_, _, _, _, rfl, ?_⟩
  unfold t_law_written
  rw [law_over_eq]
  have hg : ∀ r ∈ rs, isG r = false := fun r hr => (hc r hr).ng
  walk_at "rd"
  refine ⟨show 0 ≤ sizeLine by decide, fun f0 H1 n1 => ?_⟩
  walk_at "rd"
  generalize hz : wrS rs start ms.toNat 0 start e [] = z at q
  have hms : (ms + 1 - 1).toNat = ms.toNat := by rw [show ms + 1 - 1 = ms by omega]
  refine v_forR2 (by omega) (fun i σ' H' => ∃ (f : List R) (fa ad : Addr) (s : S3) (x6 x7 : Option V), σ' = [some (.ref l), some (.int start), some (.ref ad), some (.int ms), some (.ref fa), some (.int s.p), x6, x7] ∧ i ≤ ms.toNat ∧ wrS rs start (ms.toNat - i) i s.p s.e f = z ∧ StOk rs s ∧ f.length ≤ i ∧ Same H H' ∧ H fa = none ∧ RowsAt H' fa f ∧ H' ad = some (.dK (encE s.e))) ⟨[], f0, a, ⟨start, e, []⟩, _, _, rfl, Nat.zero_le _, hz, sok, Nat.le_refl _, n1.sm, n1.fr, ⟨[], n1.at_, RowsV.nil⟩, n1.sm _ _ ha⟩ ?_ ?_
  · rintro i σ' H2 hi ⟨f, fa, ad, s, x6, x7, rfl, him, hw, sok, fl, s2, ffa, hfa, had⟩
    rw [hms] at hi
    obtain ⟨k, hk⟩ : ∃ k, ms.toNat - i = k + 1 := ⟨ms.toNat - i - 1, by omega⟩
    rw [hk, wrS] at hw
    have hlA := RowsAt.same s2 hl
    walk_at "rd"
    refine r_is_over sok.p hlA hg (by omega) ?_
    refine ⟨_, rfl, ?_⟩
    cases ho : overR rs s.p with
    | true =>
      rw [ho, if_pos rfl] at hw
      refine i_T ?_
      walk_at "rd"
      exact q.1 hw.symm H2 s2
    | false =>
      rw [ho, if_neg Bool.false_ne_true] at hw
      refine i_F ?_
      obtain ⟨r, hr⟩ : ∃ r, rs[s.p.toNat]? = some r := by
        unfold overR at ho
        cases hx : rs[s.p.toNat]? with
        | none => rw [hx] at ho; cases ho
        | some r => exact ⟨r, rfl⟩
      have hst : isStop r = false := by
        unfold overR at ho
        rw [hr] at ho
        exact ho
      simp only [hr] at hw
      have hmem := List.mem_of_getElem? hr
      have pr := hc r hmem
      have hp0 := sok.p
      have el := sok.len
      have i1 : (1 : Int) + (i : Int) = ((i + 1 : Nat) : Int) := by omega
      rw [i1]
      walk_at "rd"
      refine r_law_due_row hlA (j := s.p.toNat) (by omega) hr had pr.c hst (sok.inr r hmem) fun t3 H3 s3 hR3 => ?_
      obtain ⟨fvs, hfv, hfR⟩ := hfa
      obtain ⟨dvs, hdv, hdR⟩ := hR3
      have dl := dueR_len s.e s.p (i + 1) r
      walk_at "rd"
      refine v_addL (s3 _ _ hfv) hdv (by rw [hfR.len, hdR.len]; exact Nat.le_of_lt (small_sz (by omega))) fun fb H4 n4 => ?_
      walk_at "rd"
      have s24 := Same.trans s3 n4.sm
      refine r_law_step (RowsAt.same s24 hlA) (j := s.p.toNat) (by omega) hr (s24 _ _ had) (hg r hmem) hst sok.ok (sok.inr r hmem) pr.ok (by omega) fun t5 d5 m5 H5 S => ?_
      have hfb : RowsAt H5 fb (f ++ dueR s.e s.p (i + 1) r) := ⟨_, S.sm _ _ n4.at_, RowsV.app (RowsV.tk (Same.tk (Same.trans s24 S.sm)) hfR) (RowsV.tk (Same.tk (Same.trans n4.sm S.sm)) hdR)⟩
      have ht5 := S.ht
      have ffb : H fb = none := Same.free (Same.trans s2 s3) n4.fr
      have s25 := Same.trans s2 (Same.trans s24 S.sm)
      have sok2 := sok.next hr pr pr.ok
      walk_at "rd"
      refine i_d (fun c => ?_) (fun c => ?_)
      · rw [if_pos c] at hw
        walk_at "rd"
        refine ⟨show 3 ≤ sizeLine by decide, fun t6 H6 n6 => ?_⟩
        exact q.2 _ _ hw.symm t6 fb H6 (Same.trans s25 n6.sm) n6.at_ ffb (RowsAt.same n6.sm hfb)
      · rw [if_neg c] at hw
        walk_at "rd"
        refine ⟨f ++ dueR s.e s.p (i + 1) r, fb, d5, ⟨nextP s.e s.p r, doneE s.e r, s.t ++ toldE s.e r⟩, _, _, rfl, by omega, ?_, sok2, by rw [List.length_append]; omega, s25, ffb, hfb, S.hd⟩
        rw [show ms.toNat - (i + 1) = k by omega]
        exact hw
  · rintro σ' H2 ⟨f, fa, ad, s, x6, x7, rfl, him, hw, sok, fl, s2, ffa, hfa, had⟩
    rw [hms, Nat.sub_self, wrS] at hw
    walk_at "rd"
    exact q.1 hw.symm H2 s2

end Tf

namespace Tf
open PySem L2
local macro_rules | `(tactic| walk_at "hl") => `(tactic| first
  | assumption
  | exact SqL.of (by walk_at "hh")
  | exact Same.seq (New.sm (by assumption)) (by walk_at "hl")
  | exact Same.seq (NewX.sm (by assumption)) (by walk_at "hl")
  | exact Same.seq (by assumption) (by walk_at "hl"))
local macro_rules | `(tactic| walk_at "ht") => `(tactic| first
  | assumption
  | exact SqT.of (by walk_at "hh")
  | exact Same.tup (New.sm (by assumption)) (by walk_at "ht")
  | exact Same.tup (NewX.sm (by assumption)) (by walk_at "ht")
  | exact Same.tup (by assumption) (by walk_at "ht"))
local macro_rules | `(tactic| walk_at "hr") => `(tactic| first
  | assumption
  | exact Or.inl (by walk_at "hh")
  | exact Same.rd (New.sm (by assumption)) (by walk_at "hr")
  | exact Same.rd (NewX.sm (by assumption)) (by walk_at "hr")
  | exact Same.rd (by assumption) (by walk_at "hr"))
local macro_rules | `(tactic| walk_at "hh") => `(tactic| first
  | assumption
  | exact New.at_ (by assumption)
  | exact NewX.at_ (by assumption)
  | exact Wr.at_ (by assumption)
  | exact Same.get (New.sm (by assumption)) (by walk_at "hh")
  | exact Same.get (NewX.sm (by assumption)) (by walk_at "hh")
  | exact Same.get (by assumption) (by walk_at "hh"))
local macro_rules | `(tactic| walk_at "sm") => `(tactic| first
  | exact Same.refl _
  | assumption
  | exact Same.tr2 (New.sm (by assumption)) (by walk_at "sm")
  | exact Same.tr2 (NewX.sm (by assumption)) (by walk_at "sm")
  | exact Same.tr2 (by assumption) (by walk_at "sm"))
local macro_rules | `(tactic| walk_at "ix") => `(tactic| with_reducible first | exact at0 | exact at1 | exact at2 | exact at3 | exact at4 | exact at5 | exact at6 | exact at7)
local macro_rules | `(tactic| walk_at "tyx") => `(tactic| first
  | exact TyX.base (TyOf.int _) | exact TyX.base (TyOf.str _) | exact TyX.base (TyOf.bl _) | exact TyX.base TyOf.non
  | exact TyX.base (TyOf.lst (by walk_at "hh")) | exact TyX.base (TyOf.tup (by walk_at "hh")) | exact TyX.base (TyOf.dK (by walk_at "hh")))
local macro_rules | `(tactic| walk_at "cond") => `(tactic| first | assumption | exact rfl | decide +kernel | omega | (simp only [List.length_cons, List.length_nil]; omega))
local macro_rules | `(tactic| walk_at "rd1") => `(tactic| first
  | with_reducible refine Rd.go ?_
  | ((with_reducible refine' k_var ?rdh ?_); (case rdh => exact rfl))
  | ((with_reducible refine' k_gt2 ?rdh ?_); (case rdh => walk_at "ht"))
  | ((with_reducible refine' v_mod ?rdh ?_); (case rdh => first | decide | omega))
  | ((with_reducible refine' v_fdiv ?rdh ?_); (case rdh => exact ⟨by decide, by decide⟩))
  | ((with_reducible refine' v_mulI ?rdh ?_); (case rdh => first | exact .inl ⟨by omega, by omega⟩ | exact .inr ⟨by omega, by omega⟩))
  | ((with_reducible refine' v_isiT ?rdh ?rdk ?_); (case rdh => walk_at "tyx"); (case rdk => decide +kernel))
  | ((with_reducible refine' v_isiF ?rdh ?rdk ?_); (case rdh => walk_at "tyx"); (case rdk => decide +kernel))
  | ((with_reducible refine' v_ixT ?rdh ?rdk ?_); (case rdh => walk_at "ht"); (case rdk => walk_at "ix"))
  | ((with_reducible refine' v_ixL ?rdh ?rdk ?_); (case rdh => walk_at "hl"); (case rdk => walk_at "ix"))
  | ((with_reducible refine' v_lenL ?rdh ?_); (case rdh => walk_at "hl"))
  | ((with_reducible refine' v_lenT ?rdh ?_); (case rdh => walk_at "ht"))
  | ((with_reducible refine' v_lenD ?rdh ?_); (case rdh => walk_at "hh"))
  | ((with_reducible refine' i_dT ?rdh ?_); (case rdh => walk_at "cond"))
  | ((with_reducible refine' i_dF ?rdh ?_); (case rdh => walk_at "cond"))
  | ((with_reducible refine' i_nT ?rdh ?_); (case rdh => walk_at "cond"))
  | ((with_reducible refine' i_nF ?rdh ?_); (case rdh => walk_at "cond"))
  | ((with_reducible refine' i_bT ?rdh ?_); (case rdh => first | assumption | decide +kernel))
  | ((with_reducible refine' i_bF ?rdh ?_); (case rdh => first | assumption | decide +kernel)))
local macro_rules | `(tactic| walk_at "rd") => `(tactic| repeat walk_at "rd1")

variable {g : En} {H H0 : Hp} {Q : VK} {E : XK} {a b p l d : Addr} {ns : List Str} {e e1 e2 : En0} {r : R} {rs : List R} {σ : L2.St}
theorem RowsNew.put1 {H1 H2 H3 : Hp} {fa : Addr} {fvs : List V} {f : List R} {v : V} (hfv : H1 fa = some (.lst fvs)) (hR : RowsV H1 fvs f) (s : Same H1 H2) (w : Wr H2 fa (.lst (fvs ++ [v])) H3) (h : RowAt H2 v r) : RowsV H3 (fvs ++ [v]) (f ++ [r]) := by
  have t := w.tk (s _ _ hfv) rfl
  exact RowsV.tk t (All2.snoc (RowsV.tk (Same.tk s) hR) h)
theorem k_joinG {t u : TS} {nx : L2.St → Hp → Prop} {rt : VK} {bk ct : L2.St → Hp → Prop} (P : L2.St → Hp → Prop) (k : ∀ σ' H', P σ' H' → u ⟨nx, rt, bk, ct⟩ σ' H') (h : ∀ nx' : L2.St → Hp → Prop, (∀ σ' H', P σ' H' → nx' σ' H') → t ⟨nx', rt, bk, ct⟩ σ H) : tSeq t u ⟨nx, rt, bk, ct⟩ σ H := h _ k
theorem r_written {ms start : Int} (hc : ∀ r ∈ rs, PRow ns 0 rs.length r) (h90 : rs.length ≤ 90) (hl : RowsAt H l rs) (h0 : 0 ≤ ms) (h300 : ms ≤ 300) (hs0 : 0 ≤ start) (ha : H a = some (.dK (encE e))) (sok : StOk rs ⟨start, e, []⟩)
    (q : WrOk start (wrS rs start ms.toNat 0 start e []) Q H) : sp_written g [.ref l, .int start, .ref a, .int ms] H Q E := by
  refine ⟨_, _, _, _, rfl, ?_⟩
  unfold t_written
  have hg : ∀ r ∈ rs, isG r = false := fun r hr => (hc r hr).ng
  walk_at "rd"
  refine ⟨show 0 ≤ sizeLine by decide, fun fa H1 n1 => ?_⟩
  walk_at "rd"
  generalize hz : wrS rs start ms.toNat 0 start e [] = z at q
  refine v_while (fun m σ' H' => ∃ (st : Nat) (f : List R) (fvs : List V) (ad : Addr) (s : S3) (x7 : Option V), σ' = [some (.ref l), some (.int start), some (.ref ad), some (.int ms), some (.ref fa), some (.int s.p), some (.int (st : Int)), x7] ∧ m + st = ms.toNat ∧ wrS rs start m st s.p s.e f = z ∧ StOk rs s ∧ f.length ≤ st ∧ NewX H fa (.lst fvs) H' ∧ RowsV H' fvs f ∧ H' ad = some (.dK (encE s.e))) ms.toNat ⟨0, [], [], a, ⟨start, e, []⟩, _, rfl, rfl, hz, sok, Nat.le_refl _, n1.x, RowsV.nil, n1.sm _ _ ha⟩ ?_
  rintro m σ' H2 ⟨st, f, fvs, ad, s, x7, rfl, hm, hw, sok, fl, n2, hfR, had⟩
  have hlA := RowsAt.same n2.sm hl
  walk_at "rd"
  refine i_d (fun c => ?_) (fun c => ?_)
  · walk_at "rd"
    refine r_is_over sok.p hlA hg (by omega) ?_
    refine ⟨_, rfl, ?_⟩
    obtain ⟨k, rfl⟩ : ∃ k, m = k + 1 := ⟨m - 1, by omega⟩
    rw [wrS] at hw
    cases ho : overR rs s.p with
    | true =>
      rw [ho, if_pos rfl] at hw
      refine i_bF (b := !true) rfl ?_
      walk_at "rd"
      exact q.1 hw.symm H2 n2.sm
    | false =>
      rw [ho, if_neg Bool.false_ne_true] at hw
      refine i_bT (b := !false) rfl ?_
      refine ⟨_, fun σ' H' h => h, ?_⟩
      obtain ⟨r, hr⟩ : ∃ r, rs[s.p.toNat]? = some r := by
        unfold overR at ho
        cases hx : rs[s.p.toNat]? with
        | none => rw [hx] at ho; cases ho
        | some r => exact ⟨r, rfl⟩
      have hst : isStop r = false := by
        unfold overR at ho
        rw [hr] at ho
        exact ho
      simp only [hr] at hw
      have hmem := List.mem_of_getElem? hr
      have pr := hc r hmem
      have hp0 := sok.p
      have el := sok.len
      have ri := sok.inr r hmem
      have sok2 := sok.next hr pr pr.ok
      obtain ⟨vs, hv, hR⟩ := hlA
      obtain ⟨b, hb0, hO⟩ := rows_at hR hr
      have hb := rowO_vs hO (hg r hmem)
      have flen : fvs.length ≤ 300 := by have := hfR.len; omega
      walk_at "rd"
      refine v_ixL (SqL.of hv) (atI_of (by omega) hb0) ?_
      have i1 : (st : Int) + 1 = ((st + 1 : Nat) : Int) := by omega
      iterate 6 walk_at "rd1"
      rw [i1]
      refine k_joinG (P := fun σ' H' => ∃ (fvs2 : List V) (ad2 : Addr), σ' = [some (.ref l), some (.int start), some (.ref ad2), some (.int ms), some (.ref fa), some (.int (nextP s.e s.p r)), some (.int ((st + 1 : Nat) : Int)), some (.ref b)] ∧ NewX H fa (.lst fvs2) H' ∧ RowsV H' fvs2 (f ++ dueR s.e s.p (st + 1) r) ∧ H' ad2 = some (.dK (encE (doneE s.e r)))) ?kk ?hh
      case kk =>
        rintro σ' H3 ⟨fvs2, ad2, rfl, n3, hfR3, had3⟩
        have dl := dueR_len s.e s.p (st + 1) r
        walk_at "rd"
        refine i_d (fun c2 => ?_) (fun c2 => ?_)
        · rw [if_pos c2] at hw
          walk_at "rd"
          refine ⟨show 3 ≤ sizeLine by decide, fun t6 H6 n6 => ?_⟩
          exact q.2 _ _ hw.symm t6 fa H6 (Same.trans n3.sm n6.sm) n6.at_ n3.fr ⟨fvs2, n6.sm _ _ n3.at_, RowsV.tk (Same.tk n6.sm) hfR3⟩
        · rw [if_neg c2] at hw
          walk_at "rd"
          exact ⟨k, by omega, st + 1, f ++ dueR s.e s.p (st + 1) r, fvs2, ad2, ⟨nextP s.e s.p r, doneE s.e r, s.t ++ toldE s.e r⟩, _, rfl, by omega, hw, sok2, by rw [List.length_append]; omega, n3, hfR3, had3⟩
      case hh =>
        intro nx' key
        have he := sok.ok
        have pr0 := pr
        cases pr with
        | @z n k2 hn2 hz2 =>
          simp only [R.vs] at hb
          walk_at "rd"
          refine ⟨ty_l n2.at_, ?_⟩
          walk_at "rd"
          refine r_guard_of hb had ri fun t3 H3 s3 hO3 => ?_
          walk_at "rd"
          have n3 := n2.up s3
          refine v_app n3.at_ (small_sz (by omega)) fun H4 w4 => ?_
          have n4 := Wr.newX n3 w4
          have had3 := s3 _ _ had
          have had4 := w4.keep had3 (ne_of had3 n3.at_ (by intro z; cases z))
          have tk := w4.tk n3.at_ rfl
          have hb4 := tk _ _ rfl (s3 _ _ hb)
          walk_at "rd"
          refine r_next_place (r := .zero n k2) had4 hb4 rfl ri ?_
          exact key _ _ ⟨_, ad, rfl, n4, RowsNew.put1 n2.at_ hfR s3 w4 ⟨t3, rfl, hO3⟩, had4⟩
        | @j k2 hz2 =>
          simp only [R.vs] at hb
          walk_at "rd"
          refine key _ _ ⟨fvs, ad, rfl, n2, ?_, had⟩
          show RowsV H2 fvs (f ++ [])
          rw [List.append_nil]
          exact hfR
        | t => cases hst
        | s h =>
          have hw1 := h.w
          have e3 : dueR s.e s.p (st + 1) r = [r] := by cases r <;> first | rfl | cases hw1
          have e4 : nextP s.e s.p r = s.p + 1 := by cases r <;> first | rfl | cases hw1
          rw [e3, e4] at key
          have hro := pr0.ok
          have hRow : RowAt H2 (.ref b) r := ⟨b, rfl, by cases r <;> first | exact hb | cases hw1⟩
          have wk : (∃ n k, r = .put n k) ∨ (∃ n x, r = .copy n x) ∨ (∃ w n x y, r = .work w n x y) ∨ ∃ x, r = .tell x := by
            cases r with
            | put n k => exact .inl ⟨_, _, rfl⟩
            | copy n k => exact .inr (.inl ⟨_, _, rfl⟩)
            | work w n x y => exact .inr (.inr (.inl ⟨_, _, _, _, rfl⟩))
            | tell x => exact .inr (.inr (.inr ⟨_, rfl⟩))
            | _ => cases hw1
          rcases wk with ⟨n, k2, rfl⟩ | ⟨n, x, rfl⟩ | ⟨w, n, x, y, rfl⟩ | ⟨x, rfl⟩
          case' inr.inr.inl => cases w
          all_goals
            have hbs := fun (_ : Unit) => hb
            simp only [R.vs, Wk.s] at hb
            walk_at "rd"
            refine ⟨ty_l n2.at_, ?_⟩
            walk_at "rd"
            refine v_app n2.at_ (small_sz (by omega)) fun H3 w3 => ?_
            have n3 := Wr.newX n2 w3
            have had3 := w3.keep had (ne_of had n2.at_ (by intro z; cases z))
            have tk := w3.tk n2.at_ rfl
            have hb3 := tk _ _ rfl (hbs ())
            walk_at "rd"
            refine r_done had3 hb3 hw1 he ri hro (by omega) fun d4 H4 n4 => ?_
            walk_at "rd"
            exact key _ _ ⟨_, d4, rfl, n3.up n4.sm, RowsV.tk (Same.tk n4.sm) (RowsNew.put1 n2.at_ hfR (Same.refl _) w3 hRow), n4.at_⟩
  · walk_at "rd"
    have hm0 : m = 0 := by omega
    subst hm0
    rw [wrS] at hw
    exact q.1 hw.symm H2 n2.sm

end Tf

namespace Tf
open PySem L2
local macro_rules | `(tactic| walk_at "hl") => `(tactic| first
  | assumption
  | exact SqL.of (by walk_at "hh")
  | exact Same.seq (New.sm (by assumption)) (by walk_at "hl")
  | exact Same.seq (NewX.sm (by assumption)) (by walk_at "hl")
  | exact Same.seq (by assumption) (by walk_at "hl"))
local macro_rules | `(tactic| walk_at "ht") => `(tactic| first
  | assumption
  | exact SqT.of (by walk_at "hh")
  | exact Same.tup (New.sm (by assumption)) (by walk_at "ht")
  | exact Same.tup (NewX.sm (by assumption)) (by walk_at "ht")
  | exact Same.tup (by assumption) (by walk_at "ht"))
local macro_rules | `(tactic| walk_at "hr") => `(tactic| first
  | assumption
  | exact Or.inl (by walk_at "hh")
  | exact Same.rd (New.sm (by assumption)) (by walk_at "hr")
  | exact Same.rd (NewX.sm (by assumption)) (by walk_at "hr")
  | exact Same.rd (by assumption) (by walk_at "hr"))
local macro_rules | `(tactic| walk_at "hh") => `(tactic| first
  | assumption
  | exact New.at_ (by assumption)
  | exact NewX.at_ (by assumption)
  | exact Wr.at_ (by assumption)
  | exact Same.get (New.sm (by assumption)) (by walk_at "hh")
  | exact Same.get (NewX.sm (by assumption)) (by walk_at "hh")
  | exact Same.get (by assumption) (by walk_at "hh"))
local macro_rules | `(tactic| walk_at "sm") => `(tactic| first
  | exact Same.refl _
  | assumption
  | exact Same.tr2 (New.sm (by assumption)) (by walk_at "sm")
  | exact Same.tr2 (NewX.sm (by assumption)) (by walk_at "sm")
  | exact Same.tr2 (by assumption) (by walk_at "sm"))
local macro_rules | `(tactic| walk_at "ix") => `(tactic| with_reducible first | exact at0 | exact at1 | exact at2 | exact at3 | exact at4 | exact at5 | exact at6 | exact at7)
local macro_rules | `(tactic| walk_at "tyx") => `(tactic| first
  | exact TyX.base (TyOf.int _) | exact TyX.base (TyOf.str _) | exact TyX.base (TyOf.bl _) | exact TyX.base TyOf.non
  | exact TyX.base (TyOf.lst (by walk_at "hh")) | exact TyX.base (TyOf.tup (by walk_at "hh")) | exact TyX.base (TyOf.dK (by walk_at "hh")))
local macro_rules | `(tactic| walk_at "cond") => `(tactic| first | assumption | exact rfl | decide +kernel | omega | (simp only [List.length_cons, List.length_nil]; omega))
local macro_rules | `(tactic| walk_at "rd1") => `(tactic| first
  | with_reducible refine Rd.go ?_
  | ((with_reducible refine' k_var ?rdh ?_); (case rdh => exact rfl))
  | ((with_reducible refine' k_gt2 ?rdh ?_); (case rdh => walk_at "ht"))
  | ((with_reducible refine' v_mod ?rdh ?_); (case rdh => first | decide | omega))
  | ((with_reducible refine' v_fdiv ?rdh ?_); (case rdh => exact ⟨by decide, by decide⟩))
  | ((with_reducible refine' v_mulI ?rdh ?_); (case rdh => first | exact .inl ⟨by omega, by omega⟩ | exact .inr ⟨by omega, by omega⟩))
  | ((with_reducible refine' v_isiT ?rdh ?rdk ?_); (case rdh => walk_at "tyx"); (case rdk => decide +kernel))
  | ((with_reducible refine' v_isiF ?rdh ?rdk ?_); (case rdh => walk_at "tyx"); (case rdk => decide +kernel))
  | ((with_reducible refine' v_ixT ?rdh ?rdk ?_); (case rdh => walk_at "ht"); (case rdk => walk_at "ix"))
  | ((with_reducible refine' v_ixL ?rdh ?rdk ?_); (case rdh => walk_at "hl"); (case rdk => walk_at "ix"))
  | ((with_reducible refine' v_lenL ?rdh ?_); (case rdh => walk_at "hl"))
  | ((with_reducible refine' v_lenT ?rdh ?_); (case rdh => walk_at "ht"))
  | ((with_reducible refine' v_lenD ?rdh ?_); (case rdh => walk_at "hh"))
  | ((with_reducible refine' i_dT ?rdh ?_); (case rdh => walk_at "cond"))
  | ((with_reducible refine' i_dF ?rdh ?_); (case rdh => walk_at "cond"))
  | ((with_reducible refine' i_nT ?rdh ?_); (case rdh => walk_at "cond"))
  | ((with_reducible refine' i_nF ?rdh ?_); (case rdh => walk_at "cond"))
  | ((with_reducible refine' i_bT ?rdh ?_); (case rdh => first | assumption | decide +kernel))
  | ((with_reducible refine' i_bF ?rdh ?_); (case rdh => first | assumption | decide +kernel)))
local macro_rules | `(tactic| walk_at "rd") => `(tactic| repeat walk_at "rd1")

variable {g : En} {H H0 : Hp} {Q : VK} {E : XK} {a b p l d : Addr} {ns : List Str} {e e1 e2 : En0} {r : R} {rs : List R} {σ : L2.St}
/-! ## what a trace is -/
def okV : V → Prop
  | .str _ => True
  | .int k => 0 ≤ k ∧ k < 1000000
  | _ => False
theorem r_law_source {v : V} (h : okV v) (q : Q (.bl true) H) : sp_law_source g [v] H Q E := by
  refine ⟨_, rfl, ?_⟩
  unfold t_law_source
  cases v with
  | str s =>
    walk_at "rd"
    exact q
  | int k =>
    have h1 := h.1
    have h2 := h.2
    walk_at "rd"
    refine r_law_whole ?_
    walk_at "rd"
    rw [decide_eq_true h2]
    exact q
  | _ => exact h.elim
theorem r_law_guard {s : Src} {z : Bool} {pl st : Int} {f : Addr} (hs : okV s.v) (hb : H b = some (.tup [.str "guard", s.v, .bl z, .int pl, .int st, .ref f])) (hf : RepAt H f []) (q : ∀ H2, Same H H2 → Q (.bl true) H2) : sp_law_guard g [.ref b] H Q E := by
  refine ⟨_, rfl, ?_⟩
  unfold t_law_guard
  obtain ⟨o, ws, od, hq, hw⟩ := hf
  have hw0 : ws = [] := List.eq_nil_of_length_eq_zero hw.len
  subst hw0
  have hqt := SqT.frz (K := g.K) hq
  walk_at "rd"
  refine r_law_source hs ?_
  walk_at "rd"
  refine v_isiT (TyX.fTuple hq) (by decide +kernel) ?_
  walk_at "rd"
  refine r_law_whole ?_
  walk_at "rd"
  refine r_law_whole ?_
  walk_at "rd"
  refine v_forT hqt (fun i σ' H' => ∃ x1, σ' = [some (.ref b), x1] ∧ Same H H') ⟨_, rfl, Same.refl _⟩ (fun i σ' H' ⟨_, _, s⟩ => Same.tup s hqt) (fun i x σ' H' hx => by cases hx) ?_
  rintro σ' H' ⟨x1, rfl, s1⟩
  have hb1 := s1 _ _ hb
  have hq1 := s1 _ _ hq
  walk_at "rd"
  refine ⟨f, o, [], [], rfl, od, hq1, .nil, fun c H2 n2 => ?_⟩
  have hb2 := n2.sm _ _ hb1
  have hqt2 := SqT.frz (K := g.K) (n2.sm _ _ hq1)
  have hc2 : H2 c = some (.dK []) := n2.at_
  walk_at "rd"
  exact q H2 (Same.trans s1 n2.sm)
/-- rows of a trace of a plain program -/
inductive TrRow (ns : List Str) : R → Prop
  | w {r : R} (hc : RowC ns r) (hw : isW r = true) : TrRow ns r
  | g {n : Str} {z : Bool} {p st : Int} : TrRow ns (.guard (.nm n) z p st [])
theorem v_lcTt {K : PySem.W.Frag} {te : TE} {k : Nat} {xs : List V} (hx : SqT K H a xs) (hz : xs.length ≤ 1000)
    (each : ∀ (i : Nat) x H', xs[i]? = some x → Same H H' → ∀ Q' : VK, (∀ H2, Same H' H2 → Q' (.bl true) H2) → te ((wipe σ [k]).set k (some x)) H' Q')
    (q : ∀ D H2, NewX H D (.lst (List.replicate xs.length (V.bl true))) H2 → Q (.ref D) H2) : LcT K (gName k) tYes te [k] σ Q (.ref a) H := by
  refine v_lcT hx (fun i y _ => y = .bl true) (fun _ _ _ _ _ h => h) hz (fun i x H' hi s Q' q' => each i x H' hi s Q' fun H2 s2 => q' _ H2 s2 rfl) fun D ys H2 m n => ?_
  have e : ys = List.replicate xs.length (V.bl true) := List.eq_replicate_iff.mpr ⟨m.len, fun y hy => by
    obtain ⟨i, hi⟩ := List.mem_iff_getElem?.mp hy
    exact m.it i y hi⟩
  rw [e] at n
  exact q D H2 n
theorem k_dg2 {td ty tx : TE} (h : td σ H fun x H1 => (∃ a kvs, x = .ref a ∧ H1 a = some (.dK kvs)) ∧ ty σ H1 fun y H2 => tx σ H2 fun z H3 => ∃ a kvs k, x = .ref a ∧ H3 a = some (.dK kvs) ∧ y = kV k ∧ Q ((valV kvs k).getD z) H3) : tDG2 td ty tx σ H Q := h
instance rd_k_dg2 {td ty tx : TE} : Rd (tDG2 td ty tx σ H Q) (td σ H fun x H1 => (∃ a kvs, x = .ref a ∧ H1 a = some (.dK kvs)) ∧ ty σ H1 fun y H2 => tx σ H2 fun z H3 => ∃ a kvs k, x = .ref a ∧ H3 a = some (.dK kvs) ∧ y = kV k ∧ Q ((valV kvs k).getD z) H3) := ⟨k_dg2⟩
local macro_rules | `(tactic| walk_at "rp") => `(tactic| repeat (first | walk_at "rd1" | with_reducible refine k_pc ?_ | with_reducible refine k_pn ?_))
theorem r_law_trace {t m : Addr} {start st : Int} {f : List R} (ht : H t = some (.tup [.int start, .ref m, .int st])) (hm : RowsAt H m f) (hz : f.length ≤ 1000) (hf : ∀ r ∈ f, TrRow ns r) (q : ∀ H2, Same H H2 → Q (.bl true) H2) : sp_law_trace g [.ref t] H Q E := by
  refine ⟨_, rfl, ?_⟩
  unfold t_law_trace
  obtain ⟨vs, hv, hR⟩ := hm
  walk_at "rd"
  refine k_disp fun c H1 n1 => ?_
  walk_at "rp"
  refine ⟨n1.at_, [(.inr "put", _), (.inr "copy", _), (.inr "add", _), (.inr "minus", _), (.inr "times", _), (.inr "less", _), (.inr "tell", _)], rfl, (show 7 ≤ 15 by decide), fun H2 w2 => ?_⟩
  have s2 : Same H H2 := w2.same n1.sm n1.fr
  have hc2 := w2.at_
  have ht2 := s2 _ _ ht
  have hv2 := s2 _ _ hv
  have hR2 := RowsV.tk (Same.tk s2) hR
  clear w2 n1
  walk_at "rd"
  refine v_forL (SqL.of hv2) (fun i σ' H' => ∃ x2 x3, σ' = [some (.ref t), some (.ref c), x2, x3] ∧ Same H2 H') ⟨_, _, rfl, Same.refl _⟩ (fun i σ' H' ⟨_, _, _, s⟩ => Same.seq s (SqL.of hv2)) ?_ ?_
  · rintro i x σ' H3 hx ⟨x2, x3, rfl, s3⟩
    obtain ⟨r, hr, bp, rfl, hO⟩ := hR2.get hx
    have tr := hf r (List.mem_of_getElem? hr)
    have hc3 := s3 _ _ hc2
    cases tr with
    | @g n z p st' =>
      obtain ⟨fq, hb, hq⟩ := hO
      have hb3 := s3 _ _ hb
      have hq3 := RepAt.tk (Same.tk s3) hq
      have ns3 : okV (Src.nm n).v := trivial
      walk_at "rd"
      refine r_law_guard ns3 hb3 hq3 fun H4 s4 => ?_
      walk_at "rd"
      exact ⟨_, _, rfl, Same.trans s3 s4⟩
    | w hc hw =>
      have hg : isG r = false := by cases hc <;> rfl
      have hb3 := s3 _ _ (rowO_vs hO hg)
      have hok : ∀ x ∈ r.vs, okV x := fun x hx => by
        cases hc <;> simp only [R.vs, Src.v, List.mem_cons, List.not_mem_nil, or_false] at hx
        case put hk => rcases hx with rfl | rfl | rfl <;> first | exact hk | trivial
        case copy => rcases hx with rfl | rfl | rfl <;> trivial
        case work => rcases hx with rfl | rfl | rfl | rfl <;> trivial
        case tell => rcases hx with rfl | rfl <;> trivial
        all_goals cases hw
      have hne := vs_ne r hg
      have l4 := vs_len r
      have hb0 := fun (_ : Unit) => hb3
      cases hc
      case' work w _ _ _ _ _ _ => cases w
      case' stop => cases hw
      case' jump => cases hw
      case' zero => cases hw
      all_goals
        simp only [R.vs, Wk.s, Src.v] at hb3
        walk_at "rd"
        refine ⟨⟨_, _, rfl, hc3⟩, ?_⟩
        walk_at "rd"
        refine ⟨c, _, .inr _, rfl, hc3, rfl, ?_⟩
        first | change rNeA g.K _ (.int 3) _ _ | change rNeA g.K _ (.int 4) _ _ | change rNeA g.K _ (.int 2) _ _
        walk_at "rd"
        refine v_slT (hb0 ()) fun cc H4 s4 hcc _ => ?_
        rw [cut1 _ hne] at hcc
        have hb4 := s4 _ _ hb3
        walk_at "rd"
        refine v_lcTt (SqT.of hcc) (by rw [List.length_drop]; omega) ?_ ?_
        · intro i x H' hx s Q' q'
          have hx2 := hok x (List.mem_of_mem_drop (List.mem_of_getElem? hx))
          simp only [wipe]
          walk_at "rd"
          exact r_law_source hx2 (q' H' (Same.refl _))
        · intro D H5 n5
          have hb5 := n5.sm _ _ hb4
          walk_at "rd"
          refine v_allT (SqL.of n5.at_) ?_
          walk_at "rd"
          first
          | exact ⟨_, _, rfl, Same.trans s3 (Same.trans s4 n5.sm)⟩
          | (refine r_law_whole ?_
             walk_at "rd"
             exact ⟨_, _, rfl, Same.trans s3 (Same.trans s4 n5.sm)⟩)
  · rintro σ' H3 ⟨x2, x3, rfl, s3⟩
    have ht3 := s3 _ _ ht2
    walk_at "rd"
    refine r_law_whole ?_
    walk_at "rd"
    exact r_law_whole (q H3 (Same.trans s2 s3))

end Tf

namespace Tf
open PySem L2
local macro_rules | `(tactic| walk_at "hl") => `(tactic| first
  | assumption
  | exact SqL.of (by walk_at "hh")
  | exact Same.seq (New.sm (by assumption)) (by walk_at "hl")
  | exact Same.seq (NewX.sm (by assumption)) (by walk_at "hl")
  | exact Same.seq (by assumption) (by walk_at "hl"))
local macro_rules | `(tactic| walk_at "ht") => `(tactic| first
  | assumption
  | exact SqT.of (by walk_at "hh")
  | exact Same.tup (New.sm (by assumption)) (by walk_at "ht")
  | exact Same.tup (NewX.sm (by assumption)) (by walk_at "ht")
  | exact Same.tup (by assumption) (by walk_at "ht"))
local macro_rules | `(tactic| walk_at "hr") => `(tactic| first
  | assumption
  | exact Or.inl (by walk_at "hh")
  | exact Same.rd (New.sm (by assumption)) (by walk_at "hr")
  | exact Same.rd (NewX.sm (by assumption)) (by walk_at "hr")
  | exact Same.rd (by assumption) (by walk_at "hr"))
local macro_rules | `(tactic| walk_at "hh") => `(tactic| first
  | assumption
  | exact New.at_ (by assumption)
  | exact NewX.at_ (by assumption)
  | exact Wr.at_ (by assumption)
  | exact Same.get (New.sm (by assumption)) (by walk_at "hh")
  | exact Same.get (NewX.sm (by assumption)) (by walk_at "hh")
  | exact Same.get (by assumption) (by walk_at "hh"))
local macro_rules | `(tactic| walk_at "sm") => `(tactic| first
  | exact Same.refl _
  | assumption
  | exact Same.tr2 (New.sm (by assumption)) (by walk_at "sm")
  | exact Same.tr2 (NewX.sm (by assumption)) (by walk_at "sm")
  | exact Same.tr2 (by assumption) (by walk_at "sm"))
local macro_rules | `(tactic| walk_at "ix") => `(tactic| with_reducible first | exact at0 | exact at1 | exact at2 | exact at3 | exact at4 | exact at5 | exact at6 | exact at7)
local macro_rules | `(tactic| walk_at "tyx") => `(tactic| first
  | exact TyX.base (TyOf.int _) | exact TyX.base (TyOf.str _) | exact TyX.base (TyOf.bl _) | exact TyX.base TyOf.non
  | exact TyX.base (TyOf.lst (by walk_at "hh")) | exact TyX.base (TyOf.tup (by walk_at "hh")) | exact TyX.base (TyOf.dK (by walk_at "hh")))
local macro_rules | `(tactic| walk_at "cond") => `(tactic| first | assumption | exact rfl | decide +kernel | omega | (simp only [List.length_cons, List.length_nil]; omega))
local macro_rules | `(tactic| walk_at "rd1") => `(tactic| first
  | with_reducible refine Rd.go ?_
  | ((with_reducible refine' k_var ?rdh ?_); (case rdh => exact rfl))
  | ((with_reducible refine' k_gt2 ?rdh ?_); (case rdh => walk_at "ht"))
  | ((with_reducible refine' v_mod ?rdh ?_); (case rdh => first | decide | omega))
  | ((with_reducible refine' v_fdiv ?rdh ?_); (case rdh => exact ⟨by decide, by decide⟩))
  | ((with_reducible refine' v_mulI ?rdh ?_); (case rdh => first | exact .inl ⟨by omega, by omega⟩ | exact .inr ⟨by omega, by omega⟩))
  | ((with_reducible refine' v_isiT ?rdh ?rdk ?_); (case rdh => walk_at "tyx"); (case rdk => decide +kernel))
  | ((with_reducible refine' v_isiF ?rdh ?rdk ?_); (case rdh => walk_at "tyx"); (case rdk => decide +kernel))
  | ((with_reducible refine' v_ixT ?rdh ?rdk ?_); (case rdh => walk_at "ht"); (case rdk => walk_at "ix"))
  | ((with_reducible refine' v_ixL ?rdh ?rdk ?_); (case rdh => walk_at "hl"); (case rdk => walk_at "ix"))
  | ((with_reducible refine' v_lenL ?rdh ?_); (case rdh => walk_at "hl"))
  | ((with_reducible refine' v_lenT ?rdh ?_); (case rdh => walk_at "ht"))
  | ((with_reducible refine' v_lenD ?rdh ?_); (case rdh => walk_at "hh"))
  | ((with_reducible refine' i_dT ?rdh ?_); (case rdh => walk_at "cond"))
  | ((with_reducible refine' i_dF ?rdh ?_); (case rdh => walk_at "cond"))
  | ((with_reducible refine' i_nT ?rdh ?_); (case rdh => walk_at "cond"))
  | ((with_reducible refine' i_nF ?rdh ?_); (case rdh => walk_at "cond"))
  | ((with_reducible refine' i_bT ?rdh ?_); (case rdh => first | assumption | decide +kernel))
  | ((with_reducible refine' i_bF ?rdh ?_); (case rdh => first | assumption | decide +kernel)))
local macro_rules | `(tactic| walk_at "rd") => `(tactic| repeat walk_at "rd1")

variable {g : En} {H H0 : Hp} {Q : VK} {E : XK} {a b p l d : Addr} {ns : List Str} {e e1 e2 : En0} {r : R} {rs : List R} {σ : L2.St}
/-! ## equal rows -/
theorem eqW_refl {K : PySem.W.Frag} {n : Nat} {x : V} (h : flatB x = true) : EqW K H n x x := by cases n <;> exact .inl ⟨rfl, h⟩
theorem paired_refl {K : PySem.W.Frag} {n : Nat} : ∀ {xs : List V}, (∀ x ∈ xs, flatB x = true) → Paired (EqW K H n) xs xs
  | [], _ => .nil
  | x :: t, h => .cons (eqW_refl (h x (List.mem_cons.mpr (.inl rfl)))) (paired_refl fun y hy => h y (List.mem_cons.mpr (.inr hy)))
theorem flatB_vs (r : R) : ∀ x ∈ r.vs, flatB x = true := fun x hx => by
  rcases flat_vs r x hx with ⟨i, rfl⟩ | ⟨s, rfl⟩ <;> rfl
theorem srcFlat (s : Src) : flatB s.v = true := by cases s <;> rfl
theorem paired_of {A B C : Type} {F : A → C → Prop} {G : B → C → Prop} {P : A → B → Prop} (h : ∀ x y z, F x z → G y z → P x y) : ∀ {xs : List A} {ys : List B} {zs : List C}, All2 F xs zs → All2 G ys zs → Paired P xs ys := fun {xs ys zs} h1 h2 =>
  All2.paired ⟨by rw [h1.len, h2.len], fun i x y hx hy => by
    obtain ⟨z, hz, f⟩ := h1.get hx
    exact h x y z f (h2.at_ i y z hy hz)⟩
theorem row_eqW {K : PySem.W.Frag} {v1 v2 : V} {n : Nat} (h1 : RowAt H v1 r) (h2 : RowAt H v2 r) : EqW K H (n + 4) v1 v2 := by
  obtain ⟨a1, rfl, o1⟩ := h1
  obtain ⟨a2, rfl, o2⟩ := h2
  by_cases hg : isG r = false
  · have t1 := rowO_vs o1 hg
    have t2 := rowO_vs o2 hg
    exact .inr (.inr (.inr (.inl ⟨a1, a2, _, _, rfl, rfl, SqT.of t1, SqT.of t2, paired_refl (flatB_vs r)⟩)))
  · cases r with
    | guard s z pl st rp =>
      obtain ⟨q1, t1, o1, w1, d1, f1, p1⟩ := o1
      obtain ⟨q2, t2, o2, w2, d2, f2, p2⟩ := o2
      refine .inr (.inr (.inr (.inl ⟨a1, a2, _, _, rfl, rfl, SqT.of t1, SqT.of t2, .cons (eqW_refl rfl) (.cons (eqW_refl (srcFlat s)) (.cons (eqW_refl rfl) (.cons (eqW_refl rfl) (.cons (eqW_refl rfl) (.cons ?_ .nil)))))⟩)))
      refine .inr (.inr (.inr (.inl ⟨q1, q2, _, _, rfl, rfl, SqT.frz f1, SqT.frz f2, paired_of (fun x y z hx hy => ?_) p1 p2⟩)))
      obtain ⟨c1, rfl, k1⟩ := hx
      obtain ⟨c2, rfl, k2⟩ := hy
      refine .inr (.inr (.inr (.inl ⟨c1, c2, _, _, rfl, rfl, SqT.of k1, SqT.of k2, paired_refl fun x hx => ?_⟩)))
      rcases List.mem_cons.mp hx with rfl | hx
      · rfl
      · rw [List.mem_singleton.mp hx]
        exact srcFlat _
    | _ => exact absurd rfl hg
theorem rows_eqR {K : PySem.W.Frag} {n : Nat} (h1 : RowsAt H a rs) (h2 : RowsAt H b rs) : EqR K H (EqW K H (n + 4)) (.ref a) (.ref b) := by
  obtain ⟨v1, a1, r1⟩ := h1
  obtain ⟨v2, a2, r2⟩ := h2
  exact .inl ⟨a, b, _, _, rfl, rfl, SqL.of a1, SqL.of a2, paired_of (F := RowAt H) (G := RowAt H) (fun x y z hx hy => row_eqW hx hy) r1 r2⟩
theorem trip_eq {K : PySem.W.Frag} {n : Nat} {i j : Int} (h1 : RowsAt H a rs) (h2 : RowsAt H b rs) : Paired (EqW K H (n + 5)) [.int i, .ref a, .int j] [.int i, .ref b, .int j] :=
  .cons (eqW_refl rfl) (.cons (.inr (.inr (rows_eqR h1 h2))) (.cons (eqW_refl rfl) .nil))
theorem dueR_tr {pl : Int} {st : Nat} (hp : RowC ns r) (hs : isStop r = false) : ∀ r' ∈ dueR e pl st r, TrRow ns r' := fun r' h => by
  cases hp with
  | stop => cases hs
  | jump => cases h
  | zero => rw [List.mem_singleton.mp h]; exact .g
  | put h1 h2 => rw [List.mem_singleton.mp h]; exact .w (.put h1 h2) rfl
  | copy h1 h2 => rw [List.mem_singleton.mp h]; exact .w (.copy h1 h2) rfl
  | work h1 h2 h3 => rw [List.mem_singleton.mp h]; exact .w (.work h1 h2 h3) rfl
  | tell h1 => rw [List.mem_singleton.mp h]; exact .w (.tell h1) rfl
theorem wrS_tr (hp : ∀ r ∈ rs, RowC ns r) {start : Int} : ∀ (k st : Nat) (p : Int) (e : En0) (f0 f : List R) (z : Nat), wrS rs start k st p e f0 = some (f, z) → (∀ r ∈ f0, TrRow ns r) → f0.length ≤ st → (∀ r ∈ f, TrRow ns r) ∧ f.length ≤ z ∧ z ≤ st + k
  | 0, _, _, _, _, _, _, h, _, _ => by cases h
  | k + 1, st, p, e, f0, f, z, h, h0, hl => by
    rw [wrS] at h
    split at h
    · cases h
    · rename_i ho
      cases hr : rs[p.toNat]? with
      | none => rw [hr] at h; cases h
      | some r =>
        simp only [hr] at h
        have hs : isStop r = false := by
          unfold overR at ho
          rw [hr] at ho
          simpa using ho
        have a1 := all_tr (dueR_tr (e := e) (pl := p) (st := st + 1) (hp r (List.mem_of_getElem? hr)) hs) h0
        have a2 := dueR_len e p (st + 1) r
        split at h
        · cases h
          exact ⟨a1, by rw [List.length_append]; omega, by omega⟩
        · obtain ⟨i1, i2, i3⟩ := wrS_tr hp k (st + 1) _ _ _ f z h a1 (by rw [List.length_append]; omega)
          exact ⟨i1, i2, by omega⟩
where all_tr {xs ys : List R} (hy : ∀ r ∈ ys, TrRow ns r) (hx : ∀ r ∈ xs, TrRow ns r) : ∀ r ∈ xs ++ ys, TrRow ns r := fun r hr => (List.mem_append.mp hr).elim (hx r) (hy r)
theorem r_law_k04 {sa : Addr} {ss : List Int} (hS : SqL g.K H sa (ss.map V.int)) (h63 : ss.length ≤ 63) (q : ∀ H2, Q (.bl true) H2) : sp_law_k04 g [.ref sa] H Q E := by
  refine ⟨_, rfl, ?_⟩
  unfold t_law_k04
  walk_at "rd"
  refine r_law_program hS h63 fun ns rs hn po l H1 nr => ?_
  obtain ⟨fl, s1, vs, hv, hR⟩ := nr
  have pg := Pg.of hn po
  have hlen := hR.len
  have hS1 := Same.seq s1 hS
  walk_at "rd"
  refine i_d (fun c => ?_) (fun c => ?_)
  · walk_at "rd"
    exact q H1
  · have hpos : 0 < ((vs.length : Nat) : Int) := by omega
    walk_at "rd"
    refine v_sum hS1 ?_
    walk_at "rd"
    refine ⟨show 3 ≤ sizeLine by decide, fun t H2 n2 => ?_⟩
    have hS2 := Same.seq n2.sm hS1
    walk_at "rd"
    refine v_sum hS2 ?_
    walk_at "rd"
    have pick : ∀ {Q' : VK} {w : Int}, 0 ≤ w → w < 3 → (∀ st : Int, 0 ≤ st → st < vs.length → Q' (.int st) H2) → rIxA g.K (.ref t) (.int w) H2 Q' := fun {Q' w} w0 w3 q' => by
      have a1 : ∀ z : Int, 0 ≤ z % ((vs.length : Nat) : Int) ∧ z % ((vs.length : Nat) : Int) < ((vs.length : Nat) : Int) := fun z => ⟨Int.emod_nonneg _ (by omega), Int.emod_lt_of_pos _ hpos⟩
      have h3 : w = 0 ∨ w = 1 ∨ w = 2 := by omega
      rcases h3 with rfl | rfl | rfl
      · exact v_ixL (SqL.of n2.at_) at0 (q' _ (a1 _).1 (a1 _).2)
      · exact v_ixL (SqL.of n2.at_) at1 (q' _ (a1 _).1 (a1 _).2)
      · exact v_ixL (SqL.of n2.at_) at2 (q' _ (a1 _).1 (a1 _).2)
    refine pick (by omega) (by omega) fun start st0 st1 => ?_
    have hv2 := n2.sm _ _ hv
    have hR2 := RowsV.tk (Same.tk n2.sm) hR
    clear pick
    have hg : ∀ r ∈ rs, isG r = false := fun r hr => (pg.rows r hr).ng
    have hcs : ∀ r ∈ rs, RowC ns r := fun r hr => (pg.rows r hr).c
    walk_at "rd"
    refine r_law_all ⟨vs, hv2, hR2⟩ hg (by have := pg.size; omega) fun d H3 nd => ?_
    walk_at "rd"
    refine v_listD (.inl nd.at_) fun c H4 nc => ?_
    rw [encE_keys] at nc
    obtain ⟨-, ok0, -, -⟩ := fold_all rs [] (by exact List.nodup_nil) (fun p hp => by cases hp)
    have plen := pg.len
    walk_at "rd"
    refine v_forE (SqL.of nc.at_) (fun i σ' H' => ∃ x4 x5 e, σ' = [some (.ref sa), some (.ref l), some (.int start), some (.ref d), x4, x5, none, none, none, none, none] ∧ keys e = keys (allE rs) ∧ EnOk e ∧ NewX H2 d (.dK (encE e)) H' ∧ H' c = some (.lst ((keys (allE rs)).map V.str))) ⟨_, _, allE rs, rfl, rfl, ok0, nd.up nc.sm, nc.at_⟩ (fun i σ' H' ⟨_, _, _, _, _, _, _, hc⟩ => SqL.of hc) ?_ ?_
    · rintro i x σ' H' T H'' hx ⟨x4, x5, e, rfl, ke, ok, n, hc⟩ nT
      obtain ⟨nm, hnm, rfl⟩ := List.mem_map.mp (List.mem_of_getElem? hx)
      have le : e.length ≤ 6 := by
        have := congrArg List.length ke
        simp only [keys, List.length_map] at this
        omega
      walk_at "rd"
      refine r_law_cell_at (Same.seq (Same.trans n.sm nT.sm) hS2) (by omega) ?_
      walk_at "rd"
      refine r_law_number fun z hz => ?_
      walk_at "rd"
      refine e_put (nT.sm _ _ n.at_) (by rw [encE_len]; exact small_sz (by omega)) fun H4 w => ?_
      rw [putK_encE] at w
      refine ⟨_, _, putE e nm z, rfl, ?_, ok.put hz, Wr.newX (n.up nT.sm) w, w.keep (nT.sm _ _ hc) (ne_of (nT.sm _ _ hc) (nT.sm _ _ n.at_) (by intro z; cases z))⟩
      rw [keys_putE_mem (by rw [ke]; exact hnm), ke]
    · rintro σ' H5 ⟨x4, x5, e, rfl, ke, ok, n, -⟩
      have le : e.length ≤ 6 := by
        have := congrArg List.length ke
        simp only [keys, List.length_map] at this
        omega
      have nde : (keys e).Nodup := by rw [ke]; exact pg.nd
      have sok : StOk rs ⟨start, e, []⟩ := ⟨st0, nde, ok, by show e.length ≤ 60; omega, fun r hr => rowIn_of (hg r hr) fun n hn => by rw [ke]; exact pg.inr r hr n hn⟩
      have hv5 := n.sm _ _ hv2
      have hR5 := RowsV.tk (Same.tk n.sm) hR2
      have hd5 := n.at_
      have hS5 := Same.seq n.sm hS2
      clear nd nc n hv2 hR2 hS2 n2 hv hR hS1
      walk_at "rd"
      refine r_law_most hS5 fun ms m0 m300 H6 s6 => ?_
      have hv6 := s6 _ _ hv5
      have hd6 := s6 _ _ hd5
      have hR6 := RowsV.tk (Same.tk s6) hR5
      walk_at "rd"
      refine v_listL (SqL.of hv6) fun kp H7 n7 => ?_
      walk_at "rd"
      have hd7 := n7.sm _ _ hd6
      refine v_dict (.inl hd7) fun hd H8 n8 => ?_
      have hk8 := n8.sm _ _ n7.at_
      have hh8 := n8.at_
      have hd8 := n8.sm _ _ hd7
      have hv8 := n8.sm _ _ (n7.sm _ _ hv6)
      have hR8 := RowsV.tk (Same.tk (Same.trans n7.sm n8.sm)) hR6
      clear hv6 hd6 hd7 n7 n8 hR6 hR5 hv5 hd5
      have hr8 : ∀ v ∈ vs, ∃ p, v = .ref p := fun v hm => by
        obtain ⟨i, hi⟩ := List.mem_iff_getElem?.mp hm
        obtain ⟨r, -, p, e1, -⟩ := hR8.get hi
        exact ⟨p, e1⟩
      walk_at "rd"
      have tr := fun f z => wrS_tr hcs (start := start) ms.toNat 0 start e [] f z
      refine r_law_written pg.rows pg.size ⟨vs, hv8, hR8⟩ m0 m300 st0 hd8 sok ?_
      generalize hz : wrS rs start ms.toNat 0 start e [] = z at tr
      refine ⟨fun hz0 H9 s9 => ?_, fun f st hz0 t1 f1 H9 s9 ht1 fr1 hf1 => ?_⟩
      · subst hz0
        walk_at "rd"
        refine r_written pg.rows pg.size ⟨vs, s9 _ _ hk8, RowsV.tk (Same.tk s9) hR8⟩ m0 m300 st0 (s9 _ _ hh8) sok ?_
        rw [hz]
        refine ⟨fun _ H10 s10 => ?_, fun f st hz0 => by cases hz0⟩
        walk_at "rd"
        exact q H10
      · subst hz0
        obtain ⟨tf, tl, tz⟩ := tr f st rfl (fun r hr => by cases hr) (Nat.le_refl _)
        walk_at "rd"
        refine r_written pg.rows pg.size ⟨vs, s9 _ _ hk8, RowsV.tk (Same.tk s9) hR8⟩ m0 m300 st0 (s9 _ _ hh8) sok ?_
        rw [hz]
        refine ⟨fun hz0 => (by cases hz0), fun f' st' hz0 t2 f2 H10 s10 ht2 fr2 hf2 => ?_⟩
        cases hz0
        walk_at "rd"
        refine r_law_trace ht2 hf2 (by omega) tf fun H11 s11 => ?_
        have ht2' := s11 _ _ ht2
        have hf2' := RowsAt.same s11 hf2
        have s1011 := Same.trans s10 s11
        walk_at "rd"
        refine .inr (.inr (.inr ⟨9, by decide, ⟨t2, t1, _, _, rfl, rfl, SqT.of ht2', SqT.of (s1011 _ _ ht1), trip_eq hf2' (RowsAt.same s1011 hf1)⟩, ?_⟩))
        obtain ⟨fvs, hfv, hfR⟩ := hf2'
        walk_at "rd"
        refine ⟨ty_l hfv, ?_⟩
        refine v_clear hfv fun H12 w12 => ?_
        have s12 := w12.same s1011 fr2
        have s812 := Same.trans s9 s12
        walk_at "rd"
        refine r_written pg.rows pg.size ⟨vs, s812 _ _ hk8, RowsV.tk (Same.tk s812) hR8⟩ m0 m300 st0 (s812 _ _ hh8) sok ?_
        rw [hz]
        refine ⟨fun hz0 => (by cases hz0), fun f' st' hz0 t3 f3 H13 s13 ht3 fr3 hf3 => ?_⟩
        cases hz0
        have s913 := Same.trans s12 s13
        have s813 := Same.trans s9 s913
        walk_at "rd"
        refine .inr (.inr ⟨9, by decide, .inr (.inl ⟨t3, t1, _, _, rfl, rfl, SqT.of ht3, SqT.of (s913 _ _ ht1), trip_eq hf3 (RowsAt.same s913 hf1)⟩), ?_⟩)
        walk_at "rd"
        refine .inr (.inr ⟨3, by decide, eqv_dicts (EqvE.refl nde) (s813 _ _ hh8) (s813 _ _ hd8), ?_⟩)
        walk_at "rd"
        exact r_law_alike hr8 (s813 _ _ hk8) (s813 _ _ hv8) fun H2 s2 => q H2
theorem true_k04 {K : PySem.W.Frag} {T : Prop} (_ : T) {H : Hp} {a : Addr} {ns : List Int} (hl : ns.length ≤ 63) (hS : SqL K H a (ns.map V.int)) : sp_law_k04 (enOf K) [.ref a] H (fun v _ => v = .bl true) (fun _ _ _ => False) := r_law_k04 hS hl fun _ => rfl

end Tf

namespace Tf
open PySem L2
local macro_rules | `(tactic| walk_at "hl") => `(tactic| first
  | assumption
  | exact SqL.of (by walk_at "hh")
  | exact Same.seq (New.sm (by assumption)) (by walk_at "hl")
  | exact Same.seq (NewX.sm (by assumption)) (by walk_at "hl")
  | exact Same.seq (by assumption) (by walk_at "hl"))
local macro_rules | `(tactic| walk_at "ht") => `(tactic| first
  | assumption
  | exact SqT.of (by walk_at "hh")
  | exact Same.tup (New.sm (by assumption)) (by walk_at "ht")
  | exact Same.tup (NewX.sm (by assumption)) (by walk_at "ht")
  | exact Same.tup (by assumption) (by walk_at "ht"))
local macro_rules | `(tactic| walk_at "hr") => `(tactic| first
  | assumption
  | exact Or.inl (by walk_at "hh")
  | exact Same.rd (New.sm (by assumption)) (by walk_at "hr")
  | exact Same.rd (NewX.sm (by assumption)) (by walk_at "hr")
  | exact Same.rd (by assumption) (by walk_at "hr"))
local macro_rules | `(tactic| walk_at "hh") => `(tactic| first
  | assumption
  | exact New.at_ (by assumption)
  | exact NewX.at_ (by assumption)
  | exact Wr.at_ (by assumption)
  | exact Same.get (New.sm (by assumption)) (by walk_at "hh")
  | exact Same.get (NewX.sm (by assumption)) (by walk_at "hh")
  | exact Same.get (by assumption) (by walk_at "hh"))
local macro_rules | `(tactic| walk_at "sm") => `(tactic| first
  | exact Same.refl _
  | assumption
  | exact Same.tr2 (New.sm (by assumption)) (by walk_at "sm")
  | exact Same.tr2 (NewX.sm (by assumption)) (by walk_at "sm")
  | exact Same.tr2 (by assumption) (by walk_at "sm"))
local macro_rules | `(tactic| walk_at "ix") => `(tactic| with_reducible first | exact at0 | exact at1 | exact at2 | exact at3 | exact at4 | exact at5 | exact at6 | exact at7)
local macro_rules | `(tactic| walk_at "tyx") => `(tactic| first
  | exact TyX.base (TyOf.int _) | exact TyX.base (TyOf.str _) | exact TyX.base (TyOf.bl _) | exact TyX.base TyOf.non
  | exact TyX.base (TyOf.lst (by walk_at "hh")) | exact TyX.base (TyOf.tup (by walk_at "hh")) | exact TyX.base (TyOf.dK (by walk_at "hh")))
local macro_rules | `(tactic| walk_at "cond") => `(tactic| first | assumption | exact rfl | decide +kernel | omega | (simp only [List.length_cons, List.length_nil]; omega))
local macro_rules | `(tactic| walk_at "rd1") => `(tactic| first
  | with_reducible refine Rd.go ?_
  | ((with_reducible refine' k_var ?rdh ?_); (case rdh => exact rfl))
  | ((with_reducible refine' k_gt2 ?rdh ?_); (case rdh => walk_at "ht"))
  | ((with_reducible refine' v_mod ?rdh ?_); (case rdh => first | decide | omega))
  | ((with_reducible refine' v_fdiv ?rdh ?_); (case rdh => exact ⟨by decide, by decide⟩))
  | ((with_reducible refine' v_mulI ?rdh ?_); (case rdh => first | exact .inl ⟨by omega, by omega⟩ | exact .inr ⟨by omega, by omega⟩))
  | ((with_reducible refine' v_isiT ?rdh ?rdk ?_); (case rdh => walk_at "tyx"); (case rdk => decide +kernel))
  | ((with_reducible refine' v_isiF ?rdh ?rdk ?_); (case rdh => walk_at "tyx"); (case rdk => decide +kernel))
  | ((with_reducible refine' v_ixT ?rdh ?rdk ?_); (case rdh => walk_at "ht"); (case rdk => walk_at "ix"))
  | ((with_reducible refine' v_ixL ?rdh ?rdk ?_); (case rdh => walk_at "hl"); (case rdk => walk_at "ix"))
  | ((with_reducible refine' v_lenL ?rdh ?_); (case rdh => walk_at "hl"))
  | ((with_reducible refine' v_lenT ?rdh ?_); (case rdh => walk_at "ht"))
  | ((with_reducible refine' v_lenD ?rdh ?_); (case rdh => walk_at "hh"))
  | ((with_reducible refine' i_dT ?rdh ?_); (case rdh => walk_at "cond"))
  | ((with_reducible refine' i_dF ?rdh ?_); (case rdh => walk_at "cond"))
  | ((with_reducible refine' i_nT ?rdh ?_); (case rdh => walk_at "cond"))
  | ((with_reducible refine' i_nF ?rdh ?_); (case rdh => walk_at "cond"))
  | ((with_reducible refine' i_bT ?rdh ?_); (case rdh => first | assumption | decide +kernel))
  | ((with_reducible refine' i_bF ?rdh ?_); (case rdh => first | assumption | decide +kernel)))
local macro_rules | `(tactic| walk_at "rd") => `(tactic| repeat walk_at "rd1")

variable {g : En} {H H0 : Hp} {Q : VK} {E : XK} {a b p l d : Addr} {ns ms : List Str} {e e1 e2 : En0} {r : R} {rs : List R} {σ : L2.St}
/-! ## drawing a trace -/
def SrcG (ms : List Str) (s : Src) : Prop := srcOk s ∧ ∀ n ∈ s.ns, n ∈ ms
inductive TRow (ms : List Str) : R → Prop
  | w {r : R} (hw : isW r = true) (ho : rowOk r) (hn : ∀ n ∈ r.ns, n ∈ ms) : TRow ms r
  | g {s : Src} {z : Bool} {p st : Int} {rp : List (Str × Src)} (hs : SrcG ms s) (hr : ∀ x ∈ rp, x.1 ∈ ms ∧ SrcG ms x.2) (hl : rp.length ≤ 2) (hd : (rp.map (·.1)).Nodup) : TRow ms (.guard s z p st rp)
theorem SrcG.nm {n : Str} (h : n ∈ ms) : SrcG ms (.nm n) := ⟨trivial, fun m hm => by rw [List.mem_singleton.mp hm]; exact h⟩
theorem SrcG.num {k : Int} (h : 0 ≤ k ∧ k < 1000000) : SrcG ms (.num k) := ⟨h, fun m hm => by cases hm⟩
theorem tPut {n : Str} {k : Int} (h : n ∈ ms) (hk : 0 ≤ k ∧ k < 1000000) : TRow ms (.put n k) := .w rfl hk fun m hm => by rw [List.mem_singleton.mp hm]; exact h
theorem tCopy {n : Str} {s : Src} (h : n ∈ ms) (hs : SrcG ms s) : TRow ms (.copy n s) := .w rfl hs.1 fun m hm => by
  rcases List.mem_cons.mp hm with rfl | hm
  · exact h
  · exact hs.2 m hm
theorem tWork {w : Wk} {n : Str} {s u : Src} (h : n ∈ ms) (hs : SrcG ms s) (hu : SrcG ms u) : TRow ms (.work w n s u) := .w rfl ⟨hs.1, hu.1⟩ fun m hm => by
  rcases List.mem_cons.mp hm with rfl | hm
  · exact h
  · rcases List.mem_append.mp hm with hm | hm
    · exact hs.2 m hm
    · exact hu.2 m hm
theorem tTell {s : Src} (hs : SrcG ms s) : TRow ms (.tell s) := .w rfl hs.1 hs.2
theorem tAsk {n : Str} {z : Bool} {p st : Int} (h : n ∈ ms) : TRow ms (.guard (.nm n) z p st []) := .g (.nm h) (fun x hx => by cases hx) (by decide) List.nodup_nil
/-- the first four names -/
def Four (ns ms : List Str) : Prop := ∀ i : Int, 0 ≤ i → i < 4 → ∃ s, s ∈ ms ∧ atI (ns.map V.str) i = some (.str s)
theorem r_law_mixed {c : Int} (h4 : Four ns ms) (ha : H a = some (.lst (ns.map V.str))) (q : ∀ s, SrcG ms s → Q s.v H) : sp_law_mixed g [.int c, .ref a] H Q E := by
  refine ⟨_, _, rfl, ?_⟩
  unfold t_law_mixed
  walk_at "rd"
  refine i_d (fun h => ?_) (fun h => ?_)
  · walk_at "rd"
    exact r_law_number fun z hz => q (.num z) (.num hz)
  · walk_at "rd"
    obtain ⟨s, hs, e⟩ := h4 (c / 4 % 4) (by omega) (by omega)
    exact v_ixL (SqL.of ha) e (q (.nm s) (.nm hs))
theorem nine9 {w : Int} (h0 : 0 ≤ w) (h : ¬ 6 < w) : w = 0 ∨ w = 1 ∨ w = 2 ∨ w = 3 ∨ w = 4 ∨ w = 5 ∨ w = 6 := by omega
theorem atI_nodup {i j : Int} {n : Str} (hn : ns.Nodup) (hi : 0 ≤ i) (hj : 0 ≤ j) (h1 : atI (ns.map V.str) i = some (.str n)) (h2 : atI (ns.map V.str) j = some (.str n)) : i = j := by
  have get : ∀ {i : Int}, 0 ≤ i → atI (ns.map V.str) i = some (.str n) → ns[i.toNat]? = some n := fun {i} hi h => by
    obtain ⟨x, -, hx, -, -, hlt⟩ := atI_get h
    have hl : i.toNat < (ns.map V.str).length := by omega
    have h2 := atI_nat (xs := ns.map V.str) (j := i.toNat) (List.getElem?_eq_getElem hl)
    rw [show ((i.toNat : Nat) : Int) = i by omega, h] at h2
    rw [List.length_map] at hl
    rw [List.getElem_map] at h2
    cases h2
    exact List.getElem?_eq_getElem hl
  have g1 := get hi h1
  have g2 := get hj h2
  have := (List.getElem?_inj (List.getElem?_eq_some_iff.mp g1).1 hn).mp (g1.trans g2.symm)
  omega
theorem r_law_drawn_row {way one two k : Int} (hnd : ns.Nodup) (h4 : Four ns ms) (ha : H a = some (.lst (ns.map V.str))) (q : ∀ r, TRow ms r → ∀ p H2, Same H H2 → RowO H2 p r → Q (.ref p) H2) : sp_law_drawn_row g [.int way, .int one, .int two, .ref a, .int k] H Q E := by
  refine ⟨_, _, _, _, _, rfl, ?_⟩
  unfold t_law_drawn_row
  obtain ⟨n1, m1, e1⟩ := h4 ((one + two) % 4) (by omega) (by omega)
  obtain ⟨n2, m2, e2⟩ := h4 ((one + two + 1) % 4) (by omega) (by omega)
  have n12 : n1 ≠ n2 := fun z => by
    have := atI_nodup hnd (by omega) (by omega) e1 (z ▸ e2)
    omega
  walk_at "rd"
  refine v_ixL (SqL.of ha) e1 ?_
  walk_at "rd"
  refine i_d (fun h => ?_) (fun h => ?_)
  · walk_at "rd"
    refine r_law_mixed h4 ha fun s1 g1 => ?_
    walk_at "rd"
    refine ⟨show 2 ≤ sizeLine by decide, fun p1 H1 w1 => ?_⟩
    have ha1 := w1.sm _ _ ha
    walk_at "rd"
    refine v_ixL (SqL.of ha1) e2 ?_
    walk_at "rd"
    refine r_law_mixed h4 ha1 fun s2 g2 => ?_
    walk_at "rd"
    refine ⟨show 2 ≤ sizeLine by decide, fun p2 H2 w2 => ?_⟩
    walk_at "rd"
    refine ⟨show 2 ≤ sizeLine by decide, fun f o H3 od w3 => ?_⟩
    have ha3 := w3.sm _ _ (w2.sm _ _ ha1)
    walk_at "rd"
    refine r_law_mixed h4 ha3 fun s3 g3 => ?_
    walk_at "rd"
    refine ⟨f, o, _, rfl, od, w3.at_, fun f2 o2 H4 od2 s4 hf2 _ => ?_⟩
    obtain ⟨kk, hk, hk3⟩ : ∃ kk : Nat, way / 9 % 3 = (kk : Int) ∧ kk < 3 := ⟨(way / 9 % 3).toNat, by omega, by omega⟩
    rw [hk, cutTo] at hf2
    walk_at "rd"
    refine ⟨show 6 ≤ sizeLine by decide, fun t H5 w5 => ?_⟩
    have hp1 : H5 p1 = some (.tup [.str n1, s1.v]) := w5.sm _ _ (s4 _ _ (w3.sm _ _ (w2.sm _ _ w1.at_)))
    have hp2 : H5 p2 = some (.tup [.str n2, s2.v]) := w5.sm _ _ (s4 _ _ (w3.sm _ _ w2.at_))
    have pr : All2 (PairAt H5) [V.ref p1, .ref p2] [(n1, s1), (n2, s2)] := .cons ⟨p1, rfl, hp1⟩ (.cons ⟨p2, rfl, hp2⟩ .nil)
    refine q (.guard s3 (decide (two % 2 = 0)) (two / 2 % 60) (k + 1) ([(n1, s1), (n2, s2)].take kk)) (.g g3 (fun x hx => ?_) (by rw [List.length_take]; exact Nat.min_le_right ..) (by rw [List.map_take]; exact (List.nodup_cons.mpr ⟨fun z => n12 (List.mem_singleton.mp z), List.nodup_cons.mpr ⟨fun z => (by cases z), List.nodup_nil⟩⟩ : [n1, n2].Nodup).sublist (List.take_sublist _ _))) t H5 (Same.trans w1.sm (Same.trans w2.sm (Same.trans w3.sm (Same.trans s4 w5.sm)))) ⟨f2, w5.at_, o2, _, od2, w5.sm _ _ hf2, All2.take kk pr⟩
    have hx := List.mem_of_mem_take hx
    rcases List.mem_cons.mp hx with rfl | hx
    · exact ⟨m1, g1⟩
    · rw [List.mem_singleton.mp hx]
      exact ⟨m2, g2⟩
  · walk_at "rd"
    refine ⟨show 7 ≤ sizeLine by decide, fun t0 H1 w1 => ?_⟩
    have ha1 := w1.sm _ _ ha
    walk_at "rd"
    have h9 := nine9 (w := way % 9) (by omega) h
    generalize way % 9 = w at h9
    have put : ∀ {r : R} {p : Addr} {H2 : Hp}, isG r = false → H2 p = some (.tup r.vs) → RowO H2 p r := fun {r p H2} hg h => by cases r <;> first | exact h | cases hg
    rcases h9 with rfl | rfl | rfl | rfl | rfl | rfl | rfl
    · refine v_ixL (SqL.of w1.at_) at0 ?_
      walk_at "rd"
      refine r_law_number fun z hz => ?_
      walk_at "rd"
      exact ⟨show 3 ≤ sizeLine by decide, fun p H2 w2 => q (.put n1 z) (tPut m1 hz) p H2 (Same.trans w1.sm w2.sm) (put rfl w2.at_)⟩
    · refine v_ixL (SqL.of w1.at_) at1 ?_
      walk_at "rd"
      refine r_law_mixed h4 ha1 fun s gs => ?_
      walk_at "rd"
      exact ⟨show 3 ≤ sizeLine by decide, fun p H2 w2 => q (.copy n1 s) (tCopy m1 gs) p H2 (Same.trans w1.sm w2.sm) (put rfl w2.at_)⟩
    · refine v_ixL (SqL.of w1.at_) at2 ?_
      walk_at "rd"
      refine r_law_mixed h4 ha1 fun s gs => ?_
      walk_at "rd"
      refine r_law_mixed h4 ha1 fun u gu => ?_
      walk_at "rd"
      exact ⟨show 4 ≤ sizeLine by decide, fun p H2 w2 => q (.work .add n1 s u) (tWork m1 gs gu) p H2 (Same.trans w1.sm w2.sm) (put rfl w2.at_)⟩
    · refine v_ixL (SqL.of w1.at_) at3 ?_
      walk_at "rd"
      refine r_law_mixed h4 ha1 fun s gs => ?_
      walk_at "rd"
      refine r_law_mixed h4 ha1 fun u gu => ?_
      walk_at "rd"
      exact ⟨show 4 ≤ sizeLine by decide, fun p H2 w2 => q (.work .minus n1 s u) (tWork m1 gs gu) p H2 (Same.trans w1.sm w2.sm) (put rfl w2.at_)⟩
    · refine v_ixL (SqL.of w1.at_) at4 ?_
      walk_at "rd"
      refine r_law_mixed h4 ha1 fun s gs => ?_
      walk_at "rd"
      refine r_law_mixed h4 ha1 fun u gu => ?_
      walk_at "rd"
      exact ⟨show 4 ≤ sizeLine by decide, fun p H2 w2 => q (.work .times n1 s u) (tWork m1 gs gu) p H2 (Same.trans w1.sm w2.sm) (put rfl w2.at_)⟩
    · refine v_ixL (SqL.of w1.at_) at5 ?_
      walk_at "rd"
      refine r_law_mixed h4 ha1 fun s gs => ?_
      walk_at "rd"
      refine r_law_mixed h4 ha1 fun u gu => ?_
      walk_at "rd"
      exact ⟨show 4 ≤ sizeLine by decide, fun p H2 w2 => q (.work .less n1 s u) (tWork m1 gs gu) p H2 (Same.trans w1.sm w2.sm) (put rfl w2.at_)⟩
    · refine v_ixL (SqL.of w1.at_) at6 ?_
      walk_at "rd"
      refine r_law_mixed h4 ha1 fun s gs => ?_
      walk_at "rd"
      exact ⟨show 2 ≤ sizeLine by decide, fun p H2 w2 => q (.tell s) (tTell gs) p H2 (Same.trans w1.sm w2.sm) (put rfl w2.at_)⟩

end Tf

namespace Tf
open PySem L2
local macro_rules | `(tactic| walk_at "hl") => `(tactic| first
  | assumption
  | exact SqL.of (by walk_at "hh")
  | exact Same.seq (New.sm (by assumption)) (by walk_at "hl")
  | exact Same.seq (NewX.sm (by assumption)) (by walk_at "hl")
  | exact Same.seq (by assumption) (by walk_at "hl"))
local macro_rules | `(tactic| walk_at "ht") => `(tactic| first
  | assumption
  | exact SqT.of (by walk_at "hh")
  | exact Same.tup (New.sm (by assumption)) (by walk_at "ht")
  | exact Same.tup (NewX.sm (by assumption)) (by walk_at "ht")
  | exact Same.tup (by assumption) (by walk_at "ht"))
local macro_rules | `(tactic| walk_at "hr") => `(tactic| first
  | assumption
  | exact Or.inl (by walk_at "hh")
  | exact Same.rd (New.sm (by assumption)) (by walk_at "hr")
  | exact Same.rd (NewX.sm (by assumption)) (by walk_at "hr")
  | exact Same.rd (by assumption) (by walk_at "hr"))
local macro_rules | `(tactic| walk_at "hh") => `(tactic| first
  | assumption
  | exact New.at_ (by assumption)
  | exact NewX.at_ (by assumption)
  | exact Wr.at_ (by assumption)
  | exact Same.get (New.sm (by assumption)) (by walk_at "hh")
  | exact Same.get (NewX.sm (by assumption)) (by walk_at "hh")
  | exact Same.get (by assumption) (by walk_at "hh"))
local macro_rules | `(tactic| walk_at "sm") => `(tactic| first
  | exact Same.refl _
  | assumption
  | exact Same.tr2 (New.sm (by assumption)) (by walk_at "sm")
  | exact Same.tr2 (NewX.sm (by assumption)) (by walk_at "sm")
  | exact Same.tr2 (by assumption) (by walk_at "sm"))
local macro_rules | `(tactic| walk_at "ix") => `(tactic| with_reducible first | exact at0 | exact at1 | exact at2 | exact at3 | exact at4 | exact at5 | exact at6 | exact at7)
local macro_rules | `(tactic| walk_at "tyx") => `(tactic| first
  | exact TyX.base (TyOf.int _) | exact TyX.base (TyOf.str _) | exact TyX.base (TyOf.bl _) | exact TyX.base TyOf.non
  | exact TyX.base (TyOf.lst (by walk_at "hh")) | exact TyX.base (TyOf.tup (by walk_at "hh")) | exact TyX.base (TyOf.dK (by walk_at "hh")))
local macro_rules | `(tactic| walk_at "cond") => `(tactic| first | assumption | exact rfl | decide +kernel | omega | (simp only [List.length_cons, List.length_nil]; omega))
local macro_rules | `(tactic| walk_at "rd1") => `(tactic| first
  | with_reducible refine Rd.go ?_
  | ((with_reducible refine' k_var ?rdh ?_); (case rdh => exact rfl))
  | ((with_reducible refine' k_gt2 ?rdh ?_); (case rdh => walk_at "ht"))
  | ((with_reducible refine' v_mod ?rdh ?_); (case rdh => first | decide | omega))
  | ((with_reducible refine' v_fdiv ?rdh ?_); (case rdh => exact ⟨by decide, by decide⟩))
  | ((with_reducible refine' v_mulI ?rdh ?_); (case rdh => first | exact .inl ⟨by omega, by omega⟩ | exact .inr ⟨by omega, by omega⟩))
  | ((with_reducible refine' v_isiT ?rdh ?rdk ?_); (case rdh => walk_at "tyx"); (case rdk => decide +kernel))
  | ((with_reducible refine' v_isiF ?rdh ?rdk ?_); (case rdh => walk_at "tyx"); (case rdk => decide +kernel))
  | ((with_reducible refine' v_ixT ?rdh ?rdk ?_); (case rdh => walk_at "ht"); (case rdk => walk_at "ix"))
  | ((with_reducible refine' v_ixL ?rdh ?rdk ?_); (case rdh => walk_at "hl"); (case rdk => walk_at "ix"))
  | ((with_reducible refine' v_lenL ?rdh ?_); (case rdh => walk_at "hl"))
  | ((with_reducible refine' v_lenT ?rdh ?_); (case rdh => walk_at "ht"))
  | ((with_reducible refine' v_lenD ?rdh ?_); (case rdh => walk_at "hh"))
  | ((with_reducible refine' i_dT ?rdh ?_); (case rdh => walk_at "cond"))
  | ((with_reducible refine' i_dF ?rdh ?_); (case rdh => walk_at "cond"))
  | ((with_reducible refine' i_nT ?rdh ?_); (case rdh => walk_at "cond"))
  | ((with_reducible refine' i_nF ?rdh ?_); (case rdh => walk_at "cond"))
  | ((with_reducible refine' i_bT ?rdh ?_); (case rdh => first | assumption | decide +kernel))
  | ((with_reducible refine' i_bF ?rdh ?_); (case rdh => first | assumption | decide +kernel)))
local macro_rules | `(tactic| walk_at "rd") => `(tactic| repeat walk_at "rd1")

variable {g : En} {H H0 : Hp} {Q : VK} {E : XK} {a b p l d : Addr} {ns ms : List Str} {e e1 e2 : En0} {r : R} {rs : List R} {σ : L2.St}
theorem RowsV.cons {H : Hp} {v : V} {vs : List V} (h : RowAt H v r) (k : RowsV H vs rs) : RowsV H (v :: vs) (r :: rs) := All2.cons h k
theorem rowG {H : Hp} {p : Addr} (h : H p = some (.tup r.vs)) (hg : isG r = false) : RowAt H (.ref p) r := ⟨p, rfl, by cases r <;> first | exact h | cases hg⟩
theorem rowA {H : Hp} {p f : Addr} {o : Obj} {n : Str} {z : Bool} {pl st : Int} (h : H p = some (.tup [.str "guard", .str n, .bl z, .int pl, .int st, .ref f])) (hd : o.dict = none) (hf : H f = some (.frz o (.tup []))) : RowAt H (.ref p) (.guard (.nm n) z pl st []) := ⟨p, rfl, f, h, RepAt.nil hd hf⟩
theorem two_w {c : Int} : ∃ w : Wk, atI [V.str "minus", .str "less"] (c / 4 % 2) = some (.str w.s) := by
  have h : c / 4 % 2 = 0 ∨ c / 4 % 2 = 1 := by omega
  rcases h with h | h <;> rw [h]
  · exact ⟨.minus, at0⟩
  · exact ⟨.less, at1⟩
theorem two_a {c : Int} : ∃ w : Wk, atI [V.str "add", .str "minus"] (c / 4 % 2) = some (.str w.s) := by
  have h : c / 4 % 2 = 0 ∨ c / 4 % 2 = 1 := by omega
  rcases h with h | h <;> rw [h]
  · exact ⟨.add, at0⟩
  · exact ⟨.minus, at1⟩
theorem tnil {P : R → Prop} : ∀ r ∈ ([] : List R), P r := fun r h => by cases h
theorem r_law_pattern {way c : Int} (h4 : Four ns ms) (hw : 0 ≤ way ∧ way < 6) (ha : H a = some (.lst (ns.map V.str))) (q : ∀ rs, (∀ r ∈ rs, TRow ms r) → rs.length ≤ 7 → ∀ p H2, RowsNew H p rs H2 → Q (.ref p) H2) : sp_law_pattern g [.int way, .int c, .ref a] H Q E := by
  refine ⟨_, _, _, rfl, ?_⟩
  unfold t_law_pattern
  obtain ⟨n1, m1, e1⟩ := h4 (c % 4) (by omega) (by omega)
  obtain ⟨n2, m2, e2⟩ := h4 ((c + 1) % 4) (by omega) (by omega)
  obtain ⟨n3, m3, e3⟩ := h4 ((c + 2) % 4) (by omega) (by omega)
  obtain ⟨w, ew⟩ := two_w (c := c)
  obtain ⟨w2, ew2⟩ := two_a (c := c)
  have hone : ∀ {n : Str}, n ∈ ms → SrcG ms (.nm n) := fun h => .nm h
  walk_at "rd"
  refine v_ixL (SqL.of ha) e1 ?_
  walk_at "rd"
  refine v_ixL (SqL.of ha) e2 ?_
  walk_at "rd"
  refine v_ixL (SqL.of ha) e3 ?_
  walk_at "rd"
  refine ⟨show 0 ≤ sizeLine by decide, fun f0 o0 H1 od0 k1 => ?_⟩
  walk_at "rd"
  refine ⟨show 6 ≤ sizeLine by decide, fun t0 H2 k2 => ?_⟩
  walk_at "rd"
  refine i_d (fun h => ?_) (fun h => ?_)
  · walk_at "rd"
    refine ⟨show 2 ≤ sizeLine by decide, fun l0 H3 k3 => ?_⟩
    walk_at "rd"
    refine v_ixL (SqL.of k3.at_) ew ?_
    walk_at "rd"
    refine ⟨show 4 ≤ sizeLine by decide, fun t1 H4 k4 => ?_⟩
    walk_at "rd"
    refine ⟨show 0 ≤ sizeLine by decide, fun f2 o2 H5 od2 k5 => ?_⟩
    walk_at "rd"
    refine ⟨show 6 ≤ sizeLine by decide, fun t2 H6 k6 => ?_⟩
    walk_at "rd"
    refine ⟨show 2 ≤ sizeLine by decide, fun t3 H7 k7 => ?_⟩
    walk_at "rd"
    refine ⟨show 4 ≤ sizeLine by decide, fun l1 H8 k8 => ?_⟩
    have s7 : Same H H7 := by walk_at "sm"
    refine q [.guard (.nm n1) false (c % 60) (1 + c % 9) [], .work w n1 (.nm n2) (.nm n3), .guard (.nm n1) false 7 9 [], .tell (.nm n1)] (all_cons (tAsk m1) (all_cons (tWork m1 (hone m2) (hone m3)) (all_cons (tAsk m1) (all_cons (tTell (hone m1)) tnil)))) (by simp) l1 H8 ⟨Same.free s7 k8.fr, Same.trans s7 k8.sm, _, k8.at_, ?_⟩
    exact .cons (rowA (o := o0) (by walk_at "hh") od0 (by walk_at "hh")) (.cons (rowG (by walk_at "hh") rfl) (.cons (rowA (o := o2) (by walk_at "hh") od2 (by walk_at "hh")) (.cons (rowG (by walk_at "hh") rfl) RowsV.nil)))
  · walk_at "rd"
    refine i_d (fun h => ?_) (fun h => ?_)
    · walk_at "rd"
      refine ⟨show 3 ≤ sizeLine by decide, fun t1 H3 k3 => ?_⟩
      walk_at "rd"
      refine ⟨show 4 ≤ sizeLine by decide, fun t2 H4 k4 => ?_⟩
      walk_at "rd"
      refine ⟨show 2 ≤ sizeLine by decide, fun t3 H5 k5 => ?_⟩
      walk_at "rd"
      refine ⟨show 0 ≤ sizeLine by decide, fun f2 o2 H6 od2 k6 => ?_⟩
      walk_at "rd"
      refine ⟨show 6 ≤ sizeLine by decide, fun t4 H7 k7 => ?_⟩
      walk_at "rd"
      refine ⟨show 4 ≤ sizeLine by decide, fun l1 H8 k8 => ?_⟩
      have s7 : Same H H7 := by walk_at "sm"
      refine q [.copy n2 (.nm n1), .work .add n1 (.nm n1) (.nm n3), .tell (.nm n2), .guard (.nm n2) true 5 6 []] (all_cons (tCopy m2 (hone m1)) (all_cons (tWork m1 (hone m1) (hone m3)) (all_cons (tTell (hone m2)) (all_cons (tAsk m2) tnil)))) (by simp) l1 H8 ⟨Same.free s7 k8.fr, Same.trans s7 k8.sm, _, k8.at_, ?_⟩
      exact .cons (rowG (by walk_at "hh") rfl) (.cons (rowG (by walk_at "hh") rfl) (.cons (rowG (by walk_at "hh") rfl) (.cons (rowA (o := o2) (by walk_at "hh") od2 (by walk_at "hh")) RowsV.nil)))
    · walk_at "rd"
      refine ⟨show 0 ≤ sizeLine by decide, fun f1 o1 H3 od1 k3 => ?_⟩
      walk_at "rd"
      refine ⟨show 6 ≤ sizeLine by decide, fun t1 H4 k4 => ?_⟩
      walk_at "rd"
      refine ⟨show 3 ≤ sizeLine by decide, fun t2 H5 k5 => ?_⟩
      walk_at "rd"
      refine ⟨show 3 ≤ sizeLine by decide, fun t3 H6 k6 => ?_⟩
      walk_at "rd"
      refine ⟨show 3 ≤ sizeLine by decide, fun lr H7 k7 => ?_⟩
      have s7 : Same H H7 := by walk_at "sm"
      have hr : RowsV H7 [.ref t1, .ref t2, .ref t3] [.guard (.nm n3) (decide (c / 4 % 2 = 0)) 8 3 [], .put n2 3, .put n1 1] := .cons (rowA (o := o1) (by walk_at "hh") od1 (by walk_at "hh")) (.cons (rowG (by walk_at "hh") rfl) (.cons (rowG (by walk_at "hh") rfl) RowsV.nil))
      have hrt : ∀ r ∈ [R.guard (.nm n3) (decide (c / 4 % 2 = 0)) 8 3 [], .put n2 3, .put n1 1], TRow ms r := all_cons (tAsk m3) (all_cons (tPut m2 (by decide)) (all_cons (tPut m1 (by decide)) tnil))
      have hlr := k7.at_
      clear k1 k2 k3 k4 k5 k6 k7
      walk_at "rd"
      refine i_d (fun h => ?_) (fun h => ?_)
      · walk_at "rd"
        refine ⟨show 3 ≤ sizeLine by decide, fun u1 H8 k8 => ?_⟩
        walk_at "rd"
        refine ⟨show 2 ≤ sizeLine by decide, fun l0 H9 k9 => ?_⟩
        walk_at "rd"
        refine v_ixL (SqL.of k9.at_) ew2 ?_
        walk_at "rd"
        refine ⟨show 4 ≤ sizeLine by decide, fun u2 H10 k10 => ?_⟩
        walk_at "rd"
        refine ⟨show 2 ≤ sizeLine by decide, fun l1 H11 k11 => ?_⟩
        walk_at "rd"
        have s11 : Same H7 H11 := by walk_at "sm"
        refine v_addL k11.at_ (s11 _ _ hlr) (show 5 ≤ sizeLine by decide) fun l2 H12 k12 => ?_
        refine q ([.copy n1 (.nm n2), .work w2 n2 (.nm n3) (.nm n3)] ++ _) (all_app (all_cons (tCopy m1 (hone m2)) (all_cons (tWork m2 (hone m3) (hone m3)) tnil)) hrt) (by simp) l2 H12 ⟨Same.free (Same.trans s7 s11) k12.fr, Same.trans s7 (Same.trans s11 k12.sm), _, k12.at_, RowsV.app ?_ (RowsV.tk (Same.tk (Same.trans s11 k12.sm)) hr)⟩
        exact .cons (rowG (by walk_at "hh") rfl) (.cons (rowG (by walk_at "hh") rfl) RowsV.nil)
      · walk_at "rd"
        refine i_d (fun h => ?_) (fun h => ?_)
        · walk_at "rd"
          refine ⟨show 3 ≤ sizeLine by decide, fun u1 H8 k8 => ?_⟩
          walk_at "rd"
          refine ⟨show 3 ≤ sizeLine by decide, fun u2 H10 k10 => ?_⟩
          walk_at "rd"
          refine ⟨show 2 ≤ sizeLine by decide, fun l1 H11 k11 => ?_⟩
          walk_at "rd"
          have s11 : Same H7 H11 := by walk_at "sm"
          refine v_addL k11.at_ (s11 _ _ hlr) (show 5 ≤ sizeLine by decide) fun l2 H12 k12 => ?_
          refine q ([.put n2 7, .copy n1 (.nm n2)] ++ _) (all_app (all_cons (tPut m2 (by decide)) (all_cons (tCopy m1 (hone m2)) tnil)) hrt) (by simp) l2 H12 ⟨Same.free (Same.trans s7 s11) k12.fr, Same.trans s7 (Same.trans s11 k12.sm), _, k12.at_, RowsV.app ?_ (RowsV.tk (Same.tk (Same.trans s11 k12.sm)) hr)⟩
          exact .cons (rowG (by walk_at "hh") rfl) (.cons (rowG (by walk_at "hh") rfl) RowsV.nil)
        · walk_at "rd"
          refine i_d (fun h => ?_) (fun h => ?_)
          · walk_at "rd"
            refine ⟨show 4 ≤ sizeLine by decide, fun u1 H8 k8 => ?_⟩
            walk_at "rd"
            refine ⟨show 2 ≤ sizeLine by decide, fun l0 H9 k9 => ?_⟩
            walk_at "rd"
            refine v_ixL (SqL.of k9.at_) ew ?_
            walk_at "rd"
            refine ⟨show 4 ≤ sizeLine by decide, fun u2 H10 k10 => ?_⟩
            walk_at "rd"
            refine ⟨show 2 ≤ sizeLine by decide, fun u3 H11 k11 => ?_⟩
            walk_at "rd"
            refine ⟨show 3 ≤ sizeLine by decide, fun l2 H12 k12 => ?_⟩
            have s11 : Same H7 H11 := by walk_at "sm"
            refine q [.work .times n2 (.nm n1) (.nm n1), .work w n3 (.nm n1) (.nm n1), .tell (.nm n2)] (all_cons (tWork m2 (hone m1) (hone m1)) (all_cons (tWork m3 (hone m1) (hone m1)) (all_cons (tTell (hone m2)) tnil))) (by simp) l2 H12 ⟨Same.free (Same.trans s7 s11) k12.fr, Same.trans s7 (Same.trans s11 k12.sm), _, k12.at_, ?_⟩
            exact .cons (rowG (by walk_at "hh") rfl) (.cons (rowG (by walk_at "hh") rfl) (.cons (rowG (by walk_at "hh") rfl) RowsV.nil))
          · walk_at "rd"
            refine ⟨show 3 ≤ sizeLine by decide, fun u1 H8 k8 => ?_⟩
            walk_at "rd"
            refine ⟨show 4 ≤ sizeLine by decide, fun u2 H9 k9 => ?_⟩
            walk_at "rd"
            refine ⟨show 3 ≤ sizeLine by decide, fun u3 H10 k10 => ?_⟩
            walk_at "rd"
            refine ⟨show 0 ≤ sizeLine by decide, fun f4 o4 H11 od4 k11 => ?_⟩
            walk_at "rd"
            refine ⟨show 6 ≤ sizeLine by decide, fun u4 H12 k12 => ?_⟩
            walk_at "rd"
            refine ⟨show 4 ≤ sizeLine by decide, fun l1 H13 k13 => ?_⟩
            walk_at "rd"
            have s13 : Same H7 H13 := by walk_at "sm"
            refine v_addL k13.at_ (s13 _ _ hlr) (show 7 ≤ sizeLine by decide) fun l2 H14 k14 => ?_
            refine q ([.put n1 2, .work .less n2 (.nm n1) (.nm n3), .copy n3 (.nm n2), .guard (.nm n2) true 6 4 []] ++ _) (all_app (all_cons (tPut m1 (by decide)) (all_cons (tWork m2 (hone m1) (hone m3)) (all_cons (tCopy m3 (hone m2)) (all_cons (tAsk m2) tnil)))) hrt) (by simp) l2 H14 ⟨Same.free (Same.trans s7 s13) k14.fr, Same.trans s7 (Same.trans s13 k14.sm), _, k14.at_, RowsV.app ?_ (RowsV.tk (Same.tk (Same.trans s13 k14.sm)) hr)⟩
            exact .cons (rowG (by walk_at "hh") rfl) (.cons (rowG (by walk_at "hh") rfl) (.cons (rowG (by walk_at "hh") rfl) (.cons (rowA (o := o4) (by walk_at "hh") od4 (by walk_at "hh")) RowsV.nil)))

end Tf

namespace Tf
open PySem L2
local macro_rules | `(tactic| walk_at "hl") => `(tactic| first
  | assumption
  | exact SqL.of (by walk_at "hh")
  | exact Same.seq (New.sm (by assumption)) (by walk_at "hl")
  | exact Same.seq (NewX.sm (by assumption)) (by walk_at "hl")
  | exact Same.seq (by assumption) (by walk_at "hl"))
local macro_rules | `(tactic| walk_at "ht") => `(tactic| first
  | assumption
  | exact SqT.of (by walk_at "hh")
  | exact Same.tup (New.sm (by assumption)) (by walk_at "ht")
  | exact Same.tup (NewX.sm (by assumption)) (by walk_at "ht")
  | exact Same.tup (by assumption) (by walk_at "ht"))
local macro_rules | `(tactic| walk_at "hr") => `(tactic| first
  | assumption
  | exact Or.inl (by walk_at "hh")
  | exact Same.rd (New.sm (by assumption)) (by walk_at "hr")
  | exact Same.rd (NewX.sm (by assumption)) (by walk_at "hr")
  | exact Same.rd (by assumption) (by walk_at "hr"))
local macro_rules | `(tactic| walk_at "hh") => `(tactic| first
  | assumption
  | exact New.at_ (by assumption)
  | exact NewX.at_ (by assumption)
  | exact Wr.at_ (by assumption)
  | exact Same.get (New.sm (by assumption)) (by walk_at "hh")
  | exact Same.get (NewX.sm (by assumption)) (by walk_at "hh")
  | exact Same.get (by assumption) (by walk_at "hh"))
local macro_rules | `(tactic| walk_at "sm") => `(tactic| first
  | exact Same.refl _
  | assumption
  | exact Same.tr2 (New.sm (by assumption)) (by walk_at "sm")
  | exact Same.tr2 (NewX.sm (by assumption)) (by walk_at "sm")
  | exact Same.tr2 (by assumption) (by walk_at "sm"))
local macro_rules | `(tactic| walk_at "ix") => `(tactic| with_reducible first | exact at0 | exact at1 | exact at2 | exact at3 | exact at4 | exact at5 | exact at6 | exact at7)
local macro_rules | `(tactic| walk_at "tyx") => `(tactic| first
  | exact TyX.base (TyOf.int _) | exact TyX.base (TyOf.str _) | exact TyX.base (TyOf.bl _) | exact TyX.base TyOf.non
  | exact TyX.base (TyOf.lst (by walk_at "hh")) | exact TyX.base (TyOf.tup (by walk_at "hh")) | exact TyX.base (TyOf.dK (by walk_at "hh")))
local macro_rules | `(tactic| walk_at "cond") => `(tactic| first | assumption | exact rfl | decide +kernel | omega | (simp only [List.length_cons, List.length_nil]; omega))
local macro_rules | `(tactic| walk_at "rd1") => `(tactic| first
  | with_reducible refine Rd.go ?_
  | ((with_reducible refine' k_var ?rdh ?_); (case rdh => exact rfl))
  | ((with_reducible refine' k_gt2 ?rdh ?_); (case rdh => walk_at "ht"))
  | ((with_reducible refine' v_mod ?rdh ?_); (case rdh => first | decide | omega))
  | ((with_reducible refine' v_fdiv ?rdh ?_); (case rdh => exact ⟨by decide, by decide⟩))
  | ((with_reducible refine' v_mulI ?rdh ?_); (case rdh => first | exact .inl ⟨by omega, by omega⟩ | exact .inr ⟨by omega, by omega⟩))
  | ((with_reducible refine' v_isiT ?rdh ?rdk ?_); (case rdh => walk_at "tyx"); (case rdk => decide +kernel))
  | ((with_reducible refine' v_isiF ?rdh ?rdk ?_); (case rdh => walk_at "tyx"); (case rdk => decide +kernel))
  | ((with_reducible refine' v_ixT ?rdh ?rdk ?_); (case rdh => walk_at "ht"); (case rdk => walk_at "ix"))
  | ((with_reducible refine' v_ixL ?rdh ?rdk ?_); (case rdh => walk_at "hl"); (case rdk => walk_at "ix"))
  | ((with_reducible refine' v_lenL ?rdh ?_); (case rdh => walk_at "hl"))
  | ((with_reducible refine' v_lenT ?rdh ?_); (case rdh => walk_at "ht"))
  | ((with_reducible refine' v_lenD ?rdh ?_); (case rdh => walk_at "hh"))
  | ((with_reducible refine' i_dT ?rdh ?_); (case rdh => walk_at "cond"))
  | ((with_reducible refine' i_dF ?rdh ?_); (case rdh => walk_at "cond"))
  | ((with_reducible refine' i_nT ?rdh ?_); (case rdh => walk_at "cond"))
  | ((with_reducible refine' i_nF ?rdh ?_); (case rdh => walk_at "cond"))
  | ((with_reducible refine' i_bT ?rdh ?_); (case rdh => first | assumption | decide +kernel))
  | ((with_reducible refine' i_bF ?rdh ?_); (case rdh => first | assumption | decide +kernel)))
local macro_rules | `(tactic| walk_at "rd") => `(tactic| repeat walk_at "rd1")

variable {g : En} {H H0 : Hp} {Q : VK} {E : XK} {a b p l d : Addr} {ns ms : List Str} {e e1 e2 : En0} {r : R} {rs : List R} {σ : L2.St}
theorem cut_to {xs : List V} {k : Nat} : cutV xs none (some (k : Int)) = xs.take k := cutTo
theorem cut_from {xs : List V} {k : Nat} : cutV xs (some (k : Int)) none = xs.drop k := by
  unfold cutV
  rw [HT.sIx_none, show HT.sIx xs.length 0 (some (k : Int)) = min k xs.length from HT.sIx_nat xs.length 0 k]
  by_cases h : k ≤ xs.length
  · rw [Nat.min_eq_left h, ← List.length_drop, List.take_length]
  · rw [Nat.min_eq_right (by omega), Nat.sub_self, List.take_zero, List.drop_of_length_le (by omega)]
theorem All2.drop {A B : Type} {P : A → B → Prop} {xs : List A} {ys : List B} (k : Nat) (h : All2 P xs ys) : All2 P (xs.drop k) (ys.drop k) := ⟨by rw [List.length_drop, List.length_drop, h.len], fun i x y h1 h2 => by
  rw [List.getElem?_drop] at h1 h2
  exact h.at_ _ x y h1 h2⟩
theorem r_law_drawn_trace {sa : Addr} {ss : List Int} (hS : SqL g.K H sa (ss.map V.int)) (h63 : ss.length ≤ 63) (hnd : ns.Nodup) (h4 : Four ns ms) (ha : H a = some (.lst (ns.map V.str)))
    (q : ∀ (start st : Int) rs, (∀ r ∈ rs, TRow ms r) → rs.length ≤ 40 → ∀ t m H2, Same H H2 → H2 t = some (.tup [.int start, .ref m, .int st]) → RowsAt H2 m rs → Q (.ref t) H2) : sp_law_drawn_trace g [.ref sa, .ref a] H Q E := by
  refine ⟨_, _, rfl, ?_⟩
  unfold t_law_drawn_trace
  walk_at "rd"
  refine r_law_cell_at hS (by omega) ?_
  walk_at "rd"
  refine i_dF (by rw [List.length_map]; omega) ?_
  walk_at "rd"
  refine ⟨show 0 ≤ sizeLine by decide, fun d H1 n1 => ?_⟩
  generalize cellv ss 0 = c0
  have hz : 0 ≤ c0 % 14 ∧ c0 % 14 < 14 := by omega
  generalize c0 % 14 = z at hz
  walk_at "rd"
  refine v_forR1 (by omega) (by omega) (fun i σ' H' => ∃ x4 x5 rs, σ' = [some (.ref sa), some (.ref a), some (.int z), some (.ref d), x4, x5, none] ∧ RowsNew H d rs H' ∧ (∀ r ∈ rs, TRow ms r) ∧ rs.length = i) ⟨_, _, [], rfl, ⟨n1.fr, n1.sm, [], n1.at_, RowsV.nil⟩, tnil, rfl⟩ ?_ ?_
  · rintro i σ' H' hi ⟨x4, x5, rs, rfl, ⟨fr, sm, vs, hv, hR⟩, hp, hl⟩
    have hi' : (i : Int) < z := by omega
    walk_at "rd"
    refine r_law_cell_at (Same.seq sm hS) (by omega) ?_
    walk_at "rd"
    refine ⟨ty_l hv, ?_⟩
    walk_at "rd"
    refine r_law_cell_at (Same.seq sm hS) (by omega) ?_
    walk_at "rd"
    refine r_law_cell_at (Same.seq sm hS) (by omega) ?_
    walk_at "rd"
    refine r_law_drawn_row hnd h4 (sm _ _ ha) fun r tr p2 H2 s2 hO => ?_
    walk_at "rd"
    refine v_app (s2 _ _ hv) (by rw [hR.len]; exact small_sz (by omega)) fun H3 w => ?_
    have t : Tk H2 H3 := w.tk (s2 _ _ hv) rfl
    exact ⟨_, _, rs ++ [r], rfl, ⟨fr, w.same (Same.trans sm s2) fr, _, w.at_, RowsNew.put1 hv hR s2 w ⟨p2, rfl, hO⟩⟩, all_app hp (all_cons tr tnil), by rw [List.length_append, hl]; rfl⟩
  · rintro σ' H2 ⟨x4, x5, rs, rfl, ⟨fr, sm, vs, hv, hR⟩, hp, hl⟩
    have hlen := hR.len
    walk_at "rd"
    refine r_law_cell_at (Same.seq sm hS) (by omega) ?_
    walk_at "rd"
    refine r_law_cell_at (Same.seq sm hS) (by omega) ?_
    walk_at "rd"
    have hw8 : 0 ≤ (cellv ss 0 + cellv ss 1) % 8 ∧ (cellv ss 0 + cellv ss 1) % 8 < 8 := by omega
    generalize (cellv ss 0 + cellv ss 1) % 8 = w at hw8
    refine k_joinI (P := fun σ' H' => ∃ x5 x6 trs lt, σ' = [some (.ref sa), some (.ref a), some (.int z), some (.ref lt), x4, x5, x6] ∧ Same H H' ∧ RowsAt H' lt trs ∧ (∀ r ∈ trs, TRow ms r) ∧ trs.length ≤ 40) ?kk ?hh
    case kk =>
      rintro σ' H3 ⟨x5, x6, trs, lt, rfl, s3, hlt, htp, htl⟩
      walk_at "rd"
      refine r_law_cell_at (Same.seq s3 hS) (by omega) ?_
      walk_at "rd"
      refine r_law_cell_at (Same.seq s3 hS) (by omega) ?_
      walk_at "rd"
      exact ⟨show 3 ≤ sizeLine by decide, fun t H4 n4 => q _ _ trs htp htl t lt H4 (Same.trans s3 n4.sm) n4.at_ (RowsAt.same n4.sm hlt)⟩
    case hh =>
      intro key
      refine i_d (fun h => ?_) (fun h => ?_)
      · walk_at "rd"
        refine r_law_cell_at (Same.seq sm hS) (by omega) ?_
        have hl1 : 0 < ((vs.length : Nat) : Int) + 1 := by omega
        walk_at "rd"
        obtain ⟨k, hk⟩ : ∃ k : Nat, cellv ss 3 % (((vs.length : Nat) : Int) + 1) = (k : Int) := ⟨(cellv ss 3 % (((vs.length : Nat) : Int) + 1)).toNat, by have := Int.emod_nonneg (cellv ss 3) (b := ((vs.length : Nat) : Int) + 1) (by omega); omega⟩
        rw [hk]
        walk_at "rd"
        refine v_slL (SqL.of hv) fun la H3 k3 => ?_
        rw [cut_to] at k3
        walk_at "rd"
        refine r_law_cell_at (Same.seq (Same.trans sm k3.sm) hS) (by omega) ?_
        walk_at "rd"
        refine r_law_pattern h4 (by omega) ((Same.trans sm k3.sm) _ _ ha) fun prs hpt hpl lb H4 pb => ?_
        obtain ⟨fb, sb, bvs, hbv, hbR⟩ := pb
        have hb7 := hbR.len
        walk_at "rd"
        refine v_addL (sb _ _ k3.at_) hbv (by rw [List.length_take]; exact Nat.le_of_lt (small_sz (by omega))) fun lc H5 k5 => ?_
        walk_at "rd"
        refine v_slL (SqL.of (k5.sm _ _ (sb _ _ (k3.sm _ _ hv)))) fun le H6 k6 => ?_
        rw [cut_from] at k6
        walk_at "rd"
        refine v_addL (k6.sm _ _ k5.at_) k6.at_ (by rw [List.length_append, List.length_take, List.length_drop]; exact Nat.le_of_lt (small_sz (by omega))) fun lf H7 k7 => ?_
        have s37 : Same H3 H7 := Same.trans sb (Same.trans k5.sm (Same.trans k6.sm k7.sm))
        refine key _ _ ⟨_, _, rs.take k ++ prs ++ rs.drop k, lf, rfl, Same.trans sm (Same.trans k3.sm s37), ⟨_, k7.at_, RowsV.app (RowsV.app (RowsV.tk (Same.tk (Same.trans k3.sm s37)) (All2.take k hR)) (RowsV.tk (Same.tk (Same.trans k5.sm (Same.trans k6.sm k7.sm))) hbR)) (RowsV.tk (Same.tk (Same.trans k3.sm s37)) (All2.drop k hR))⟩, all_app (all_app (fun r hr => hp r (List.mem_of_mem_take hr)) hpt) (fun r hr => hp r (List.mem_of_mem_drop hr)), ?_⟩
        rw [List.length_append, List.length_append, List.length_take, List.length_drop]
        omega
      · exact k_next (key _ _ ⟨_, _, rs, d, rfl, sm, ⟨vs, hv, hR⟩, hp, by omega⟩)
/-- values for the names -/
structure VOk (ms : List Str) (e : En0) : Prop where
  nd : (keys e).Nodup
  ok : EnOk e
  len : e.length ≤ 60
  inn : ∀ n ∈ ms, n ∈ keys e
theorem r_law_drawn_values {sa : Addr} {ss : List Int} {turn : Int} (hS : SqL g.K H sa (ss.map V.int)) (h63 : ss.length ≤ 63) (hn : NamesOk ns) (ha : H a = some (.lst (ns.map V.str))) (ht : 0 ≤ turn ∧ turn < 1000)
    (q : ∀ e, VOk (ns.take 5) e → ∀ p H2, NewX H p (.dK (encE e)) H2 → Q (.ref p) H2) : sp_law_drawn_values g [.ref sa, .ref a, .int turn] H Q E := by
  refine ⟨_, _, _, rfl, ?_⟩
  unfold t_law_drawn_values
  walk_at "rd"
  intro d H1 n1
  walk_at "rd"
  refine v_forR1 (by omega) (by omega) (fun i σ' H' => ∃ x4 x5 e, σ' = [some (.ref sa), some (.ref a), some (.int turn), some (.ref d), x4, x5] ∧ NewX H d (.dK (encE e)) H' ∧ VOk (ns.take i) e ∧ e.length ≤ i) ⟨_, _, [], rfl, n1.x, ⟨List.nodup_nil, fun p hp => (by cases hp), by decide, fun n hn => (by cases hn)⟩, Nat.le_refl _⟩ ?_ ?_
  · rintro i σ' H2 hi ⟨x4, x5, e, rfl, n2, vo, el⟩
    have hi' : (i : Int) < 5 := by omega
    have hi5 : i < 5 := by omega
    have hS2 := Same.seq n2.sm hS
    have hnl := hn.len
    have hni : ns[i]? = some ns[i] := List.getElem?_eq_getElem (by omega)
    have hai : atI (ns.map V.str) (i : Int) = some (.str ns[i]) := atI_nat (by rw [List.getElem?_map, hni]; rfl)
    walk_at "rd"
    refine ⟨1, _, rfl, ?_⟩
    generalize hmx : (if ((List.map V.int ss).length : Int) > 1 then ((List.map V.int ss).length : Int) else 1) = mx
    have hmx1 : 0 < mx := by
      rw [← hmx]
      split <;> omega
    have hmod : 0 ≤ ((i : Int) + 5 * turn) % mx := Int.emod_nonneg _ (by omega)
    walk_at "rd"
    refine r_law_cell_at hS2 (by omega) ?_
    generalize cellv ss (1 + ((i : Int) + 5 * turn) % mx) = c
    walk_at "rd"
    refine r_law_number fun z hz => ?_
    walk_at "rd"
    refine ⟨show 3 ≤ sizeLine by decide, fun t H3 n3 => ?_⟩
    walk_at "rd"
    have n3' := n2.up n3.sm
    have go : ∀ v : Int, 0 ≤ v ∧ v < 1000000 → ∀ H4, Wr H3 d (.dK (putK (encE e) (.inr ns[i]) (.int v))) H4 → ∃ x4 x5 e, [some (V.ref sa), some (.ref a), some (.int turn), some (.ref d), some (.int (i : Int)), some (.int c)] = [some (V.ref sa), some (.ref a), some (.int turn), some (.ref d), x4, x5] ∧ NewX H d (.dK (encE e)) H4 ∧ VOk (ns.take (i + 1)) e ∧ e.length ≤ i + 1 := fun v hv H4 w => by
      rw [putK_encE] at w
      have l2 := putE_len e ns[i] v
      refine ⟨_, _, putE e ns[i] v, rfl, Wr.newX n3' w, ⟨?_, vo.ok.put hv, by omega, fun n hn' => ?_⟩, by omega⟩
      · rw [keys_putE]
        split
        · exact vo.nd
        · rename_i hx
          exact nodup_snoc vo.nd hx
      · rw [List.take_add_one, hni] at hn'
        rw [keys_putE]
        rcases List.mem_append.mp hn' with hm | hm
        · split
          · exact vo.inn n hm
          · exact List.mem_append.mpr (.inl (vo.inn n hm))
        · rw [List.mem_singleton.mp hm]
          split
          · assumption
          · exact List.mem_append.mpr (.inr (List.mem_singleton.mpr rfl))
    have hs3 : (encE e).length < sizeLine := by rw [encE_len]; exact small_sz (by omega)
    have ha3 := SqL.of (K := g.K) (n3'.sm _ _ ha)
    have h3 : c % 3 = 0 ∨ c % 3 = 1 ∨ c % 3 = 2 := by omega
    rcases h3 with h3 | h3 | h3
    · refine v_ixL (v := .int (c / 3 % 2)) (SqL.of n3.at_) (by rw [h3]; exact at0) ?_
      walk_at "rd"
      refine v_ixL ha3 hai ?_
      exact e_put n3'.at_ hs3 (go _ (by omega))
    · refine v_ixL (v := .int (c / 3 % 3)) (SqL.of n3.at_) (by rw [h3]; exact at1) ?_
      walk_at "rd"
      refine v_ixL ha3 hai ?_
      exact e_put n3'.at_ hs3 (go _ (by omega))
    · refine v_ixL (v := .int z) (SqL.of n3.at_) (by rw [h3]; exact at2) ?_
      walk_at "rd"
      refine v_ixL ha3 hai ?_
      exact e_put n3'.at_ hs3 (go _ hz)
  · rintro σ' H2 ⟨x4, x5, e, rfl, n2, vo, el⟩
    walk_at "rd"
    exact q e vo d H2 n2

/-! ## a round -/
def mendE (e : En0) (rp : List (Str × Src)) : En0 := rp.foldl (fun m x => putE m x.1 (srcV e x.2)) e
structure RR where
  b : Bool
  p : Int
  e : En0
  t : List Int
  st : Int
def rndS (start stp : Int) : List R → En0 → List Int → RR
  | [], e, t => ⟨true, start, e, t, stp⟩
  | r :: rest, e, t => match r with
    | .guard s z p st rp => if (decide (srcV e s = 0)) = z then rndS start stp rest e t else ⟨false, p, mendE e rp, t, st⟩
    | r => rndS start stp rest (doneE e r) (t ++ toldE e r)
theorem r_mended {f : Addr} {rp : List (Str × Src)} (ha : H a = some (.dK (encE e))) (hf : RepAt H f rp) (vo : VOk ms e) (hr : ∀ x ∈ rp, x.1 ∈ ms ∧ SrcG ms x.2) (hl : rp.length ≤ 2) (q : ∀ p H2, NewX H p (.dK (encE (mendE e rp))) H2 → Q (.ref p) H2) : sp_mended g [.ref a, .ref f] H Q E := by
  refine ⟨_, _, rfl, ?_⟩
  unfold t_mended
  obtain ⟨o, ws, od, hq, hw⟩ := hf
  have hlw := hw.len
  walk_at "rd"
  refine v_dict (.inl ha) fun d H1 n1 => ?_
  walk_at "rd"
  have el := vo.len
  refine v_forT (SqT.frz (n1.sm _ _ hq)) (fun i σ' H' => ∃ x3 x4, σ' = [some (.ref a), some (.ref f), some (.ref d), x3, x4] ∧ NewX H d (.dK (encE ((rp.take i).foldl (fun m x => putE m x.1 (srcV e x.2)) e))) H' ∧ ((rp.take i).foldl (fun m x => putE m x.1 (srcV e x.2)) e).length ≤ e.length + i) ⟨_, _, rfl, n1.x, Nat.le_refl _⟩ (fun i σ' H' ⟨_, _, _, n, _⟩ => SqT.frz (n.sm _ _ hq)) ?_ ?_
  · rintro i x σ' H2 hx ⟨x3, x4, rfl, n2, ml⟩
    obtain ⟨y, hy, c, rfl, hc⟩ := hw.get hx
    have hi := (List.getElem?_eq_some_iff.mp hx).1
    have hm := hr y (List.mem_of_getElem? hy)
    have hc2 := n2.sm _ _ hc
    have ha2 := n2.sm _ _ ha
    walk_at "rd"
    refine r_value_of (s := y.2) ha2 (srcIn_of fun n hn => vo.inn n (hm.2.2 n hn)) ?_
    walk_at "rd"
    refine e_put n2.at_ (by rw [encE_len]; exact small_sz (by omega)) fun H3 w => ?_
    rw [putK_encE] at w
    refine ⟨_, _, rfl, ?_, ?_⟩
    · rw [foldl_snoc _ _ _ _ _ hy]
      exact Wr.newX n2 w
    · rw [foldl_snoc _ _ _ _ _ hy]
      exact Nat.le_trans (putE_len _ _ _) (by omega)
  · rintro σ' H2 ⟨x3, x4, rfl, n2, ml⟩
    rw [hlw, List.take_length] at n2
    walk_at "rd"
    exact q d H2 n2

end Tf

namespace Tf
open PySem L2
local macro_rules | `(tactic| walk_at "hl") => `(tactic| first
  | assumption
  | exact SqL.of (by walk_at "hh")
  | exact Same.seq (New.sm (by assumption)) (by walk_at "hl")
  | exact Same.seq (NewX.sm (by assumption)) (by walk_at "hl")
  | exact Same.seq (by assumption) (by walk_at "hl"))
local macro_rules | `(tactic| walk_at "ht") => `(tactic| first
  | assumption
  | exact SqT.of (by walk_at "hh")
  | exact Same.tup (New.sm (by assumption)) (by walk_at "ht")
  | exact Same.tup (NewX.sm (by assumption)) (by walk_at "ht")
  | exact Same.tup (by assumption) (by walk_at "ht"))
local macro_rules | `(tactic| walk_at "hr") => `(tactic| first
  | assumption
  | exact Or.inl (by walk_at "hh")
  | exact Same.rd (New.sm (by assumption)) (by walk_at "hr")
  | exact Same.rd (NewX.sm (by assumption)) (by walk_at "hr")
  | exact Same.rd (by assumption) (by walk_at "hr"))
local macro_rules | `(tactic| walk_at "hh") => `(tactic| first
  | assumption
  | exact New.at_ (by assumption)
  | exact NewX.at_ (by assumption)
  | exact Wr.at_ (by assumption)
  | exact Same.get (New.sm (by assumption)) (by walk_at "hh")
  | exact Same.get (NewX.sm (by assumption)) (by walk_at "hh")
  | exact Same.get (by assumption) (by walk_at "hh"))
local macro_rules | `(tactic| walk_at "sm") => `(tactic| first
  | exact Same.refl _
  | assumption
  | exact Same.tr2 (New.sm (by assumption)) (by walk_at "sm")
  | exact Same.tr2 (NewX.sm (by assumption)) (by walk_at "sm")
  | exact Same.tr2 (by assumption) (by walk_at "sm"))
local macro_rules | `(tactic| walk_at "ix") => `(tactic| with_reducible first | exact at0 | exact at1 | exact at2 | exact at3 | exact at4 | exact at5 | exact at6 | exact at7)
local macro_rules | `(tactic| walk_at "tyx") => `(tactic| first
  | exact TyX.base (TyOf.int _) | exact TyX.base (TyOf.str _) | exact TyX.base (TyOf.bl _) | exact TyX.base TyOf.non
  | exact TyX.base (TyOf.lst (by walk_at "hh")) | exact TyX.base (TyOf.tup (by walk_at "hh")) | exact TyX.base (TyOf.dK (by walk_at "hh")))
local macro_rules | `(tactic| walk_at "cond") => `(tactic| first | assumption | exact rfl | decide +kernel | omega | (simp only [List.length_cons, List.length_nil]; omega))
local macro_rules | `(tactic| walk_at "rd1") => `(tactic| first
  | with_reducible refine Rd.go ?_
  | ((with_reducible refine' k_var ?rdh ?_); (case rdh => exact rfl))
  | ((with_reducible refine' k_gt2 ?rdh ?_); (case rdh => walk_at "ht"))
  | ((with_reducible refine' v_mod ?rdh ?_); (case rdh => first | decide | omega))
  | ((with_reducible refine' v_fdiv ?rdh ?_); (case rdh => exact ⟨by decide, by decide⟩))
  | ((with_reducible refine' v_mulI ?rdh ?_); (case rdh => first | exact .inl ⟨by omega, by omega⟩ | exact .inr ⟨by omega, by omega⟩))
  | ((with_reducible refine' v_isiT ?rdh ?rdk ?_); (case rdh => walk_at "tyx"); (case rdk => decide +kernel))
  | ((with_reducible refine' v_isiF ?rdh ?rdk ?_); (case rdh => walk_at "tyx"); (case rdk => decide +kernel))
  | ((with_reducible refine' v_ixT ?rdh ?rdk ?_); (case rdh => walk_at "ht"); (case rdk => walk_at "ix"))
  | ((with_reducible refine' v_ixL ?rdh ?rdk ?_); (case rdh => walk_at "hl"); (case rdk => walk_at "ix"))
  | ((with_reducible refine' v_lenL ?rdh ?_); (case rdh => walk_at "hl"))
  | ((with_reducible refine' v_lenT ?rdh ?_); (case rdh => walk_at "ht"))
  | ((with_reducible refine' v_lenD ?rdh ?_); (case rdh => walk_at "hh"))
  | ((with_reducible refine' i_dT ?rdh ?_); (case rdh => walk_at "cond"))
  | ((with_reducible refine' i_dF ?rdh ?_); (case rdh => walk_at "cond"))
  | ((with_reducible refine' i_nT ?rdh ?_); (case rdh => walk_at "cond"))
  | ((with_reducible refine' i_nF ?rdh ?_); (case rdh => walk_at "cond"))
  | ((with_reducible refine' i_bT ?rdh ?_); (case rdh => first | assumption | decide +kernel))
  | ((with_reducible refine' i_bF ?rdh ?_); (case rdh => first | assumption | decide +kernel)))
local macro_rules | `(tactic| walk_at "rd") => `(tactic| repeat walk_at "rd1")

variable {g : En} {H H0 : Hp} {Q : VK} {E : XK} {a b p l d : Addr} {ns ms : List Str} {e e1 e2 : En0} {r : R} {rs : List R} {σ : L2.St}
theorem VOk.done (vo : VOk ms e) (hw : isW r = true) (ho : rowOk r) (hn : ∀ n ∈ r.ns, n ∈ ms) : rowIn e r ∧ VOk ms (doneE e r) := by
  have hg : isG r = false := by cases r <;> first | rfl | cases hw
  have ri : rowIn e r := rowIn_of hg fun n hm => vo.inn n (hn n hm)
  refine ⟨ri, by rw [keys_doneE ri]; exact vo.nd, doneE_ok vo.ok ri ho, by rw [done_len ri]; exact vo.len, fun n hm => by rw [keys_doneE ri]; exact vo.inn n hm⟩
theorem VOk.mend (vo : VOk ms e) {rp : List (Str × Src)} (hr : ∀ x ∈ rp, x.1 ∈ ms ∧ SrcG ms x.2) : VOk ms (mendE e rp) := by
  have go : ∀ (rp : List (Str × Src)) (m : En0), (∀ x ∈ rp, x.1 ∈ ms ∧ SrcG ms x.2) → VOk ms m → VOk ms (rp.foldl (fun m x => putE m x.1 (srcV e x.2)) m) := fun rp => by
    induction rp with
    | nil => exact fun m _ h => h
    | cons x t ih =>
      intro m hx h
      have h1 := hx x (List.mem_cons.mpr (.inl rfl))
      have hk := h.inn _ h1.1
      have sl : (putE m x.1 (srcV e x.2)).length = m.length := by
        have := congrArg List.length (keys_putE_mem (v := srcV e x.2) hk)
        simpa [keys] using this
      refine ih _ (fun y hy => hx y (List.mem_cons.mpr (.inr hy))) ⟨by rw [keys_putE_mem hk]; exact h.nd, h.ok.put (srcV_ok vo.ok (srcIn_of fun n hn => vo.inn n (h1.2.2 n hn)) h1.2.1), by rw [sl]; exact h.len, fun n hn => by rw [keys_putE_mem hk]; exact h.inn n hn⟩
  exact go rp e hr vo
theorem rnd_ok {start stp : Int} : ∀ (rs : List R) (e : En0) (t : List Int), (∀ r ∈ rs, TRow ms r) → VOk ms e → VOk ms (rndS start stp rs e t).e ∧ (rndS start stp rs e t).t.length ≤ t.length + rs.length
  | [], e, t, _, vo => ⟨vo, Nat.le_refl _⟩
  | r :: rest, e, t, h, vo => by
    have hr := h r (List.mem_cons.mpr (.inl rfl))
    have h' : ∀ r ∈ rest, TRow ms r := fun r hr => h r (List.mem_cons.mpr (.inr hr))
    cases hr with
    | @g s z p st rp hs hr hl =>
      rw [rndS]
      split
      · obtain ⟨i1, i2⟩ := rnd_ok rest e t h' vo
        exact ⟨i1, by rw [List.length_cons]; omega⟩
      · exact ⟨vo.mend hr, by rw [List.length_cons]; exact Nat.le_add_right _ _⟩
    | w hw ho hn =>
      obtain ⟨ri, vo2⟩ := vo.done hw ho hn
      have e1 : rndS start stp (r :: rest) e t = rndS start stp rest (doneE e r) (t ++ toldE e r) := by cases r <;> first | rfl | cases hw
      rw [e1]
      obtain ⟨i1, i2⟩ := rnd_ok rest (doneE e r) (t ++ toldE e r) h' vo2
      refine ⟨i1, ?_⟩
      have := toldE_len e r
      rw [List.length_append] at i2
      rw [List.length_cons]
      omega
structure RndR (H : Hp) (z : RR) (t d l : Addr) (H2 : Hp) : Prop where
  sm : Same H H2
  ht : H2 t = some (.tup [.bl z.b, .int z.p, .ref d, .ref l, .int z.st])
  hd : H2 d = some (.dK (encE z.e))
  hl : H2 l = some (.lst (z.t.map V.int))
theorem headG : ∀ {r : R}, isW r = true → ¬ headS r = "guard"
  | .put .., _ => by simp only [headS]; decide +kernel
  | .copy .., _ => by simp only [headS]; decide +kernel
  | .work w .., _ => by cases w <;> simp only [headS, Wk.s] <;> decide +kernel
  | .tell .., _ => by simp only [headS]; decide +kernel
theorem r_round_of {tr m : Addr} {start stp : Int} (ht : H tr = some (.tup [.int start, .ref m, .int stp])) (hm : RowsAt H m rs) (hr : ∀ r ∈ rs, TRow ms r) (h60 : rs.length ≤ 60) (ha : H a = some (.dK (encE e))) (vo : VOk ms e)
    (q : ∀ t d l H2, RndR H (rndS start stp rs e []) t d l H2 → H d = none → Q (.ref t) H2) : sp_round_of g [.ref tr, .ref a] H Q E := by
  refine ⟨_, _, rfl, ?_⟩
  unfold t_round_of
  obtain ⟨vs, hv, hR⟩ := hm
  have hlen := hR.len
  walk_at "rd"
  refine ⟨show 0 ≤ sizeLine by decide, fun l0 H1 n1 => ?_⟩
  walk_at "rd"
  refine v_dict (.inl (n1.sm _ _ ha)) fun d0 H2 n2 => ?_
  have s2 : Same H H2 := Same.trans n1.sm n2.sm
  have ht2 := s2 _ _ ht
  walk_at "rd"
  generalize hz : rndS start stp rs e [] = z at q
  refine v_forL (SqL.of (s2 _ _ hv)) (fun i σ' H' => ∃ (e' : En0) (t : List Int) (ad al : Addr) (x3 : Option V), σ' = [some (.ref tr), some (.ref ad), some (.ref al), x3] ∧ rndS start stp (rs.drop i) e' t = z ∧ VOk ms e' ∧ t.length ≤ i ∧ i ≤ rs.length ∧ Same H H' ∧ H ad = none ∧ H' ad = some (.dK (encE e')) ∧ H' al = some (.lst (t.map V.int))) ⟨e, [], d0, l0, _, rfl, hz, vo, Nat.le_refl _, Nat.zero_le _, s2, Same.free n1.sm n2.fr, n2.at_, n2.sm _ _ n1.at_⟩ (fun i σ' H' ⟨_, _, _, _, _, _, _, _, _, _, s, _⟩ => Same.seq s (SqL.of hv)) ?_ ?_
  · rintro i x σ' H3 hx ⟨e', t, ad, al, x3, rfl, hw, vo', tl, il, s3, fad, had, hal⟩
    obtain ⟨r, hri, bp, rfl, hO⟩ := hR.get hx
    have hi := (List.getElem?_eq_some_iff.mp hri).1
    have tr' := hr r (List.mem_of_getElem? hri)
    have hdrop : rs.drop i = r :: rs.drop (i + 1) := by
      rw [List.drop_eq_getElem_cons hi]
      congr 1
      have := List.getElem?_eq_getElem hi
      rw [hri] at this
      exact (Option.some.inj this).symm
    rw [hdrop] at hw
    cases tr' with
    | @g s zz pp st rp hs hrp hrl =>
      obtain ⟨fq, hb, hq⟩ := hO
      have hb3 := s3 _ _ hb
      have hq3 := RepAt.tk (Same.tk s3) hq
      rw [rndS] at hw
      walk_at "rd"
      refine r_value_of (s := s) had (srcIn_of fun n hn => vo'.inn n (hs.2 n hn)) ?_
      walk_at "rd"
      refine i_n (fun h => ?_) (fun h => ?_)
      · rw [if_neg h] at hw
        walk_at "rd"
        refine r_mended had hq3 vo' hrp hrl fun d4 H4 n4 => ?_
        have hb4 := n4.sm _ _ hb3
        walk_at "rd"
        refine ⟨show 5 ≤ sizeLine by decide, fun t5 H5 n5 => ?_⟩
        subst hw
        exact q t5 d4 al H5 ⟨Same.trans s3 (Same.trans n4.sm n5.sm), n5.at_, n5.sm _ _ n4.at_, n5.sm _ _ (n4.sm _ _ hal)⟩ (Same.free s3 n4.fr)
      · rw [if_pos h] at hw
        walk_at "rd"
        exact ⟨e', t, ad, al, _, rfl, hw, vo', by omega, by omega, s3, fad, had, hal⟩
    | w hw1 ho hn =>
      have hg : isG r = false := by cases r <;> first | rfl | cases hw1
      have hb3 := s3 _ _ (rowO_vs hO hg)
      obtain ⟨ri, vo2⟩ := vo'.done hw1 ho hn
      have e1 : rndS start stp (r :: rs.drop (i + 1)) e' t = rndS start stp (rs.drop (i + 1)) (doneE e' r) (t ++ toldE e' r) := by cases r <;> first | rfl | cases hw1
      rw [e1] at hw
      have tl1 := toldE_len e' r
      have el := vo'.len
      have hbv := fun (_ : Unit) => hb3
      rw [vs_head hg] at hb3
      walk_at "rd"
      refine i_dF (headG hw1) ?_
      walk_at "rd"
      refine r_told_by had (hbv ()) hw1 ri fun p4 H4 n4 => ?_
      walk_at "rd"
      refine v_addL (n4.sm _ _ hal) n4.at_ (by rw [List.length_map, List.length_map]; exact Nat.le_of_lt (small_sz (by omega))) fun al2 H5 n5 => ?_
      have s45 := Same.trans n4.sm n5.sm
      walk_at "rd"
      refine r_done (s45 _ _ had) (s45 _ _ (hbv ())) hw1 vo'.ok ri ho (by omega) fun d6 H6 n6 => ?_
      walk_at "rd"
      have s5 := Same.trans s3 s45
      refine ⟨doneE e' r, t ++ toldE e' r, d6, al2, _, rfl, hw, vo2, by rw [List.length_append]; omega, by omega, Same.trans s5 n6.sm, Same.free s5 n6.fr, n6.at_, ?_⟩
      rw [List.map_append]
      exact n6.sm _ _ n5.at_
  · rintro σ' H3 ⟨e', t, ad, al, x3, rfl, hw, vo', tl, il, s3, fad, had, hal⟩
    rw [hlen, List.drop_length, rndS] at hw
    have ht3 := s3 _ _ ht
    walk_at "rd"
    refine ⟨show 5 ≤ sizeLine by decide, fun t5 H5 n5 => ?_⟩
    subst hw
    exact q t5 ad al H5 ⟨Same.trans s3 n5.sm, n5.at_, n5.sm _ _ had, n5.sm _ _ hal⟩ fad

theorem r_law_round {tr m : Addr} {start stp : Int} (ht : H tr = some (.tup [.int start, .ref m, .int stp])) (hm : RowsAt H m rs) (hr : ∀ r ∈ rs, TRow ms r) (h60 : rs.length ≤ 60) (ha : H a = some (.dK (encE e))) (vo : VOk ms e)
    (q : ∀ t d l H2, RndR H (rndS start stp rs e []) t d l H2 → Q (.ref t) H2) : sp_law_round g [.ref tr, .ref a] H Q E := by
  refine ⟨_, _, rfl, ?_⟩
  unfold t_law_round
  rw [law_told_eq, law_value_eq]
  obtain ⟨vs, hv, hR⟩ := hm
  have hlen := hR.len
  walk_at "rd"
  refine ⟨show 0 ≤ sizeLine by decide, fun l0 H1 n1 => ?_⟩
  have ht2 := n1.sm _ _ ht
  walk_at "rd"
  generalize hz : rndS start stp rs e [] = z at q
  refine v_forL (SqL.of (n1.sm _ _ hv)) (fun i σ' H' => ∃ (e' : En0) (t : List Int) (ad al : Addr) (x3 x4 x5 x6 : Option V), σ' = [some (.ref tr), some (.ref ad), some (.ref al), x3, x4, x5, x6] ∧ rndS start stp (rs.drop i) e' t = z ∧ VOk ms e' ∧ t.length ≤ i ∧ i ≤ rs.length ∧ Same H H' ∧ H' ad = some (.dK (encE e')) ∧ H' al = some (.lst (t.map V.int))) ⟨e, [], a, l0, _, _, _, _, rfl, hz, vo, Nat.le_refl _, Nat.zero_le _, n1.sm, n1.sm _ _ ha, n1.at_⟩ (fun i σ' H' ⟨_, _, _, _, _, _, _, _, _, _, _, _, _, s, _⟩ => Same.seq s (SqL.of hv)) ?_ ?_
  · rintro i x σ' H3 hx ⟨e', t, ad, al, x3, x4, x5, x6, rfl, hw, vo', tl, il, s3, had, hal⟩
    obtain ⟨r, hri, bp, rfl, hO⟩ := hR.get hx
    have hi := (List.getElem?_eq_some_iff.mp hri).1
    have tr' := hr r (List.mem_of_getElem? hri)
    have hdrop : rs.drop i = r :: rs.drop (i + 1) := by
      rw [List.drop_eq_getElem_cons hi]
      congr 1
      have := List.getElem?_eq_getElem hi
      rw [hri] at this
      exact (Option.some.inj this).symm
    rw [hdrop] at hw
    cases tr' with
    | @g s zz pp st rp hs hrp hrl =>
      obtain ⟨fq, hb, hq⟩ := hO
      have hb3 := s3 _ _ hb
      have hq3 := RepAt.tk (Same.tk s3) hq
      rw [rndS] at hw
      walk_at "rd"
      refine r_value_of (s := s) had (srcIn_of fun n hn => vo'.inn n (hs.2 n hn)) ?_
      walk_at "rd"
      refine i_n (fun h => ?_) (fun h => ?_)
      · rw [if_neg h] at hw
        walk_at "rd"
        refine v_dict (.inl had) fun d4 H4 n4 => ?_
        have hb4 := n4.sm _ _ hb3
        walk_at "rd"
        obtain ⟨o, ws, od, hqf, hws⟩ := RepAt.tk (Same.tk n4.sm) hq3
        have hlw := hws.len
        have el := vo'.len
        refine v_forT (SqT.frz hqf) (fun i σ' H' => ∃ x5 x6, σ' = [some (.ref tr), some (.ref ad), some (.ref al), some (.ref bp), some (.ref d4), x5, x6] ∧ NewX H3 d4 (.dK (encE ((rp.take i).foldl (fun m x => putE m x.1 (srcV e' x.2)) e'))) H' ∧ ((rp.take i).foldl (fun m x => putE m x.1 (srcV e' x.2)) e').length ≤ e'.length + i ∧ H' fq = some (.frz o (.tup ws)) ∧ All2 (PairAt H') ws rp) ⟨_, _, rfl, n4.x, Nat.le_refl _, hqf, hws⟩ (fun i σ' H' ⟨_, _, _, _, _, h, _⟩ => SqT.frz h) ?_ ?_
        · rintro j x σ' H5 hx5 ⟨x5, x6, rfl, n5, ml, hqf5, hws5⟩
          obtain ⟨y, hy, c, rfl, hc⟩ := hws5.get hx5
          have hj := (List.getElem?_eq_some_iff.mp hx5).1
          have hm := hrp y (List.mem_of_getElem? hy)
          have had5 := n5.sm _ _ had
          walk_at "rd"
          refine r_value_of (s := y.2) had5 (srcIn_of fun n hn => vo'.inn n (hm.2.2 n hn)) ?_
          walk_at "rd"
          refine e_put n5.at_ (by rw [encE_len]; exact small_sz (by omega)) fun H6 w => ?_
          rw [putK_encE] at w
          have tk := w.tk n5.at_ rfl
          refine ⟨_, _, rfl, ?_, ?_, tk _ _ rfl hqf5, hws5.mono fun _ _ => PairAt.tk tk⟩
          · rw [foldl_snoc _ _ _ _ _ hy]
            exact Wr.newX n5 w
          · rw [foldl_snoc _ _ _ _ _ hy]
            exact Nat.le_trans (putE_len _ _ _) (by omega)
        · rintro σ' H5 ⟨x5, x6, rfl, n5, ml, hqf5, hws5⟩
          rw [hlw, List.take_length] at n5
          have hb5 := n5.sm _ _ hb3
          walk_at "rd"
          refine ⟨show 5 ≤ sizeLine by decide, fun t6 H6 n6 => ?_⟩
          subst hw
          exact q t6 d4 al H6 ⟨Same.trans s3 (Same.trans n5.sm n6.sm), n6.at_, n6.sm _ _ n5.at_, n6.sm _ _ (n5.sm _ _ hal)⟩
      · rw [if_pos h] at hw
        walk_at "rd"
        exact ⟨e', t, ad, al, _, _, _, _, rfl, hw, vo', by omega, by omega, s3, had, hal⟩
    | w hw1 ho hn =>
      have hg : isG r = false := by cases r <;> first | rfl | cases hw1
      have hb3 := s3 _ _ (rowO_vs hO hg)
      obtain ⟨ri, vo2⟩ := vo'.done hw1 ho hn
      have e1 : rndS start stp (r :: rs.drop (i + 1)) e' t = rndS start stp (rs.drop (i + 1)) (doneE e' r) (t ++ toldE e' r) := by cases r <;> first | rfl | cases hw1
      rw [e1] at hw
      have tl1 := toldE_len e' r
      have el := vo'.len
      have hbv := fun (_ : Unit) => hb3
      rw [vs_head hg] at hb3
      walk_at "rd"
      refine i_nF (headG hw1) ?_
      walk_at "rd"
      refine r_told_by had (hbv ()) hw1 ri fun p4 H4 n4 => ?_
      walk_at "rd"
      refine v_addL (n4.sm _ _ hal) n4.at_ (by rw [List.length_map, List.length_map]; exact Nat.le_of_lt (small_sz (by omega))) fun al2 H5 n5 => ?_
      have s45 := Same.trans n4.sm n5.sm
      walk_at "rd"
      refine r_law_done (s45 _ _ had) (s45 _ _ (hbv ())) hw1 vo'.ok ri ho (by omega) fun d6 H6 n6 => ?_
      walk_at "rd"
      refine ⟨doneE e' r, t ++ toldE e' r, d6, al2, _, _, _, _, rfl, hw, vo2, by rw [List.length_append]; omega, by omega, Same.trans s3 (Same.trans s45 n6.sm), n6.at_, ?_⟩
      rw [List.map_append]
      exact n6.sm _ _ n5.at_
  · rintro σ' H3 ⟨e', t, ad, al, x3, x4, x5, x6, rfl, hw, vo', tl, il, s3, had, hal⟩
    rw [hlen, List.drop_length, rndS] at hw
    have ht3 := s3 _ _ ht
    walk_at "rd"
    refine ⟨show 5 ≤ sizeLine by decide, fun t5 H5 n5 => ?_⟩
    subst hw
    exact q t5 ad al H5 ⟨Same.trans s3 n5.sm, n5.at_, n5.sm _ _ had, n5.sm _ _ hal⟩

end Tf

namespace Tf
open PySem L2
local macro_rules | `(tactic| walk_at "hl") => `(tactic| first
  | assumption
  | exact SqL.of (by walk_at "hh")
  | exact Same.seq (New.sm (by assumption)) (by walk_at "hl")
  | exact Same.seq (NewX.sm (by assumption)) (by walk_at "hl")
  | exact Same.seq (by assumption) (by walk_at "hl"))
local macro_rules | `(tactic| walk_at "ht") => `(tactic| first
  | assumption
  | exact SqT.of (by walk_at "hh")
  | exact Same.tup (New.sm (by assumption)) (by walk_at "ht")
  | exact Same.tup (NewX.sm (by assumption)) (by walk_at "ht")
  | exact Same.tup (by assumption) (by walk_at "ht"))
local macro_rules | `(tactic| walk_at "hr") => `(tactic| first
  | assumption
  | exact Or.inl (by walk_at "hh")
  | exact Same.rd (New.sm (by assumption)) (by walk_at "hr")
  | exact Same.rd (NewX.sm (by assumption)) (by walk_at "hr")
  | exact Same.rd (by assumption) (by walk_at "hr"))
local macro_rules | `(tactic| walk_at "hh") => `(tactic| first
  | assumption
  | exact New.at_ (by assumption)
  | exact NewX.at_ (by assumption)
  | exact Wr.at_ (by assumption)
  | exact Same.get (New.sm (by assumption)) (by walk_at "hh")
  | exact Same.get (NewX.sm (by assumption)) (by walk_at "hh")
  | exact Same.get (by assumption) (by walk_at "hh"))
local macro_rules | `(tactic| walk_at "sm") => `(tactic| first
  | exact Same.refl _
  | assumption
  | exact Same.tr2 (New.sm (by assumption)) (by walk_at "sm")
  | exact Same.tr2 (NewX.sm (by assumption)) (by walk_at "sm")
  | exact Same.tr2 (by assumption) (by walk_at "sm"))
local macro_rules | `(tactic| walk_at "ix") => `(tactic| with_reducible first | exact at0 | exact at1 | exact at2 | exact at3 | exact at4 | exact at5 | exact at6 | exact at7)
local macro_rules | `(tactic| walk_at "tyx") => `(tactic| first
  | exact TyX.base (TyOf.int _) | exact TyX.base (TyOf.str _) | exact TyX.base (TyOf.bl _) | exact TyX.base TyOf.non
  | exact TyX.base (TyOf.lst (by walk_at "hh")) | exact TyX.base (TyOf.tup (by walk_at "hh")) | exact TyX.base (TyOf.dK (by walk_at "hh")))
local macro_rules | `(tactic| walk_at "cond") => `(tactic| first | assumption | exact rfl | decide +kernel | omega | (simp only [List.length_cons, List.length_nil]; omega))
local macro_rules | `(tactic| walk_at "rd1") => `(tactic| first
  | with_reducible refine Rd.go ?_
  | ((with_reducible refine' k_var ?rdh ?_); (case rdh => exact rfl))
  | ((with_reducible refine' k_gt2 ?rdh ?_); (case rdh => walk_at "ht"))
  | ((with_reducible refine' v_mod ?rdh ?_); (case rdh => first | decide | omega))
  | ((with_reducible refine' v_fdiv ?rdh ?_); (case rdh => exact ⟨by decide, by decide⟩))
  | ((with_reducible refine' v_mulI ?rdh ?_); (case rdh => first | exact .inl ⟨by omega, by omega⟩ | exact .inr ⟨by omega, by omega⟩))
  | ((with_reducible refine' v_isiT ?rdh ?rdk ?_); (case rdh => walk_at "tyx"); (case rdk => decide +kernel))
  | ((with_reducible refine' v_isiF ?rdh ?rdk ?_); (case rdh => walk_at "tyx"); (case rdk => decide +kernel))
  | ((with_reducible refine' v_ixT ?rdh ?rdk ?_); (case rdh => walk_at "ht"); (case rdk => walk_at "ix"))
  | ((with_reducible refine' v_ixL ?rdh ?rdk ?_); (case rdh => walk_at "hl"); (case rdk => walk_at "ix"))
  | ((with_reducible refine' v_lenL ?rdh ?_); (case rdh => walk_at "hl"))
  | ((with_reducible refine' v_lenT ?rdh ?_); (case rdh => walk_at "ht"))
  | ((with_reducible refine' v_lenD ?rdh ?_); (case rdh => walk_at "hh"))
  | ((with_reducible refine' i_dT ?rdh ?_); (case rdh => walk_at "cond"))
  | ((with_reducible refine' i_dF ?rdh ?_); (case rdh => walk_at "cond"))
  | ((with_reducible refine' i_nT ?rdh ?_); (case rdh => walk_at "cond"))
  | ((with_reducible refine' i_nF ?rdh ?_); (case rdh => walk_at "cond"))
  | ((with_reducible refine' i_bT ?rdh ?_); (case rdh => first | assumption | decide +kernel))
  | ((with_reducible refine' i_bF ?rdh ?_); (case rdh => first | assumption | decide +kernel)))
local macro_rules | `(tactic| walk_at "rd") => `(tactic| repeat walk_at "rd1")

variable {g : En} {H H0 : Hp} {Q : VK} {E : XK} {a b p l d : Addr} {ns ms : List Str} {e e1 e2 : En0} {r : R} {rs : List R} {σ : L2.St}
theorem four_of (hn : NamesOk ns) : Four ns (ns.take 5) := fun i h0 h4 => by
  have hl := hn.len
  have hi : i.toNat < ns.length := by omega
  refine ⟨ns[i.toNat], List.mem_iff_getElem?.mpr ⟨i.toNat, ?_⟩, atI_of (j := i.toNat) (by omega) ?_⟩
  · rw [List.getElem?_take, if_pos (by omega)]
    exact List.getElem?_eq_getElem hi
  · rw [List.getElem?_map, List.getElem?_eq_getElem hi]
    rfl
theorem quint_eq {K : PySem.W.Frag} {n : Nat} {is : List Int} {a1 a2 b1 b2 : Addr} {z : Bool} {i j : Int} (v : EqvE e1 e2) (h1 : H a1 = some (.dK (encE e1))) (h2 : H b1 = some (.dK (encE e2))) (h3 : H a2 = some (.lst (is.map V.int))) (h4 : H b2 = some (.lst (is.map V.int))) :
    Paired (EqW K H (n + 1)) [.bl z, .int i, .ref a1, .ref a2, .int j] [.bl z, .int i, .ref b1, .ref b2, .int j] :=
  .cons (eqW_refl rfl) (.cons (eqW_refl rfl) (.cons (.inr (.inr (eqv_dicts v h1 h2))) (.cons (.inr (.inr (ints_eqR h3 h4))) (.cons (eqW_refl rfl) .nil))))
theorem ne_dicts {K : PySem.W.Frag} (nd : (keys e).Nodup) (ha : H a = some (.dK (encE e))) (hb : H b = some (.dK (encE e))) (q : Q (.bl false) H) : rNeA K (.ref a) (.ref b) H Q := by
  refine .inr (.inr (.inl ⟨a, b, _, _, rfl, rfl, ha, hb, rfl, fun p hp => ?_, q⟩))
  obtain ⟨x, hx, rfl⟩ := List.mem_map.mp hp
  exact ⟨by rw [valV_encE, lkE_self nd hx]; rfl, rfl⟩
theorem r_law_k05 {sa : Addr} {ss : List Int} (hS : SqL g.K H sa (ss.map V.int)) (h63 : ss.length ≤ 63) (q : ∀ H2, Q (.bl true) H2) : sp_law_k05 g [.ref sa] H Q E := by
  refine ⟨_, rfl, ?_⟩
  unfold t_law_k05
  walk_at "rd"
  refine r_law_cell_at hS (by omega) ?_
  walk_at "rd"
  refine r_law_names fun ns hn na H1 n1 => ?_
  have ha1 := n1.at_
  have hS1 := Same.seq n1.sm hS
  walk_at "rd"
  refine r_law_drawn_trace hS1 h63 hn.nd (four_of hn) ha1 fun start stp rs tr hl40 t m H2 s2 ht hm => ?_
  have hS2 := Same.seq s2 hS1
  have ha2 := s2 _ _ ha1
  walk_at "rd"
  refine v_forR1 (by omega) (by omega) (fun i σ' H' => ∃ x3 x4 x5 x6 x7 x8, σ' = [some (.ref sa), some (.ref na), some (.ref t), x3, x4, x5, x6, x7, x8] ∧ Same H2 H') ⟨_, _, _, _, _, _, rfl, Same.refl _⟩ ?_ ?_
  · rintro i σ' H3 hi ⟨x3, x4, x5, x6, x7, x8, rfl, s3⟩
    have hi2 : (i : Int) < 2 := by omega
    walk_at "rd"
    refine r_law_drawn_values (Same.seq s3 hS2) h63 hn (s3 _ _ ha2) ⟨by omega, by omega⟩ fun e vo va H4 n4 => ?_
    have hva4 := n4.at_
    walk_at "rd"
    refine v_dict (.inl hva4) fun hd H5 n5 => ?_
    have s25 : Same H2 H5 := Same.trans s3 (Same.trans n4.sm n5.sm)
    have ht5 := s25 _ _ ht
    obtain ⟨mvs, hmv, hmR⟩ := RowsAt.same s25 hm
    walk_at "rd"
    refine v_listL (SqL.of hmv) fun km H6 n6 => ?_
    have ht6 := n6.sm _ _ ht5
    walk_at "rd"
    refine ⟨show 3 ≤ sizeLine by decide, fun kt H7 n7 => ?_⟩
    have s57 := Same.trans n6.sm n7.sm
    have ht7 := s57 _ _ ht5
    have hm7 : RowsAt H7 m rs := ⟨mvs, s57 _ _ hmv, RowsV.tk (Same.tk s57) hmR⟩
    have hk7 : RowsAt H7 km rs := ⟨mvs, n7.sm _ _ n6.at_, RowsV.tk (Same.tk s57) hmR⟩
    have hkt7 := n7.at_
    have hva7 := s57 _ _ (n5.sm _ _ hva4)
    have hhd7 := s57 _ _ n5.at_
    have s27 := Same.trans s25 s57
    walk_at "rd"
    refine r_law_round ht7 hm7 tr (by omega) hva7 vo fun t1 d1 l1 H8 R1 => ?_
    obtain ⟨s8, ht8, hd8, hl8⟩ := R1
    walk_at "rd"
    refine r_round_of (s8 _ _ hkt7) (RowsAt.same s8 hk7) tr (by omega) (s8 _ _ hhd7) vo fun t2 d2 l2 H9 R2 fd2 => ?_
    obtain ⟨s9, ht9, hd9, hl9⟩ := R2
    obtain ⟨zo, zl⟩ := rnd_ok (start := start) (stp := stp) rs e [] tr vo
    have zl0 : ([] : List Int).length = 0 := rfl
    generalize rndS start stp rs e [] = z at *
    have ht89 := s9 _ _ ht8
    have hd89 := s9 _ _ hd8
    have hl89 := s9 _ _ hl8
    have zel := zo.len
    have ne : d2 ≠ d1 := fun zz => by
      rw [zz, hd8] at fd2
      cases fd2
    clear n4 n5 n6 n7
    walk_at "rd"
    refine r_law_whole ?_
    walk_at "rd"
    refine r_law_whole ?_
    walk_at "rd"
    refine r_law_list (by omega) hl9 hl89 fun H10 s10 => ?_
    have ht10 := s10 _ _ ht9
    have ht10' := s10 _ _ ht89
    have hd10 := s10 _ _ hd9
    have hd10' := s10 _ _ hd89
    walk_at "rd"
    refine r_law_numbers (EqvE.refl zo.nd) (by omega) ne hd10 hd10' fun H11 s11 => ?_
    have s7 : Same H7 H11 := Same.trans s8 (Same.trans s9 (Same.trans s10 s11))
    walk_at "rd"
    refine .inr (.inr (.inr ⟨9, by decide, ⟨t2, t1, _, _, rfl, rfl, SqT.of (s11 _ _ ht10), SqT.of (s11 _ _ ht10'), quint_eq (EqvE.refl zo.nd) (s11 _ _ hd10) (s11 _ _ hd10') (s11 _ _ (s10 _ _ hl9)) (s11 _ _ (s10 _ _ hl89))⟩, ?_⟩))
    walk_at "rd"
    refine ne_dicts vo.nd (s7 _ _ hhd7) (s7 _ _ hva7) ?_
    walk_at "rd"
    refine .inr (.inr (.inr ⟨9, by decide, ⟨kt, t, _, _, rfl, rfl, SqT.of (s7 _ _ hkt7), SqT.of (s7 _ _ ht7), trip_eq (RowsAt.same s7 hk7) (RowsAt.same s7 hm7)⟩, ?_⟩))
    walk_at "rd"
    exact ⟨_, _, _, _, _, _, rfl, Same.trans s27 s7⟩
  · rintro σ' H3 ⟨x3, x4, x5, x6, x7, x8, rfl, s3⟩
    walk_at "rd"
    exact q H3
theorem true_k05 {K : PySem.W.Frag} {T : Prop} (_ : T) {H : Hp} {a : Addr} {ns : List Int} (hl : ns.length ≤ 63) (hS : SqL K H a (ns.map V.int)) : sp_law_k05 (enOf K) [.ref a] H (fun v _ => v = .bl true) (fun _ _ _ => False) := r_law_k05 hS hl fun _ => rfl

end Tf

namespace Tf
open PySem L2
local macro_rules | `(tactic| walk_at "hl") => `(tactic| first
  | assumption
  | exact SqL.of (by walk_at "hh")
  | exact Same.seq (New.sm (by assumption)) (by walk_at "hl")
  | exact Same.seq (NewX.sm (by assumption)) (by walk_at "hl")
  | exact Same.seq (by assumption) (by walk_at "hl"))
local macro_rules | `(tactic| walk_at "ht") => `(tactic| first
  | assumption
  | exact SqT.of (by walk_at "hh")
  | exact Same.tup (New.sm (by assumption)) (by walk_at "ht")
  | exact Same.tup (NewX.sm (by assumption)) (by walk_at "ht")
  | exact Same.tup (by assumption) (by walk_at "ht"))
local macro_rules | `(tactic| walk_at "hr") => `(tactic| first
  | assumption
  | exact Or.inl (by walk_at "hh")
  | exact Same.rd (New.sm (by assumption)) (by walk_at "hr")
  | exact Same.rd (NewX.sm (by assumption)) (by walk_at "hr")
  | exact Same.rd (by assumption) (by walk_at "hr"))
local macro_rules | `(tactic| walk_at "hh") => `(tactic| first
  | assumption
  | exact New.at_ (by assumption)
  | exact NewX.at_ (by assumption)
  | exact Wr.at_ (by assumption)
  | exact Same.get (New.sm (by assumption)) (by walk_at "hh")
  | exact Same.get (NewX.sm (by assumption)) (by walk_at "hh")
  | exact Same.get (by assumption) (by walk_at "hh"))
local macro_rules | `(tactic| walk_at "sm") => `(tactic| first
  | exact Same.refl _
  | assumption
  | exact Same.tr2 (New.sm (by assumption)) (by walk_at "sm")
  | exact Same.tr2 (NewX.sm (by assumption)) (by walk_at "sm")
  | exact Same.tr2 (by assumption) (by walk_at "sm"))
local macro_rules | `(tactic| walk_at "ix") => `(tactic| with_reducible first | exact at0 | exact at1 | exact at2 | exact at3 | exact at4 | exact at5 | exact at6 | exact at7)
local macro_rules | `(tactic| walk_at "tyx") => `(tactic| first
  | exact TyX.base (TyOf.int _) | exact TyX.base (TyOf.str _) | exact TyX.base (TyOf.bl _) | exact TyX.base TyOf.non
  | exact TyX.base (TyOf.lst (by walk_at "hh")) | exact TyX.base (TyOf.tup (by walk_at "hh")) | exact TyX.base (TyOf.dK (by walk_at "hh")))
local macro_rules | `(tactic| walk_at "cond") => `(tactic| first | assumption | exact rfl | decide +kernel | omega | (simp only [List.length_cons, List.length_nil]; omega))
local macro_rules | `(tactic| walk_at "rd1") => `(tactic| first
  | with_reducible refine Rd.go ?_
  | ((with_reducible refine' k_var ?rdh ?_); (case rdh => exact rfl))
  | ((with_reducible refine' k_gt2 ?rdh ?_); (case rdh => walk_at "ht"))
  | ((with_reducible refine' v_mod ?rdh ?_); (case rdh => first | decide | omega))
  | ((with_reducible refine' v_fdiv ?rdh ?_); (case rdh => exact ⟨by decide, by decide⟩))
  | ((with_reducible refine' v_mulI ?rdh ?_); (case rdh => first | exact .inl ⟨by omega, by omega⟩ | exact .inr ⟨by omega, by omega⟩))
  | ((with_reducible refine' v_isiT ?rdh ?rdk ?_); (case rdh => walk_at "tyx"); (case rdk => decide +kernel))
  | ((with_reducible refine' v_isiF ?rdh ?rdk ?_); (case rdh => walk_at "tyx"); (case rdk => decide +kernel))
  | ((with_reducible refine' v_ixT ?rdh ?rdk ?_); (case rdh => walk_at "ht"); (case rdk => walk_at "ix"))
  | ((with_reducible refine' v_ixL ?rdh ?rdk ?_); (case rdh => walk_at "hl"); (case rdk => walk_at "ix"))
  | ((with_reducible refine' v_lenL ?rdh ?_); (case rdh => walk_at "hl"))
  | ((with_reducible refine' v_lenT ?rdh ?_); (case rdh => walk_at "ht"))
  | ((with_reducible refine' v_lenD ?rdh ?_); (case rdh => walk_at "hh"))
  | ((with_reducible refine' i_dT ?rdh ?_); (case rdh => walk_at "cond"))
  | ((with_reducible refine' i_dF ?rdh ?_); (case rdh => walk_at "cond"))
  | ((with_reducible refine' i_nT ?rdh ?_); (case rdh => walk_at "cond"))
  | ((with_reducible refine' i_nF ?rdh ?_); (case rdh => walk_at "cond"))
  | ((with_reducible refine' i_bT ?rdh ?_); (case rdh => first | assumption | decide +kernel))
  | ((with_reducible refine' i_bF ?rdh ?_); (case rdh => first | assumption | decide +kernel)))
local macro_rules | `(tactic| walk_at "rd") => `(tactic| repeat walk_at "rd1")

variable {g : En} {H H0 H2 : Hp} {Q : VK} {E : XK} {a b p l d : Addr} {ns ms : List Str} {e e1 e2 : En0} {r : R} {rs : List R} {σ : L2.St}
/-! ## dicts by what they answer -/
theorem valV_drop (k j : Key) : ∀ kvs : List (Key × V), valV (dropK kvs k) j = if j = k then none else valV kvs j
  | [] => by split <;> rfl
  | p :: r => by
    have ih := valV_drop k j r
    by_cases h : p.1 = k
    · have e : dropK (p :: r) k = dropK r k := by unfold dropK; rw [List.filter_cons, if_neg (by simpa using h)]
      rw [e, ih]
      by_cases c : j = k
      · rw [if_pos c, if_pos c]
      · rw [if_neg c, if_neg c, valV_neg (fun z => c (z.symm.trans h))]
    · have e : dropK (p :: r) k = p :: dropK r k := by unfold dropK; rw [List.filter_cons, if_pos (by simpa using h)]
      rw [e]
      by_cases c : p.1 = j
      · rw [valV_pos c, valV_pos c, if_neg (fun z => h (c.trans z))]
      · rw [valV_neg c, valV_neg c, ih]
structure DAt (H : Hp) (a : Addr) (φ : Str → Option V) (k : Nat) : Prop where
  ex : ∃ kvs : List (Key × V), H a = some (.dK kvs) ∧ (∀ n, valV kvs (.inr n) = φ n) ∧ kvs.length ≤ k ∧ ∃ ns : List Str, kvs.map (·.1) = ns.map Sum.inr ∧ ns.Nodup ∧ ∀ n, n ∈ ns ↔ (φ n).isSome = true
theorem DAt.same {φ : Str → Option V} {k : Nat} (h : DAt H a φ k) (s : Same H H2) : DAt H2 a φ k := let ⟨kvs, h1, h2⟩ := h.ex; ⟨kvs, s _ _ h1, h2⟩
theorem DAt.keep {φ : Str → Option V} {k : Nat} {o : HO} (h : DAt H a φ k) (w : Wr H b o H2) (n : a ≠ b) : DAt H2 a φ k := let ⟨kvs, h1, h2⟩ := h.ex; ⟨kvs, w.keep h1 n, h2⟩
theorem DAt.mono {φ : Str → Option V} {k j : Nat} (h : DAt H a φ k) (n : k ≤ j) : DAt H a φ j := let ⟨kvs, h1, h2, h3, h4⟩ := h.ex; ⟨kvs, h1, h2, Nat.le_trans h3 n, h4⟩
theorem DAt.cong {φ ψ : Str → Option V} {k : Nat} (h : DAt H a φ k) (e : ∀ n, φ n = ψ n) : DAt H a ψ k := by
  have : φ = ψ := funext e
  rw [← this]
  exact h
theorem DAt.nil (h : H a = some (.dK [])) : DAt H a (fun _ => none) 0 := ⟨[], h, fun _ => rfl, Nat.le_refl _, [], rfl, List.nodup_nil, fun n => ⟨fun h => (by cases h), fun h => (by cases h)⟩⟩
theorem putK_keys (kvs : List (Key × V)) (k : Key) (v : V) : (putK kvs k v).map (·.1) = if (valV kvs k).isSome = true then kvs.map (·.1) else kvs.map (·.1) ++ [k] := by
  unfold putK
  rw [valV_any]
  split
  · rw [List.map_map]
    refine List.map_congr_left fun p _ => ?_
    show (if p.1 = k then (p.1, v) else p).1 = p.1
    split <;> rfl
  · rw [List.map_append]
    rfl
theorem DAt.put {φ : Str → Option V} {k : Nat} {n : Str} {v : V} {kvs : List (Key × V)} (h1 : H a = some (.dK kvs)) (h : DAt H a φ k) (w : Wr H a (.dK (putK kvs (.inr n) v)) H2) : DAt H2 a (fun m => if m = n then some v else φ m) (k + 1) := by
  obtain ⟨kvs', h1', h2, h3, ns, h4, h5, h6⟩ := h.ex
  rw [h1] at h1'
  cases h1'
  refine ⟨_, w.at_, fun m => ?_, Nat.le_trans (length_putK _ _ _) (by omega), if (φ n).isSome = true then ns else ns ++ [n], ?_, ?_, fun m => ?_⟩
  · rw [valV_put, h2]
    by_cases c : m = n
    · rw [if_pos (by rw [c]), if_pos c]
    · rw [if_neg (fun z => c (Sum.inr.inj z)), if_neg c]
  · rw [putK_keys, h2, h4]
    split
    · rfl
    · rw [List.map_append]
      rfl
  · split
    · exact h5
    · rename_i c
      exact nodup_snoc h5 fun z => c ((h6 n).mp z)
  · by_cases c : m = n
    · subst c
      rw [if_pos rfl]
      split
      · rename_i c2
        exact ⟨fun _ => rfl, fun _ => (h6 m).mpr c2⟩
      · exact ⟨fun _ => rfl, fun _ => List.mem_append.mpr (.inr (List.mem_singleton.mpr rfl))⟩
    · rw [if_neg c]
      split
      · exact h6 m
      · rw [List.mem_append, h6 m]
        exact ⟨fun z => z.elim id fun z => absurd (List.mem_singleton.mp z) c, .inl⟩
theorem dropK_keys (k : Str) : ∀ (kvs : List (Key × V)) (ns : List Str), kvs.map (·.1) = ns.map Sum.inr → (dropK kvs (.inr k)).map (·.1) = (ns.filter fun n => decide (n ≠ k)).map Sum.inr
  | [], [], _ => rfl
  | [], _ :: _, h => by cases h
  | _ :: _, [], h => by cases h
  | p :: r, n :: t, h => by
    have h1 : p.1 = Sum.inr n := (List.cons.inj h).1
    have ih := dropK_keys k r t (List.cons.inj h).2
    by_cases c : n = k
    · have e : dropK (p :: r) (.inr k) = dropK r (.inr k) := by unfold dropK; rw [List.filter_cons, if_neg (by rw [h1, c]; simp)]
      rw [e, List.filter_cons, if_neg (by simpa using c)]
      exact ih
    · have e : dropK (p :: r) (.inr k) = p :: dropK r (.inr k) := by
        unfold dropK
        rw [List.filter_cons, if_pos (by rw [h1]; simp; exact c)]
      rw [e, List.filter_cons, if_pos (by simpa using c), List.map_cons, List.map_cons, ih, h1]
theorem DAt.drop {φ : Str → Option V} {k : Nat} {n : Str} {kvs : List (Key × V)} (h1 : H a = some (.dK kvs)) (h : DAt H a φ k) (w : Wr H a (.dK (dropK kvs (.inr n))) H2) : DAt H2 a (fun m => if m = n then none else φ m) k := by
  obtain ⟨kvs', h1', h2, h3, ns, h4, h5, h6⟩ := h.ex
  rw [h1] at h1'
  cases h1'
  refine ⟨_, w.at_, fun m => ?_, Nat.le_trans (List.length_filter_le _ _) h3, ns.filter fun m => decide (m ≠ n), dropK_keys n kvs ns h4, h5.filter _, fun m => ?_⟩
  · rw [valV_drop, h2]
    by_cases c : m = n
    · rw [if_pos (by rw [c]), if_pos c]
    · rw [if_neg (fun z => c (Sum.inr.inj z)), if_neg c]
  · rw [List.mem_filter, h6 m]
    by_cases c : m = n
    · rw [if_pos c]
      exact ⟨fun z => absurd c (of_decide_eq_true z.2), fun z => by cases z⟩
    · rw [if_neg c]
      exact ⟨fun z => z.1, fun z => ⟨z, decide_eq_true c⟩⟩
/-! ### reading them -/
noncomputable def DAt.kv {φ : Str → Option V} {k : Nat} (h : DAt H a φ k) : List (Key × V) := h.ex.choose
theorem DAt.lies {φ : Str → Option V} {k : Nat} (h : DAt H a φ k) : H a = some (.dK h.kv) := h.ex.choose_spec.1
theorem DAt.val {φ : Str → Option V} {k : Nat} (h : DAt H a φ k) (n : Str) : valV h.kv (.inr n) = φ n := h.ex.choose_spec.2.1 n
theorem e_is {φ : Str → Option V} {k : Nat} (h : DAt H a φ k) : ∃ a' kvs, V.ref a = .ref a' ∧ H a' = some (.dK kvs) := let ⟨kvs, h1, _⟩ := h.ex; ⟨a, kvs, rfl, h1⟩
section
variable {td ty tx : TE}
instance rd_k_dp2 : Rd (tDP2 td ty tx σ H Q) (td σ H fun x H1 => (∃ a kvs, x = .ref a ∧ H1 a = some (.dK kvs)) ∧ ty σ H1 fun y H2 => tx σ H2 fun z H3 => ∃ a kvs k, x = .ref a ∧ H3 a = some (.dK kvs) ∧ y = kV k ∧ ∀ H4, Wr H3 a (.dK (dropK kvs k)) H4 → Q ((valV kvs k).getD z) H4) := ⟨id⟩
instance rd_k_dp1 : Rd (tDP1 td ty σ H Q) (td σ H fun x H1 => (∃ a kvs, x = .ref a ∧ H1 a = some (.dK kvs)) ∧ ty σ H1 fun y H2 => ∃ a kvs k v, x = .ref a ∧ H2 a = some (.dK kvs) ∧ y = kV k ∧ valV kvs k = some v ∧ ∀ H3, Wr H2 a (.dK (dropK kvs k)) H3 → Q v H3) := ⟨id⟩
end
theorem e_putD {φ : Str → Option V} {k : Nat} {n : Str} {v : V} {P : Hp → Prop} (h : DAt H a φ k) (hk : k ≤ 900) (q : ∀ H4, (∀ b, b ≠ a → H4 b = H b) → (∃ u, H a = some u ∧ isTup u = false) → DAt H4 a (fun m => if m = n then some v else φ m) (k + 1) → P H4) : ∃ a' kvs k', V.ref a = .ref a' ∧ H a' = some (.dK kvs) ∧ V.str n = kV k' ∧ kvs.length < sizeLine ∧ ∀ H4, Wr H a' (.dK (putK kvs k' v)) H4 → P H4 := by
  obtain ⟨kvs, h1, h2, h3, _⟩ := h.ex
  exact ⟨a, kvs, .inr n, rfl, h1, rfl, small_sz (by omega), fun H4 w => q H4 w.el ⟨_, h1, rfl⟩ (h.put h1 w)⟩
theorem v_ixDat {K : PySem.W.Frag} {φ : Str → Option V} {k : Nat} {n : Str} {v : V} (h : DAt H a φ k) (e : φ n = some v) (q : Q v H) : rIxA K (.ref a) (.str n) H Q := by
  obtain ⟨kvs, h1, h2, _⟩ := h.ex
  exact v_ixDS (.inl h1) (by rw [h2, e]) q
theorem DAt.only {φ : Str → Option V} {k : Nat} (h : DAt H a φ k) (w : ∀ b', b' ≠ b → H2 b' = H b') (n : a ≠ b) : DAt H2 a φ k := by
  obtain ⟨kvs, h1, h2⟩ := h.ex
  exact ⟨kvs, by rw [w a n]; exact h1, h2⟩
/-! ## what is known of a name -/
inductive Fact where
  | no | num (i : Int) | nm (m : Str) | non0
  deriving DecidableEq
abbrev Fx := Str → Fact
def rootF (F : Fx) : Src → Src
  | .num i => .num i
  | .nm n => match F n with
    | .num i => .num i
    | .nm m => match F m with
      | .num i => .num i
      | _ => .nm m
    | _ => .nm n
def forgetF (F : Fx) (n : Str) : Fx := fun k => if k = n then .no else if F k = .nm n then .no else F k
def Src.fact : Src → Fact
  | .num i => .num i
  | .nm m => .nm m
def setF (F : Fx) (n : Str) (s : Src) : Fx := fun k => if k = n then s.fact else forgetF F n k
def passF (F : Fx) (n : Str) (z : Bool) : Fx := fun k => if k = n then (if z = true then .num 0 else .non0) else F k
def holdsF (F : Fx) : Src → Bool → Bool
  | .num i, z => decide (decide (i = 0) = z)
  | .nm n, z => !z && decide (F n = .non0)
/-- names lead to names that lead no further; numbers are in bounds -/
structure FOk (F : Fx) : Prop where
  one : ∀ n m, F n = .nm m → ∀ k, F m ≠ .nm k
  num : ∀ n i, F n = .num i → 0 ≤ i ∧ i < 1000000
def fA (F : Fx) : Str → Option V := fun n => match F n with
  | .num i => some (.int i)
  | .nm m => some (.str m)
  | _ => none
def fK (F : Fx) : Str → Option V := fun n => match F n with
  | .num i => some (.int i)
  | .non0 => some (.int (-1))
  | _ => none
def fL (F : Fx) : Str → Option V := fun n => match F n with
  | .nm m => some (.str m)
  | _ => none
/-- the program's two dicts -/
structure RelP (H : Hp) (aa so : Addr) (F : Fx) (k : Nat) : Prop where
  al : DAt H aa (fA F) k
  so : ∃ ψ, DAt H so ψ k ∧ (∀ n, F n = .non0 → ψ n = some (.bl true)) ∧ ∀ n, (F n = .no ∨ ∃ m, F n = .nm m) → ψ n = none
/-- the law's two dicts -/
structure RelL (H : Hp) (ka la : Addr) (F : Fx) (k : Nat) : Prop where
  ka : DAt H ka (fK F) k
  la : DAt H la (fL F) k
theorem r_law_give {ka la : Addr} {F : Fx} {k : Nat} {s : Src} (h : RelL H ka la F k) (ok : FOk F) (q : Q (rootF F s).v H) : sp_law_give g [s.v, .ref ka, .ref la] H Q E := by
  refine ⟨_, _, _, rfl, ?_⟩
  unfold t_law_give
  cases s with
  | num i =>
    simp only [Src.v]
    walk_at "rd"
    exact q
  | nm n =>
    simp only [Src.v]
    walk_at "rd"
    refine ⟨e_is h.la, ?_⟩
    walk_at "rd"
    refine ⟨_, _, .inr _, rfl, h.la.lies, rfl, ?_⟩
    rw [h.la.val]
    have second : ∀ (m : Str), fK F n = none ∨ fK F n = some (.int (-1)) → rootF F (.nm n) = (match F m with | .num i => .num i | _ => .nm m) → tSeq (tIfS (tTest (tOp (rGe) (tDG2 (tVar 1) (tVar 0) (tUn rNeg (tC (.int 1)))) (tC (.int 0)))) (tRet (tOp (rIxA g.K) (tVar 1) (tVar 0))) (tNext)) (tSeq (tIfS (tTest (tOp (rGe) (tDG2 (tVar 1) (tVar 3) (tUn rNeg (tC (.int 1)))) (tC (.int 0)))) (tRet (tOp (rIxA g.K) (tVar 1) (tVar 3))) (tNext)) (tRet (tVar 3))) ⟨fun _ H1 => Q .non H1, Q, fun _ _ => False, fun _ _ => False⟩ [some (.str n), some (.ref ka), some (.ref la), some (.str m)] H := fun m e1 e2 => by
      rw [e2] at q
      walk_at "rd"
      refine ⟨e_is h.ka, ?_⟩
      walk_at "rd"
      refine ⟨_, _, .inr _, rfl, h.ka.lies, rfl, ?_⟩
      rw [h.ka.val]
      have e3 : (fK F n).getD (V.int (-1)) = .int (-1) := by rcases e1 with e1 | e1 <;> rw [e1] <;> rfl
      rw [e3]
      walk_at "rd"
      refine ⟨e_is h.ka, ?_⟩
      walk_at "rd"
      refine ⟨_, _, .inr _, rfl, h.ka.lies, rfl, ?_⟩
      rw [h.ka.val]
      cases hm : F m with
      | num i =>
        rw [hm] at q
        have h0 := (ok.num m i hm).1
        have e4 : fK F m = some (.int i) := by simp only [fK, hm]
        rw [e4]
        show rGe (.int i) _ _ _
        walk_at "rd"
        exact v_ixDat h.ka e4 q
      | non0 =>
        rw [hm] at q
        have e4 : fK F m = some (.int (-1)) := by simp only [fK, hm]
        rw [e4]
        show rGe (.int (-1)) _ _ _
        walk_at "rd"
        exact q
      | no =>
        rw [hm] at q
        have e4 : fK F m = none := by simp only [fK, hm]
        rw [e4]
        show rGe (.int (-1)) _ _ _
        walk_at "rd"
        exact q
      | nm k2 =>
        rw [hm] at q
        have e4 : fK F m = none := by simp only [fK, hm]
        rw [e4]
        show rGe (.int (-1)) _ _ _
        walk_at "rd"
        exact q
    cases hF : F n with
    | no =>
      have e1 : fL F n = none := by simp only [fL, hF]
      rw [e1]
      exact second n (.inl (by simp only [fK, hF])) (by simp only [rootF, hF])
    | non0 =>
      have e1 : fL F n = none := by simp only [fL, hF]
      rw [e1]
      exact second n (.inr (by simp only [fK, hF])) (by simp only [rootF, hF])
    | nm m =>
      have e1 : fL F n = some (.str m) := by simp only [fL, hF]
      rw [e1]
      exact second m (.inl (by simp only [fK, hF])) (by simp only [rootF, hF])
    | num i =>
      have e1 : fL F n = none := by simp only [fL, hF]
      rw [e1]
      have h0 := (ok.num n i hF).1
      have e4 : fK F n = some (.int i) := by simp only [fK, hF]
      have e5 : rootF F (.nm n) = .num i := by simp only [rootF, hF]
      rw [e5] at q
      show tSeq _ _ _ [some (.str n), some (.ref ka), some (.ref la), some (.str n)] H
      walk_at "rd"
      refine ⟨e_is h.ka, ?_⟩
      walk_at "rd"
      refine ⟨_, _, .inr _, rfl, h.ka.lies, rfl, ?_⟩
      rw [h.ka.val]
      rw [e4]
      show rGe (.int i) _ _ _
      walk_at "rd"
      exact v_ixDat h.ka e4 q
/-! ## the program's class -/
structure FcOk (g : En) : Prop where
  cl : Cls g.K g.fc
  a : NoAttr g.K g.fc "alike"
  s : NoAttr g.K g.fc "some"
def FObj (g : En) (H : Hp) (fo dx aa so : Addr) : Prop := H fo = some (.ins g.fc dx [("alike", .ref aa), ("some", .ref so)])
theorem k_alike {i : Nat} {fo dx aa so : Addr} (fc : FcOk g) (h : FObj g H fo dx aa so) (hs : σ[i]? = some (some (.ref fo))) (q : Q (.ref aa) H) : tFld g.K (tVar i) "alike" σ H Q := ⟨_, hs, fo, g.fc, dx, _, _, rfl, h, fc.cl, fc.a, rfl, q⟩
theorem k_some {i : Nat} {fo dx aa so : Addr} (fc : FcOk g) (h : FObj g H fo dx aa so) (hs : σ[i]? = some (some (.ref fo))) (q : Q (.ref so) H) : tFld g.K (tVar i) "some" σ H Q := ⟨_, hs, fo, g.fc, dx, _, _, rfl, h, fc.cl, fc.s, rfl, q⟩
theorem r_root {fo dx aa so : Addr} {F : Fx} {k : Nat} {s : Src} (fc : FcOk g) (ho : FObj g H fo dx aa so) (h : RelP H aa so F k) (ok : FOk F) (q : Q (rootF F s).v H) : sp_Facts_root g [.ref fo, s.v] H Q E := by
  refine ⟨_, _, rfl, ?_⟩
  unfold t_Facts_root
  cases s with
  | num i =>
    simp only [Src.v]
    walk_at "rd"
    exact q
  | nm n =>
    simp only [Src.v]
    walk_at "rd"
    refine k_alike fc ho rfl ?_
    refine ⟨e_is h.al, ?_⟩
    walk_at "rd"
    refine ⟨_, _, .inr _, rfl, h.al.lies, rfl, ?_⟩
    rw [h.al.val]
    cases hF : F n with
    | num i =>
      have e1 : fA F n = some (.int i) := by simp only [fA, hF]
      have e5 : rootF F (.nm n) = .num i := by simp only [rootF, hF]
      rw [e5] at q
      rw [e1]
      show tSeq _ _ _ [some (.ref fo), some (.str n), some (.int i)] H
      walk_at "rd"
      exact q
    | nm m =>
      have e1 : fA F n = some (.str m) := by simp only [fA, hF]
      rw [e1]
      show tSeq _ _ _ [some (.ref fo), some (.str n), some (.str m)] H
      walk_at "rd"
      refine k_alike fc ho rfl ?_
      refine ⟨e_is h.al, ?_⟩
      walk_at "rd"
      refine ⟨_, _, .inr _, rfl, h.al.lies, rfl, ?_⟩
      rw [h.al.val]
      have e5 : rootF F (.nm n) = (match F m with | .num i => .num i | _ => .nm m) := by simp only [rootF, hF]
      rw [e5] at q
      cases hm : F m with
      | num i => rw [hm] at q; rw [show fA F m = some (.int i) by simp only [fA, hm]]; exact q
      | nm k2 => exact absurd hm (ok.one n m hF k2)
      | no => rw [hm] at q; rw [show fA F m = none by simp only [fA, hm]]; exact q
      | non0 => rw [hm] at q; rw [show fA F m = none by simp only [fA, hm]]; exact q
    | _ =>
      have e1 : fA F n = none := by simp only [fA, hF]
      have e5 : rootF F (.nm n) = .nm n := by simp only [rootF, hF]
      rw [e5] at q
      rw [e1]
      show tSeq _ _ _ [some (.ref fo), some (.str n), some (.str n)] H
      walk_at "rd"
      refine k_alike fc ho rfl ?_
      refine ⟨e_is h.al, ?_⟩
      walk_at "rd"
      refine ⟨_, _, .inr _, rfl, h.al.lies, rfl, ?_⟩
      rw [h.al.val]
      rw [e1]
      exact q

end Tf

namespace Tf
open PySem L2
local macro_rules | `(tactic| walk_at "hl") => `(tactic| first
  | assumption
  | exact SqL.of (by walk_at "hh")
  | exact Same.seq (New.sm (by assumption)) (by walk_at "hl")
  | exact Same.seq (NewX.sm (by assumption)) (by walk_at "hl")
  | exact Same.seq (by assumption) (by walk_at "hl"))
local macro_rules | `(tactic| walk_at "ht") => `(tactic| first
  | assumption
  | exact SqT.of (by walk_at "hh")
  | exact Same.tup (New.sm (by assumption)) (by walk_at "ht")
  | exact Same.tup (NewX.sm (by assumption)) (by walk_at "ht")
  | exact Same.tup (by assumption) (by walk_at "ht"))
local macro_rules | `(tactic| walk_at "hr") => `(tactic| first
  | assumption
  | exact Or.inl (by walk_at "hh")
  | exact Same.rd (New.sm (by assumption)) (by walk_at "hr")
  | exact Same.rd (NewX.sm (by assumption)) (by walk_at "hr")
  | exact Same.rd (by assumption) (by walk_at "hr"))
local macro_rules | `(tactic| walk_at "hh") => `(tactic| first
  | assumption
  | exact New.at_ (by assumption)
  | exact NewX.at_ (by assumption)
  | exact Wr.at_ (by assumption)
  | exact Same.get (New.sm (by assumption)) (by walk_at "hh")
  | exact Same.get (NewX.sm (by assumption)) (by walk_at "hh")
  | exact Same.get (by assumption) (by walk_at "hh"))
local macro_rules | `(tactic| walk_at "sm") => `(tactic| first
  | exact Same.refl _
  | assumption
  | exact Same.tr2 (New.sm (by assumption)) (by walk_at "sm")
  | exact Same.tr2 (NewX.sm (by assumption)) (by walk_at "sm")
  | exact Same.tr2 (by assumption) (by walk_at "sm"))
local macro_rules | `(tactic| walk_at "ix") => `(tactic| with_reducible first | exact at0 | exact at1 | exact at2 | exact at3 | exact at4 | exact at5 | exact at6 | exact at7)
local macro_rules | `(tactic| walk_at "tyx") => `(tactic| first
  | exact TyX.base (TyOf.int _) | exact TyX.base (TyOf.str _) | exact TyX.base (TyOf.bl _) | exact TyX.base TyOf.non
  | exact TyX.base (TyOf.lst (by walk_at "hh")) | exact TyX.base (TyOf.tup (by walk_at "hh")) | exact TyX.base (TyOf.dK (by walk_at "hh")))
local macro_rules | `(tactic| walk_at "cond") => `(tactic| first | assumption | exact rfl | decide +kernel | omega | (simp only [List.length_cons, List.length_nil]; omega))
local macro_rules | `(tactic| walk_at "rd1") => `(tactic| first
  | with_reducible refine Rd.go ?_
  | ((with_reducible refine' k_var ?rdh ?_); (case rdh => exact rfl))
  | ((with_reducible refine' k_gt2 ?rdh ?_); (case rdh => walk_at "ht"))
  | ((with_reducible refine' v_mod ?rdh ?_); (case rdh => first | decide | omega))
  | ((with_reducible refine' v_fdiv ?rdh ?_); (case rdh => exact ⟨by decide, by decide⟩))
  | ((with_reducible refine' v_mulI ?rdh ?_); (case rdh => first | exact .inl ⟨by omega, by omega⟩ | exact .inr ⟨by omega, by omega⟩))
  | ((with_reducible refine' v_isiT ?rdh ?rdk ?_); (case rdh => walk_at "tyx"); (case rdk => decide +kernel))
  | ((with_reducible refine' v_isiF ?rdh ?rdk ?_); (case rdh => walk_at "tyx"); (case rdk => decide +kernel))
  | ((with_reducible refine' v_ixT ?rdh ?rdk ?_); (case rdh => walk_at "ht"); (case rdk => walk_at "ix"))
  | ((with_reducible refine' v_ixL ?rdh ?rdk ?_); (case rdh => walk_at "hl"); (case rdk => walk_at "ix"))
  | ((with_reducible refine' v_lenL ?rdh ?_); (case rdh => walk_at "hl"))
  | ((with_reducible refine' v_lenT ?rdh ?_); (case rdh => walk_at "ht"))
  | ((with_reducible refine' v_lenD ?rdh ?_); (case rdh => walk_at "hh"))
  | ((with_reducible refine' i_dT ?rdh ?_); (case rdh => walk_at "cond"))
  | ((with_reducible refine' i_dF ?rdh ?_); (case rdh => walk_at "cond"))
  | ((with_reducible refine' i_nT ?rdh ?_); (case rdh => walk_at "cond"))
  | ((with_reducible refine' i_nF ?rdh ?_); (case rdh => walk_at "cond"))
  | ((with_reducible refine' i_bT ?rdh ?_); (case rdh => first | assumption | decide +kernel))
  | ((with_reducible refine' i_bF ?rdh ?_); (case rdh => first | assumption | decide +kernel)))
local macro_rules | `(tactic| walk_at "rd") => `(tactic| repeat walk_at "rd1")

variable {g : En} {H H0 H1 H2 : Hp} {Q : VK} {E : XK} {a b p l d aa so fo dx : Addr} {ns ms : List Str} {e e1 e2 : En0} {r : R} {rs : List R} {σ : L2.St} {F : Fx} {k : Nat}
/-- all but two objects stay -/
def Ext (H : Hp) (a b : Addr) (H2 : Hp) : Prop := ∀ c, c ≠ a → c ≠ b → ∀ u, H c = some u → H2 c = some u
theorem Ext.of (s : Same H H2) : Ext H a b H2 := fun c _ _ u h => s c u h
theorem Ext.trans {H3 : Hp} (x : Ext H a b H2) (y : Ext H2 a b H3) : Ext H a b H3 := fun c n1 n2 u h => y c n1 n2 u (x c n1 n2 u h)
theorem Ext.wa {o : HO} (w : Wr H a o H2) : Ext H a b H2 := fun c n1 n2 u h => by rw [w.el c n1]; exact h
theorem Ext.wb {o : HO} (w : Wr H b o H2) : Ext H a b H2 := fun c n1 n2 u h => by rw [w.el c n2]; exact h
theorem Ext.base (x : Ext H a b H2) (s : Same H0 H) (fa : H0 a = none) (fb : H0 b = none) : Same H0 H2 := fun c u h => x c (ne_of_none h fa) (ne_of_none h fb) u (s c u h)
def isDk : HO → Bool
  | .dK _ => true
  | _ => false
theorem Ext.nd {u v w : HO} (x : Ext H a b H2) (ha : H a = some u) (hb : H b = some v) (iu : isDk u = true) (iv : isDk v = true) {c : Addr} (h : H c = some w) (iw : isDk w = false) : H2 c = some w := by
  refine x c (ne_of h ha ?_) (ne_of h hb ?_) w h
  · intro z; rw [z, iu] at iw; cases iw
  · intro z; rw [z, iv] at iw; cases iw
theorem DAt.isD {φ : Str → Option V} (h : DAt H a φ k) : ∃ u, H a = some u ∧ isDk u = true := ⟨_, h.lies, rfl⟩
theorem Ext.ndD {φ ψ : Str → Option V} {j : Nat} {w : HO} (x : Ext H a b H2) (ha : DAt H a φ k) (hb : DAt H b ψ j) {c : Addr} (h : H c = some w) (iw : isDk w = false) : H2 c = some w := x.nd ha.lies hb.lies rfl rfl h iw
def cutF (φ : Str → Option V) (n : Str) (xs : List Str) : Str → Option V := fun m => if m ∈ xs ∧ φ m = some (.str n) then none else φ m
theorem cutF_nil {φ : Str → Option V} {n : Str} : ∀ m, φ m = cutF φ n [] m := fun m => (if_neg (fun h => by cases h.1)).symm
theorem cutF_pop {φ : Str → Option V} {n o : Str} {xs : List Str} (h : φ o = some (.str n)) : ∀ m, (if m = o then none else cutF φ n xs m) = cutF φ n (xs ++ [o]) m := fun m => by
  unfold cutF
  by_cases c : m = o
  · subst c
    rw [if_pos rfl, if_pos ⟨List.mem_append.mpr (.inr (List.mem_singleton.mpr rfl)), h⟩]
  · rw [if_neg c]
    by_cases c2 : m ∈ xs ∧ φ m = some (.str n)
    · rw [if_pos c2, if_pos ⟨List.mem_append.mpr (.inl c2.1), c2.2⟩]
    · rw [if_neg c2, if_neg fun z => c2 ⟨(List.mem_append.mp z.1).elim id fun y => absurd (List.mem_singleton.mp y) c, z.2⟩]
theorem cutF_stay {φ : Str → Option V} {n o : Str} {xs : List Str} (h : ¬ φ o = some (.str n)) : ∀ m, cutF φ n xs m = cutF φ n (xs ++ [o]) m := fun m => by
  unfold cutF
  by_cases c2 : m ∈ xs ∧ φ m = some (.str n)
  · rw [if_pos c2, if_pos ⟨List.mem_append.mpr (.inl c2.1), c2.2⟩]
  · rw [if_neg c2, if_neg fun z => c2 ⟨(List.mem_append.mp z.1).elim id fun y => absurd (by rw [← List.mem_singleton.mp y]; exact z.2) h, z.2⟩]
theorem cutF_all {φ : Str → Option V} {n : Str} {xs : List Str} (h : ∀ m, m ∈ xs ↔ (φ m).isSome = true) : ∀ m, cutF φ n xs m = if φ m = some (.str n) then none else φ m := fun m => by
  unfold cutF
  by_cases c : φ m = some (.str n)
  · rw [if_pos ⟨(h m).mpr (by rw [c]; rfl), c⟩, if_pos c]
  · rw [if_neg (fun z => c z.2), if_neg c]
theorem DAt.names {φ : Str → Option V} (h : DAt H a φ k) : ∃ ns : List Str, h.kv.map (fun kv => kV kv.1) = ns.map V.str ∧ ns.Nodup ∧ (∀ n, n ∈ ns ↔ (φ n).isSome = true) := by
  obtain ⟨ns, h1, h2, h3⟩ := h.ex.choose_spec.2.2.2
  refine ⟨ns, ?_, h2, h3⟩
  have e : h.kv.map (fun kv => kV kv.1) = (h.kv.map (·.1)).map kV := by rw [List.map_map]; rfl
  rw [e, show h.kv.map (·.1) = ns.map Sum.inr from h1, List.map_map]
  rfl
/-- the values of facts: numbers and texts -/
theorem fA_flat {n : Str} {v : V} (h : fA F n = some v) : (∃ i, v = .int i) ∨ ∃ m, v = .str m := by
  unfold fA at h
  split at h <;> first | (cases h; exact .inl ⟨_, rfl⟩) | (cases h; exact .inr ⟨_, rfl⟩) | cases h
theorem fL_flat {n : Str} {v : V} (h : fL F n = some v) : ∃ m, v = .str m := by
  unfold fL at h
  split at h <;> first | (cases h; exact ⟨_, rfl⟩) | cases h
theorem fA_forget (n : Str) : ∀ m, (if (if m = n then none else fA F m) = some (.str n) then none else (if m = n then none else fA F m)) = fA (forgetF F n) m := fun m => by
  by_cases c : m = n
  · simp only [if_pos c, fA, forgetF, if_pos c]
    rfl
  · simp only [if_neg c, fA, forgetF]
    cases hF : F m with
    | nm k2 =>
      by_cases c2 : k2 = n
      · subst c2
        simp
      · have c3 : ¬ Fact.nm k2 = Fact.nm n := fun z => c2 (by cases z; rfl)
        simp [c2]
    | _ => simp
theorem fL_forget (n : Str) : ∀ m, (if (if m = n then none else fL F m) = some (.str n) then none else (if m = n then none else fL F m)) = fL (forgetF F n) m := fun m => by
  by_cases c : m = n
  · simp only [if_pos c, fL, forgetF, if_pos c]
    rfl
  · simp only [if_neg c, fL, forgetF]
    cases hF : F m with
    | nm k2 =>
      by_cases c2 : k2 = n
      · subst c2
        simp
      · simp [c2]
    | _ => simp
theorem fK_forget (n : Str) : ∀ m, (if m = n then none else fK F m) = fK (forgetF F n) m := fun m => by
  by_cases c : m = n
  · simp only [if_pos c, fK, forgetF, if_pos c]
  · simp only [if_neg c, fK, forgetF]
    cases hF : F m with
    | nm k2 =>
      by_cases c2 : k2 = n
      · subst c2
        simp
      · simp [c2]
    | _ => simp

end Tf

namespace Tf
open PySem L2
local macro_rules | `(tactic| walk_at "hl") => `(tactic| first
  | assumption
  | exact SqL.of (by walk_at "hh")
  | exact Same.seq (New.sm (by assumption)) (by walk_at "hl")
  | exact Same.seq (NewX.sm (by assumption)) (by walk_at "hl")
  | exact Same.seq (by assumption) (by walk_at "hl"))
local macro_rules | `(tactic| walk_at "ht") => `(tactic| first
  | assumption
  | exact SqT.of (by walk_at "hh")
  | exact Same.tup (New.sm (by assumption)) (by walk_at "ht")
  | exact Same.tup (NewX.sm (by assumption)) (by walk_at "ht")
  | exact Same.tup (by assumption) (by walk_at "ht"))
local macro_rules | `(tactic| walk_at "hr") => `(tactic| first
  | assumption
  | exact Or.inl (by walk_at "hh")
  | exact Same.rd (New.sm (by assumption)) (by walk_at "hr")
  | exact Same.rd (NewX.sm (by assumption)) (by walk_at "hr")
  | exact Same.rd (by assumption) (by walk_at "hr"))
local macro_rules | `(tactic| walk_at "hh") => `(tactic| first
  | assumption
  | exact New.at_ (by assumption)
  | exact NewX.at_ (by assumption)
  | exact Wr.at_ (by assumption)
  | exact Same.get (New.sm (by assumption)) (by walk_at "hh")
  | exact Same.get (NewX.sm (by assumption)) (by walk_at "hh")
  | exact Same.get (by assumption) (by walk_at "hh"))
local macro_rules | `(tactic| walk_at "sm") => `(tactic| first
  | exact Same.refl _
  | assumption
  | exact Same.tr2 (New.sm (by assumption)) (by walk_at "sm")
  | exact Same.tr2 (NewX.sm (by assumption)) (by walk_at "sm")
  | exact Same.tr2 (by assumption) (by walk_at "sm"))
local macro_rules | `(tactic| walk_at "ix") => `(tactic| with_reducible first | exact at0 | exact at1 | exact at2 | exact at3 | exact at4 | exact at5 | exact at6 | exact at7)
local macro_rules | `(tactic| walk_at "tyx") => `(tactic| first
  | exact TyX.base (TyOf.int _) | exact TyX.base (TyOf.str _) | exact TyX.base (TyOf.bl _) | exact TyX.base TyOf.non
  | exact TyX.base (TyOf.lst (by walk_at "hh")) | exact TyX.base (TyOf.tup (by walk_at "hh")) | exact TyX.base (TyOf.dK (by walk_at "hh")))
local macro_rules | `(tactic| walk_at "cond") => `(tactic| first | assumption | exact rfl | decide +kernel | omega | (simp only [List.length_cons, List.length_nil]; omega))
local macro_rules | `(tactic| walk_at "rd1") => `(tactic| first
  | with_reducible refine Rd.go ?_
  | ((with_reducible refine' k_var ?rdh ?_); (case rdh => exact rfl))
  | ((with_reducible refine' k_gt2 ?rdh ?_); (case rdh => walk_at "ht"))
  | ((with_reducible refine' v_mod ?rdh ?_); (case rdh => first | decide | omega))
  | ((with_reducible refine' v_fdiv ?rdh ?_); (case rdh => exact ⟨by decide, by decide⟩))
  | ((with_reducible refine' v_mulI ?rdh ?_); (case rdh => first | exact .inl ⟨by omega, by omega⟩ | exact .inr ⟨by omega, by omega⟩))
  | ((with_reducible refine' v_isiT ?rdh ?rdk ?_); (case rdh => walk_at "tyx"); (case rdk => decide +kernel))
  | ((with_reducible refine' v_isiF ?rdh ?rdk ?_); (case rdh => walk_at "tyx"); (case rdk => decide +kernel))
  | ((with_reducible refine' v_ixT ?rdh ?rdk ?_); (case rdh => walk_at "ht"); (case rdk => walk_at "ix"))
  | ((with_reducible refine' v_ixL ?rdh ?rdk ?_); (case rdh => walk_at "hl"); (case rdk => walk_at "ix"))
  | ((with_reducible refine' v_lenL ?rdh ?_); (case rdh => walk_at "hl"))
  | ((with_reducible refine' v_lenT ?rdh ?_); (case rdh => walk_at "ht"))
  | ((with_reducible refine' v_lenD ?rdh ?_); (case rdh => walk_at "hh"))
  | ((with_reducible refine' i_dT ?rdh ?_); (case rdh => walk_at "cond"))
  | ((with_reducible refine' i_dF ?rdh ?_); (case rdh => walk_at "cond"))
  | ((with_reducible refine' i_nT ?rdh ?_); (case rdh => walk_at "cond"))
  | ((with_reducible refine' i_nF ?rdh ?_); (case rdh => walk_at "cond"))
  | ((with_reducible refine' i_bT ?rdh ?_); (case rdh => first | assumption | decide +kernel))
  | ((with_reducible refine' i_bF ?rdh ?_); (case rdh => first | assumption | decide +kernel)))
local macro_rules | `(tactic| walk_at "rd") => `(tactic| repeat walk_at "rd1")

variable {g : En} {H H0 H1 H2 : Hp} {Q : VK} {E : XK} {a b p l d aa so ka la fo dx : Addr} {ns ms : List Str} {e e1 e2 : En0} {r : R} {rs : List R} {σ : L2.St} {F : Fx} {k : Nat}
theorem DAt.fresh {φ : Str → Option V} {kvs : List (Key × V)} {o : HO} (h : DAt H a φ k) (w : Wr H b o H2) (hb : H b = some (.dK kvs)) (n : a ≠ b) : DAt H2 a φ k := h.keep w n
theorem not_take {xs : List Str} (h : xs.Nodup) {i : Nat} {o : Str} (ho : xs[i]? = some o) : o ∉ xs.take i := by
  obtain ⟨hi, he⟩ := List.getElem?_eq_some_iff.mp ho
  have e : xs.drop i = o :: xs.drop (i + 1) := by rw [List.drop_eq_getElem_cons hi, he]
  rw [← List.take_append_drop i xs, List.nodup_append] at h
  exact fun z => h.2.2 o z o (by rw [e]; exact List.mem_cons.mpr (.inl rfl)) rfl
theorem r_put_anew {n : Str} (h : RelL H ka la F k) (ne : ka ≠ la) (q : ∀ H2, Ext H ka la H2 → RelL H2 ka la (forgetF F n) k → Q .non H2) : sp_law_put_anew g [.str n, .ref ka, .ref la] H Q E := by
  refine ⟨_, _, _, rfl, ?_⟩
  unfold t_law_put_anew
  walk_at "rd"
  refine ⟨e_is h.ka, ?_⟩
  walk_at "rd"
  refine ⟨_, _, .inr _, rfl, h.ka.lies, rfl, fun H1 w1 => ?_⟩
  have dk := (h.ka.drop h.ka.lies w1).cong (fK_forget n)
  have dl := h.la.keep w1 ne.symm
  have x1 : Ext H ka la H1 := Ext.wa w1
  clear w1
  walk_at "rd"
  refine ⟨e_is dl, ?_⟩
  walk_at "rd"
  refine ⟨_, _, .inr _, rfl, dl.lies, rfl, fun H2 w2 => ?_⟩
  have dl2 := dl.drop dl.lies w2
  have dk2 := dk.keep w2 ne
  have x2 : Ext H ka la H2 := x1.trans (Ext.wb w2)
  clear w2 dl dk x1
  walk_at "rd"
  refine v_listD (.inl dl2.lies) fun c H3 n3 => ?_
  obtain ⟨xs, hx1, hx2, hx3⟩ := dl2.names
  rw [hx1] at n3
  have dl3 := dl2.same n3.sm
  have dk3 := dk2.same n3.sm
  have x3 : Ext H ka la H3 := x2.trans (Ext.of n3.sm)
  have hc3 := n3.at_
  refine v_forL (SqL.of hc3) (fun i σ' H' => ∃ x3, σ' = [some (.str n), some (.ref ka), some (.ref la), x3] ∧ Ext H ka la H' ∧ DAt H' ka (fK (forgetF F n)) k ∧ DAt H' la (cutF (fun m => if m = n then none else fL F m) n (xs.take i)) k ∧ H' c = some (.lst (xs.map V.str))) ⟨_, rfl, x3, dk3, dl3.cong cutF_nil, hc3⟩ (fun i σ' H' ⟨_, _, _, _, _, h⟩ => SqL.of h) ?_ ?_
  · rintro i x σ' H4 hx ⟨y3, rfl, x4, dk4, dl4, hc4⟩
    rw [List.getElem?_map] at hx
    obtain ⟨o, ho, rfl⟩ := Option.map_eq_some_iff.mp hx
    have hi := (List.getElem?_eq_some_iff.mp ho).1
    have htake : xs.take (i + 1) = xs.take i ++ [o] := by rw [List.take_add_one, ho]; rfl
    have hnot : o ∉ xs.take i := not_take hx2 ho
    obtain ⟨v, hv⟩ := Option.isSome_iff_exists.mp ((hx3 o).mp (List.mem_of_getElem? ho))
    have hcut : cutF (fun m => if m = n then none else fL F m) n (xs.take i) o = some v := by
      unfold cutF
      rw [if_neg (fun z => hnot z.1)]
      exact hv
    obtain ⟨m2, rfl⟩ : ∃ m2, v = .str m2 := by
      by_cases c : o = n
      · simp only [if_pos c] at hv
        cases hv
      · simp only [if_neg c] at hv
        exact fL_flat hv
    walk_at "rd"
    refine v_ixDat dl4 hcut ?_
    walk_at "rd"
    refine i_d (fun c2 => ?_) (fun c2 => ?_)
    · subst c2
      walk_at "rd"
      refine ⟨e_is dl4, ?_⟩
      walk_at "rd"
      refine ⟨_, _, .inr _, _, rfl, dl4.lies, rfl, by rw [dl4.val]; exact hcut, fun H5 w5 => ?_⟩
      have ex5 : Ext H4 ka la H5 := Ext.wb w5
      refine ⟨_, rfl, x4.trans ex5, dk4.keep w5 ne, ?_, ex5.ndD dk4 dl4 hc4 rfl⟩
      rw [htake]
      exact (dl4.drop dl4.lies w5).cong (cutF_pop hv)
    · walk_at "rd"
      refine ⟨_, rfl, x4, dk4, ?_, hc4⟩
      rw [htake]
      exact dl4.cong (cutF_stay (φ := fun m => if m = n then none else fL F m) (o := o) fun z => c2 (by
        have z' := hv.symm.trans z
        cases z'
        rfl))
  · rintro σ' H4 ⟨y3, rfl, x4, dk4, dl4, hc4⟩
    rw [List.length_map, List.take_length] at dl4
    exact q H4 x4 ⟨dk4, (dl4.cong (cutF_all hx3)).cong (fL_forget n)⟩

theorem fA_other {n : Str} : ∀ m, fA (forgetF F n) m = fA (forgetF F n) m := fun _ => rfl
theorem r_forget {n : Str} (fc : FcOk g) (ho : FObj g H fo dx aa so) (h : RelP H aa so F k) (ne : aa ≠ so) (q : ∀ H2, Ext H aa so H2 → RelP H2 aa so (forgetF F n) k → Q .non H2) : sp_Facts_forget g [.ref fo, .str n] H Q E := by
  refine ⟨_, _, rfl, ?_⟩
  unfold t_Facts_forget
  obtain ⟨ψ, ds, p1, p2⟩ := h.so
  have da := h.al
  walk_at "rd"
  refine k_alike fc ho rfl ?_
  refine ⟨e_is da, ?_⟩
  walk_at "rd"
  refine ⟨_, _, .inr _, rfl, da.lies, rfl, fun H1 w1 => ?_⟩
  have x1 : Ext H aa so H1 := Ext.wa w1
  have ho1 : FObj g H1 fo dx aa so := x1.ndD da ds ho rfl
  have da1 := da.drop da.lies w1
  have ds1 := ds.keep w1 ne.symm
  clear w1
  walk_at "rd"
  refine k_some fc ho1 rfl ?_
  refine ⟨e_is ds1, ?_⟩
  walk_at "rd"
  refine ⟨_, _, .inr _, rfl, ds1.lies, rfl, fun H2 w2 => ?_⟩
  have x2' : Ext H1 aa so H2 := Ext.wb w2
  have ho2 : FObj g H2 fo dx aa so := x2'.ndD da1 ds1 ho1 rfl
  have ds2 := ds1.drop ds1.lies w2
  have da2 := da1.keep w2 ne
  have x2 := x1.trans x2'
  clear w2 da1 ds1 x1 x2' ho1
  walk_at "rd"
  refine k_alike fc ho2 rfl ?_
  walk_at "rd"
  refine v_listD (.inl da2.lies) fun c H3 n3 => ?_
  obtain ⟨xs, hx1, hx2, hx3⟩ := da2.names
  rw [hx1] at n3
  have da3 := da2.same n3.sm
  have ds3 := ds2.same n3.sm
  have x3 : Ext H aa so H3 := x2.trans (Ext.of n3.sm)
  have ho3 : FObj g H3 fo dx aa so := n3.sm _ _ ho2
  have hc3 := n3.at_
  refine v_forL (SqL.of hc3) (fun i σ' H' => ∃ x3, σ' = [some (.ref fo), some (.str n), x3] ∧ Ext H aa so H' ∧ FObj g H' fo dx aa so ∧ DAt H' so (fun m => if m = n then none else ψ m) k ∧ DAt H' aa (cutF (fun m => if m = n then none else fA F m) n (xs.take i)) k ∧ H' c = some (.lst (xs.map V.str))) ⟨_, rfl, x3, ho3, ds3, da3.cong cutF_nil, hc3⟩ (fun i σ' H' ⟨_, _, _, _, _, _, h⟩ => SqL.of h) ?_ ?_
  · rintro i x σ' H4 hx ⟨y3, rfl, x4, ho4, ds4, da4, hc4⟩
    rw [List.getElem?_map] at hx
    obtain ⟨o, ho, rfl⟩ := Option.map_eq_some_iff.mp hx
    have htake : xs.take (i + 1) = xs.take i ++ [o] := by rw [List.take_add_one, ho]; rfl
    have hnot : o ∉ xs.take i := not_take hx2 ho
    obtain ⟨v, hv⟩ := Option.isSome_iff_exists.mp ((hx3 o).mp (List.mem_of_getElem? ho))
    have hcut : cutF (fun m => if m = n then none else fA F m) n (xs.take i) o = some v := by
      unfold cutF
      rw [if_neg (fun z => hnot z.1)]
      exact hv
    have hflat : (∃ i, v = .int i) ∨ ∃ m2, v = .str m2 := by
      by_cases c : o = n
      · simp only [if_pos c] at hv
        cases hv
      · simp only [if_neg c] at hv
        exact fA_flat hv
    walk_at "rd"
    refine k_alike fc ho4 rfl ?_
    walk_at "rd"
    refine v_ixDat da4 hcut ?_
    rcases hflat with ⟨j, rfl⟩ | ⟨m2, rfl⟩
    · walk_at "rd"
      refine ⟨_, rfl, x4, ho4, ds4, ?_, hc4⟩
      rw [htake]
      exact da4.cong (cutF_stay (φ := fun m => if m = n then none else fA F m) (o := o) fun z => by
        have z' := hv.symm.trans z
        cases z')
    · walk_at "rd"
      refine i_d (fun c2 => ?_) (fun c2 => ?_)
      · subst c2
        walk_at "rd"
        refine k_alike fc ho4 rfl ?_
        refine ⟨e_is da4, ?_⟩
        walk_at "rd"
        refine ⟨_, _, .inr _, _, rfl, da4.lies, rfl, by rw [da4.val]; exact hcut, fun H5 w5 => ?_⟩
        have ex5 : Ext H4 aa so H5 := Ext.wa w5
        refine ⟨_, rfl, x4.trans ex5, ex5.ndD da4 ds4 ho4 rfl, ds4.keep w5 ne.symm, ?_, ex5.ndD da4 ds4 hc4 rfl⟩
        rw [htake]
        exact (da4.drop da4.lies w5).cong (cutF_pop hv)
      · walk_at "rd"
        refine ⟨_, rfl, x4, ho4, ds4, ?_, hc4⟩
        rw [htake]
        exact da4.cong (cutF_stay (φ := fun m => if m = n then none else fA F m) (o := o) fun z => c2 (by
          have z' := hv.symm.trans z
          cases z'
          rfl))
  · rintro σ' H4 ⟨y3, rfl, x4, ho4, ds4, da4, hc4⟩
    rw [List.length_map, List.take_length] at da4
    refine q H4 x4 ⟨(da4.cong (cutF_all hx3)).cong (fA_forget n), _, ds4, fun m hm => ?_, fun m hm => ?_⟩
    · by_cases c : m = n
      · simp only [forgetF, if_pos c] at hm
        cases hm
      · simp only [if_neg c]
        simp only [forgetF, if_neg c] at hm
        split at hm
        · cases hm
        · exact p1 m hm
    · by_cases c : m = n
      · simp only [if_pos c]
      · simp only [if_neg c]
        simp only [forgetF, if_neg c] at hm
        split at hm
        · rename_i c2
          exact p2 m (.inr ⟨_, c2⟩)
        · exact p2 m hm

end Tf

namespace Tf
open PySem L2
local macro_rules | `(tactic| walk_at "hl") => `(tactic| first
  | assumption
  | exact SqL.of (by walk_at "hh")
  | exact Same.seq (New.sm (by assumption)) (by walk_at "hl")
  | exact Same.seq (NewX.sm (by assumption)) (by walk_at "hl")
  | exact Same.seq (by assumption) (by walk_at "hl"))
local macro_rules | `(tactic| walk_at "ht") => `(tactic| first
  | assumption
  | exact SqT.of (by walk_at "hh")
  | exact Same.tup (New.sm (by assumption)) (by walk_at "ht")
  | exact Same.tup (NewX.sm (by assumption)) (by walk_at "ht")
  | exact Same.tup (by assumption) (by walk_at "ht"))
local macro_rules | `(tactic| walk_at "hr") => `(tactic| first
  | assumption
  | exact Or.inl (by walk_at "hh")
  | exact Same.rd (New.sm (by assumption)) (by walk_at "hr")
  | exact Same.rd (NewX.sm (by assumption)) (by walk_at "hr")
  | exact Same.rd (by assumption) (by walk_at "hr"))
local macro_rules | `(tactic| walk_at "hh") => `(tactic| first
  | assumption
  | exact New.at_ (by assumption)
  | exact NewX.at_ (by assumption)
  | exact Wr.at_ (by assumption)
  | exact Same.get (New.sm (by assumption)) (by walk_at "hh")
  | exact Same.get (NewX.sm (by assumption)) (by walk_at "hh")
  | exact Same.get (by assumption) (by walk_at "hh"))
local macro_rules | `(tactic| walk_at "sm") => `(tactic| first
  | exact Same.refl _
  | assumption
  | exact Same.tr2 (New.sm (by assumption)) (by walk_at "sm")
  | exact Same.tr2 (NewX.sm (by assumption)) (by walk_at "sm")
  | exact Same.tr2 (by assumption) (by walk_at "sm"))
local macro_rules | `(tactic| walk_at "ix") => `(tactic| with_reducible first | exact at0 | exact at1 | exact at2 | exact at3 | exact at4 | exact at5 | exact at6 | exact at7)
local macro_rules | `(tactic| walk_at "tyx") => `(tactic| first
  | exact TyX.base (TyOf.int _) | exact TyX.base (TyOf.str _) | exact TyX.base (TyOf.bl _) | exact TyX.base TyOf.non
  | exact TyX.base (TyOf.lst (by walk_at "hh")) | exact TyX.base (TyOf.tup (by walk_at "hh")) | exact TyX.base (TyOf.dK (by walk_at "hh")))
local macro_rules | `(tactic| walk_at "cond") => `(tactic| first | assumption | exact rfl | decide +kernel | omega | (simp only [List.length_cons, List.length_nil]; omega))
local macro_rules | `(tactic| walk_at "rd1") => `(tactic| first
  | with_reducible refine Rd.go ?_
  | ((with_reducible refine' k_var ?rdh ?_); (case rdh => exact rfl))
  | ((with_reducible refine' k_gt2 ?rdh ?_); (case rdh => walk_at "ht"))
  | ((with_reducible refine' v_mod ?rdh ?_); (case rdh => first | decide | omega))
  | ((with_reducible refine' v_fdiv ?rdh ?_); (case rdh => exact ⟨by decide, by decide⟩))
  | ((with_reducible refine' v_mulI ?rdh ?_); (case rdh => first | exact .inl ⟨by omega, by omega⟩ | exact .inr ⟨by omega, by omega⟩))
  | ((with_reducible refine' v_isiT ?rdh ?rdk ?_); (case rdh => walk_at "tyx"); (case rdk => decide +kernel))
  | ((with_reducible refine' v_isiF ?rdh ?rdk ?_); (case rdh => walk_at "tyx"); (case rdk => decide +kernel))
  | ((with_reducible refine' v_ixT ?rdh ?rdk ?_); (case rdh => walk_at "ht"); (case rdk => walk_at "ix"))
  | ((with_reducible refine' v_ixL ?rdh ?rdk ?_); (case rdh => walk_at "hl"); (case rdk => walk_at "ix"))
  | ((with_reducible refine' v_lenL ?rdh ?_); (case rdh => walk_at "hl"))
  | ((with_reducible refine' v_lenT ?rdh ?_); (case rdh => walk_at "ht"))
  | ((with_reducible refine' v_lenD ?rdh ?_); (case rdh => walk_at "hh"))
  | ((with_reducible refine' i_dT ?rdh ?_); (case rdh => walk_at "cond"))
  | ((with_reducible refine' i_dF ?rdh ?_); (case rdh => walk_at "cond"))
  | ((with_reducible refine' i_nT ?rdh ?_); (case rdh => walk_at "cond"))
  | ((with_reducible refine' i_nF ?rdh ?_); (case rdh => walk_at "cond"))
  | ((with_reducible refine' i_bT ?rdh ?_); (case rdh => first | assumption | decide +kernel))
  | ((with_reducible refine' i_bF ?rdh ?_); (case rdh => first | assumption | decide +kernel)))
local macro_rules | `(tactic| walk_at "rd") => `(tactic| repeat walk_at "rd1")

variable {g : En} {H H0 H1 H2 : Hp} {Q : VK} {E : XK} {a b p l d aa so ka la fo dx : Addr} {ns ms : List Str} {e e1 e2 : En0} {r : R} {rs : List R} {σ : L2.St} {F : Fx} {k : Nat}
/-- what stands for itself -/
def IsRoot (F : Fx) : Src → Prop
  | .num i => 0 ≤ i ∧ i < 1000000
  | .nm m => F m = .no ∨ F m = .non0
theorem root_is {s : Src} (ok : FOk F) (h : srcOk s) : IsRoot F (rootF F s) := by
  cases s with
  | num i => exact h
  | nm n =>
    cases hn : F n with
    | num i => rw [show rootF F (.nm n) = .num i by simp only [rootF, hn]]; exact ok.num n i hn
    | no => rw [show rootF F (.nm n) = .nm n by simp only [rootF, hn]]; exact .inl hn
    | non0 => rw [show rootF F (.nm n) = .nm n by simp only [rootF, hn]]; exact .inr hn
    | nm m =>
      cases hm : F m with
      | num i => rw [show rootF F (.nm n) = .num i by simp only [rootF, hn, hm]]; exact ok.num m i hm
      | no => rw [show rootF F (.nm n) = .nm m by simp only [rootF, hn, hm]]; exact .inl hm
      | non0 => rw [show rootF F (.nm n) = .nm m by simp only [rootF, hn, hm]]; exact .inr hm
      | nm m2 => exact absurd hm (ok.one n m hn m2)
theorem FOk.forget (ok : FOk F) (n : Str) : FOk (forgetF F n) := ⟨fun x m h y hy => by
  unfold forgetF at h hy
  split at h
  · cases h
  · split at h
    · cases h
    · split at hy
      · cases hy
      · split at hy
        · cases hy
        · exact ok.one x m h y hy, fun x i h => by
  unfold forgetF at h
  split at h
  · cases h
  · split at h
    · cases h
    · exact ok.num x i h⟩
theorem FOk.set {n : Str} {s : Src} (ok : FOk F) (hs : IsRoot F s) (ne : s ≠ .nm n) : FOk (setF F n s) := ⟨fun x m h y hy => by
  unfold setF at h hy
  split at h
  · cases s with
    | num i => cases h
    | nm m2 =>
      have e : m2 = m := by cases h; rfl
      subst e
      rw [if_neg (fun z => ne (by rw [z]))] at hy
      unfold forgetF at hy
      split at hy
      · cases hy
      · split at hy
        · cases hy
        · rcases hs with hs | hs <;> rw [hs] at hy <;> cases hy
  · have h' := h
    unfold forgetF at h
    split at h
    · cases h
    · split at h
      · cases h
      · rename_i c1 c2
        have c3 : m ≠ n := fun z => c2 (by rw [h, z])
        rw [if_neg c3] at hy
        exact (ok.forget n).one x m h' y hy, fun x i h => by
  unfold setF at h
  split at h
  · cases s with
    | num j => cases h; exact hs
    | nm m2 => cases h
  · exact (ok.forget n).num x i h⟩
theorem FOk.pass {n : Str} {z : Bool} (ok : FOk F) : FOk (passF F n z) := ⟨fun x m h y hy => by
  unfold passF at h hy
  split at h
  · split at h <;> cases h
  · split at hy
    · split at hy <;> cases hy
    · exact ok.one x m h y hy, fun x i h => by
  unfold passF at h
  split at h
  · split at h
    · cases h; omega
    · cases h
  · exact ok.num x i h⟩
theorem v_eqSrc {K : PySem.W.Frag} {s u : Src} (q : Q (.bl (decide (s = u))) H) : rEqA K s.v u.v H Q := by
  cases s with
  | num i =>
    cases u with
    | num j =>
      have e : decide (Src.num i = Src.num j) = decide (i = j) := decide_eq_decide.mpr ⟨fun h => by cases h; rfl, fun h => by rw [h]⟩
      rw [e] at q
      exact v_eqI q
    | nm m => exact v_eqIS (by simpa using q)
  | nm n =>
    cases u with
    | num j => exact v_eqSI (by simpa using q)
    | nm m =>
      have e : decide (Src.nm n = Src.nm m) = decide (n = m) := decide_eq_decide.mpr ⟨fun h => by cases h; rfl, fun h => by rw [h]⟩
      rw [e] at q
      exact v_eqS q
theorem Ext.o (x : Ext H aa so H2) (h : RelP H aa so F k) (ho : FObj g H fo dx aa so) : FObj g H2 fo dx aa so := by
  obtain ⟨ψ, ds, _⟩ := h.so
  exact x.ndD h.al ds ho rfl
theorem fA_set {n : Str} {s : Src} : ∀ m, (if m = n then some s.v else fA (forgetF F n) m) = fA (setF F n s) m := fun m => by
  by_cases c : m = n
  · subst c
    rw [if_pos rfl]
    unfold fA setF
    rw [if_pos rfl]
    cases s <;> rfl
  · rw [if_neg c]
    unfold fA setF
    rw [if_neg c]
theorem r_note {n : Str} {s : Src} (fc : FcOk g) (ho : FObj g H fo dx aa so) (h : RelP H aa so F k) (ne : aa ≠ so) (hk : k ≤ 900) (q : ∀ H2, Ext H aa so H2 → RelP H2 aa so (setF F n s) (k + 1) → Q .non H2) : sp_Facts_note g [.ref fo, .str n, s.v] H Q E := by
  refine ⟨_, _, _, rfl, ?_⟩
  unfold t_Facts_note
  refine k_seq (k_drop ?_)
  refine ⟨_, rfl, fo, dx, _, rfl, ho, rfl, ?_⟩
  walk_at "rd"
  refine r_forget fc ho h ne fun H1 x1 h1 => ?_
  have ho1 := x1.o h ho
  obtain ⟨ψ, ds, p1, p2⟩ := h1.so
  have da := h1.al
  walk_at "rd"
  refine k_alike fc ho1 rfl ?_
  walk_at "rd"
  refine e_putD da hk fun H2 w _ d2 => ?_
  have ds2 := ds.only w ne.symm
  refine q H2 (x1.trans fun c n1 n2 u hu => by rw [w c n1]; exact hu) ⟨d2.cong fA_set, ψ, ds2.mono (Nat.le_succ _), fun m hm => ?_, fun m hm => ?_⟩
  · by_cases c : m = n
    · subst c
      unfold setF at hm
      rw [if_pos rfl] at hm
      cases s <;> cases hm
    · unfold setF at hm
      rw [if_neg c] at hm
      exact p1 m hm
  · by_cases c : m = n
    · subst c
      exact p2 m (.inl (by unfold forgetF; rw [if_pos rfl]))
    · unfold setF at hm
      rw [if_neg c] at hm
      exact p2 m hm
theorem r_passed {n : Str} {z : Bool} (fc : FcOk g) (ho : FObj g H fo dx aa so) (h : RelP H aa so F k) (ne : aa ≠ so) (hk : k ≤ 900) (hn : F n = .no ∨ F n = .non0) (q : ∀ H2, Ext H aa so H2 → RelP H2 aa so (passF F n z) (k + 1) → Q .non H2) : sp_Facts_passed g [.ref fo, .str n, .bl z] H Q E := by
  refine ⟨_, _, _, rfl, ?_⟩
  unfold t_Facts_passed
  obtain ⟨ψ, ds, p1, p2⟩ := h.so
  have da := h.al
  have notA : fA F n = none := by rcases hn with hn | hn <;> simp only [fA, hn]
  walk_at "rd"
  refine i_b (fun hz => ?_) (fun hz => ?_)
  · subst hz
    walk_at "rd"
    refine k_alike fc ho rfl ?_
    walk_at "rd"
    refine e_putD da hk fun H2 w _ d2 => ?_
    refine q H2 (fun c n1 n2 u hu => by rw [w c n1]; exact hu) ⟨d2.cong fun m => ?_, ψ, (ds.only w ne.symm).mono (Nat.le_succ _), fun m hm => ?_, fun m hm => ?_⟩
    · by_cases c : m = n
      · simp only [if_pos c, fA, passF]; rfl
      · simp only [if_neg c, fA, passF]
    · by_cases c : m = n
      · simp only [if_pos c, passF] at hm; cases hm
      · simp only [if_neg c, passF] at hm; exact p1 m hm
    · by_cases c : m = n
      · simp only [if_pos c, passF] at hm
        rcases hm with hm | ⟨_, hm⟩ <;> cases hm
      · simp only [if_neg c, passF] at hm; exact p2 m hm
  · subst hz
    walk_at "rd"
    refine k_some fc ho rfl ?_
    walk_at "rd"
    refine e_putD ds hk fun H2 w _ d2 => ?_
    refine q H2 (fun c n1 n2 u hu => by rw [w c n2]; exact hu) ⟨((da.only w ne).mono (Nat.le_succ _)).cong fun m => ?_, _, d2, fun m hm => ?_, fun m hm => ?_⟩
    · by_cases c : m = n
      · subst c
        rw [notA]
        simp [fA, passF]
      · simp only [fA, passF, if_neg c]
    · by_cases c : m = n
      · simp only [if_pos c]
      · simp only [if_neg c, passF] at hm ⊢; exact p1 m hm
    · by_cases c : m = n
      · simp only [if_pos c, passF] at hm
        rcases hm with hm | ⟨_, hm⟩ <;> simp at hm
      · simp only [if_neg c, passF] at hm ⊢; exact p2 m hm
theorem r_holds {s : Src} {z : Bool} (fc : FcOk g) (ho : FObj g H fo dx aa so) (h : RelP H aa so F k) (hs : IsRoot F s) (q : Q (.bl (holdsF F s z)) H) : sp_Facts_holds g [.ref fo, s.v, .bl z] H Q E := by
  refine ⟨_, _, _, rfl, ?_⟩
  unfold t_Facts_holds
  obtain ⟨ψ, ds, p1, p2⟩ := h.so
  cases s with
  | num i =>
    simp only [Src.v]
    walk_at "rd"
    exact q
  | nm n =>
    simp only [Src.v]
    walk_at "rd"
    refine i_b (fun hz => ?_) (fun hz => ?_)
    · have hz' : z = false := by simpa using hz
      subst hz'
      walk_at "rd"
      refine k_some fc ho rfl ?_
      refine .inr (.inl ⟨so, _, .inr n, rfl, ds.lies, rfl, ?_⟩)
      rw [ds.val]
      have e : (ψ n).isSome = holdsF F (.nm n) false := by
        show (ψ n).isSome = (!false && decide (F n = .non0))
        rcases hs with hs | hs
        · rw [p2 n (.inl hs), hs]
          rfl
        · rw [p1 n hs, hs]
          rfl
      rw [e]
      exact q
    · have hz' : z = true := by simpa using hz
      subst hz'
      exact q

end Tf

namespace Tf
open PySem L2
local macro_rules | `(tactic| walk_at "hl") => `(tactic| first
  | assumption
  | exact SqL.of (by walk_at "hh")
  | exact Same.seq (New.sm (by assumption)) (by walk_at "hl")
  | exact Same.seq (NewX.sm (by assumption)) (by walk_at "hl")
  | exact Same.seq (by assumption) (by walk_at "hl"))
local macro_rules | `(tactic| walk_at "ht") => `(tactic| first
  | assumption
  | exact SqT.of (by walk_at "hh")
  | exact Same.tup (New.sm (by assumption)) (by walk_at "ht")
  | exact Same.tup (NewX.sm (by assumption)) (by walk_at "ht")
  | exact Same.tup (by assumption) (by walk_at "ht"))
local macro_rules | `(tactic| walk_at "hr") => `(tactic| first
  | assumption
  | exact Or.inl (by walk_at "hh")
  | exact Same.rd (New.sm (by assumption)) (by walk_at "hr")
  | exact Same.rd (NewX.sm (by assumption)) (by walk_at "hr")
  | exact Same.rd (by assumption) (by walk_at "hr"))
local macro_rules | `(tactic| walk_at "hh") => `(tactic| first
  | assumption
  | exact New.at_ (by assumption)
  | exact NewX.at_ (by assumption)
  | exact Wr.at_ (by assumption)
  | exact Same.get (New.sm (by assumption)) (by walk_at "hh")
  | exact Same.get (NewX.sm (by assumption)) (by walk_at "hh")
  | exact Same.get (by assumption) (by walk_at "hh"))
local macro_rules | `(tactic| walk_at "sm") => `(tactic| first
  | exact Same.refl _
  | assumption
  | exact Same.tr2 (New.sm (by assumption)) (by walk_at "sm")
  | exact Same.tr2 (NewX.sm (by assumption)) (by walk_at "sm")
  | exact Same.tr2 (by assumption) (by walk_at "sm"))
local macro_rules | `(tactic| walk_at "ix") => `(tactic| with_reducible first | exact at0 | exact at1 | exact at2 | exact at3 | exact at4 | exact at5 | exact at6 | exact at7)
local macro_rules | `(tactic| walk_at "tyx") => `(tactic| first
  | exact TyX.base (TyOf.int _) | exact TyX.base (TyOf.str _) | exact TyX.base (TyOf.bl _) | exact TyX.base TyOf.non
  | exact TyX.base (TyOf.lst (by walk_at "hh")) | exact TyX.base (TyOf.tup (by walk_at "hh")) | exact TyX.base (TyOf.dK (by walk_at "hh")))
local macro_rules | `(tactic| walk_at "cond") => `(tactic| first | assumption | exact rfl | decide +kernel | omega | (simp only [List.length_cons, List.length_nil]; omega))
local macro_rules | `(tactic| walk_at "rd1") => `(tactic| first
  | with_reducible refine Rd.go ?_
  | ((with_reducible refine' k_var ?rdh ?_); (case rdh => exact rfl))
  | ((with_reducible refine' k_gt2 ?rdh ?_); (case rdh => walk_at "ht"))
  | ((with_reducible refine' v_mod ?rdh ?_); (case rdh => first | decide | omega))
  | ((with_reducible refine' v_fdiv ?rdh ?_); (case rdh => exact ⟨by decide, by decide⟩))
  | ((with_reducible refine' v_mulI ?rdh ?_); (case rdh => first | exact .inl ⟨by omega, by omega⟩ | exact .inr ⟨by omega, by omega⟩))
  | ((with_reducible refine' v_isiT ?rdh ?rdk ?_); (case rdh => walk_at "tyx"); (case rdk => decide +kernel))
  | ((with_reducible refine' v_isiF ?rdh ?rdk ?_); (case rdh => walk_at "tyx"); (case rdk => decide +kernel))
  | ((with_reducible refine' v_ixT ?rdh ?rdk ?_); (case rdh => walk_at "ht"); (case rdk => walk_at "ix"))
  | ((with_reducible refine' v_ixL ?rdh ?rdk ?_); (case rdh => walk_at "hl"); (case rdk => walk_at "ix"))
  | ((with_reducible refine' v_lenL ?rdh ?_); (case rdh => walk_at "hl"))
  | ((with_reducible refine' v_lenT ?rdh ?_); (case rdh => walk_at "ht"))
  | ((with_reducible refine' v_lenD ?rdh ?_); (case rdh => walk_at "hh"))
  | ((with_reducible refine' i_dT ?rdh ?_); (case rdh => walk_at "cond"))
  | ((with_reducible refine' i_dF ?rdh ?_); (case rdh => walk_at "cond"))
  | ((with_reducible refine' i_nT ?rdh ?_); (case rdh => walk_at "cond"))
  | ((with_reducible refine' i_nF ?rdh ?_); (case rdh => walk_at "cond"))
  | ((with_reducible refine' i_bT ?rdh ?_); (case rdh => first | assumption | decide +kernel))
  | ((with_reducible refine' i_bF ?rdh ?_); (case rdh => first | assumption | decide +kernel)))
local macro_rules | `(tactic| walk_at "rd") => `(tactic| repeat walk_at "rd1")

variable {g : En} {H H0 H1 H2 : Hp} {Q : VK} {E : XK} {a b p l d aa so ka la fo dx : Addr} {ns ms : List Str} {e e1 e2 : En0} {r : R} {rs : List R} {σ : L2.St} {F : Fx} {k : Nat}
def setRow (F : Fx) (n : Str) (s : Src) : List R × Fx := if rootF F (.nm n) = s then ([], F) else ([match s with | .num i => .put n i | .nm m => .copy n (.nm m)], setF F n s)
theorem fK_set {n : Str} {i : Int} : ∀ m, (if m = n then some (V.int i) else fK (forgetF F n) m) = fK (setF F n (.num i)) m := fun m => by
  by_cases c : m = n
  · subst c; rw [if_pos rfl]; unfold fK setF; rw [if_pos rfl]; rfl
  · rw [if_neg c]; unfold fK setF; rw [if_neg c]
theorem fL_set {n m2 : Str} : ∀ m, (if m = n then some (V.str m2) else fL (forgetF F n) m) = fL (setF F n (.nm m2)) m := fun m => by
  by_cases c : m = n
  · subst c; rw [if_pos rfl]; unfold fL setF; rw [if_pos rfl]; rfl
  · rw [if_neg c]; unfold fL setF; rw [if_neg c]
theorem fL_setN {n : Str} {i : Int} : ∀ m, fL (forgetF F n) m = fL (setF F n (.num i)) m := fun m => by
  by_cases c : m = n
  · subst c; simp [fL, setF, forgetF, Src.fact]
  · unfold fL setF; rw [if_neg c]
theorem fK_setN {n m2 : Str} : ∀ m, fK (forgetF F n) m = fK (setF F n (.nm m2)) m := fun m => by
  by_cases c : m = n
  · subst c; simp [fK, setF, forgetF, Src.fact]
  · unfold fK setF; rw [if_neg c]
theorem r_law_set {n : Str} {s : Src} (h : RelL H ka la F k) (ok : FOk F) (ne : ka ≠ la) (hk : k ≤ 900) (q : ∀ t H2, Ext H ka la H2 → RelL H2 ka la (setRow F n s).2 (k + 1) → RowsAt H2 t (setRow F n s).1 → Q (.ref t) H2) : sp_law_set g [.str n, s.v, .ref ka, .ref la] H Q E := by
  refine ⟨_, _, _, _, rfl, ?_⟩
  unfold t_law_set
  walk_at "rd"
  refine r_law_give (s := .nm n) h ok ?_
  walk_at "rd"
  refine v_eqSrc ?_
  walk_at "rd"
  unfold setRow at q
  refine i_d (fun c => ?_) (fun c => ?_)
  · rw [if_pos c] at q
    walk_at "rd"
    exact ⟨show 0 ≤ sizeLine by decide, fun t H2 n2 => q t H2 (Ext.of n2.sm) ⟨(h.ka.same n2.sm).mono (Nat.le_succ _), (h.la.same n2.sm).mono (Nat.le_succ _)⟩ ⟨_, n2.at_, RowsV.nil⟩⟩
  · rw [if_neg c] at q
    walk_at "rd"
    refine r_put_anew h ne fun H1 x1 h1 => ?_
    cases s with
    | num i =>
      simp only [Src.v]
      walk_at "rd"
      refine e_putD h1.ka hk fun H2 w _ d2 => ?_
      have x2 : Ext H1 ka la H2 := fun c n1 n2 u hu => by rw [w c n1]; exact hu
      have l2 := h1.la.only w ne.symm
      walk_at "rd"
      refine ⟨show 3 ≤ sizeLine by decide, fun t1 H3 n3 => ?_⟩
      walk_at "rd"
      refine ⟨show 1 ≤ sizeLine by decide, fun t H4 n4 => ?_⟩
      have s24 := Same.trans n3.sm n4.sm
      exact q t H4 (x1.trans (x2.trans (Ext.of s24))) ⟨(d2.cong fK_set).same s24, (((l2.cong fL_setN).same s24).mono (Nat.le_succ _))⟩ ⟨_, n4.at_, RowsV.cons (rowG (n4.sm _ _ n3.at_) rfl) RowsV.nil⟩
    | nm m2 =>
      simp only [Src.v]
      walk_at "rd"
      refine e_putD h1.la hk fun H2 w _ d2 => ?_
      have x2 : Ext H1 ka la H2 := fun c n1 n2 u hu => by rw [w c n2]; exact hu
      have l2 := h1.ka.only w ne
      walk_at "rd"
      refine ⟨show 3 ≤ sizeLine by decide, fun t1 H3 n3 => ?_⟩
      walk_at "rd"
      refine ⟨show 1 ≤ sizeLine by decide, fun t H4 n4 => ?_⟩
      have s24 := Same.trans n3.sm n4.sm
      exact q t H4 (x1.trans (x2.trans (Ext.of s24))) ⟨(((l2.cong fK_setN).same s24).mono (Nat.le_succ _)), (d2.cong fL_set).same s24⟩ ⟨_, n4.at_, RowsV.cons (rowG (n4.sm _ _ n3.at_) rfl) RowsV.nil⟩
theorem RelP.same (h : RelP H aa so F k) (s : Same H H2) : RelP H2 aa so F k := ⟨h.al.same s, let ⟨ψ, d, p⟩ := h.so; ⟨ψ, d.same s, p⟩⟩
theorem RelP.mono {j : Nat} (h : RelP H aa so F k) (n : k ≤ j) : RelP H aa so F j := ⟨h.al.mono n, let ⟨ψ, d, p⟩ := h.so; ⟨ψ, d.mono n, p⟩⟩
theorem k_meth {te : TA} {i : Nat} {m : Str} {sp : Sp} {fs : List (Str × V)} {C : Addr} {E : XK} (hs : σ[i]? = some (some (.ref fo))) (ho : H fo = some (.ins C dx fs)) (hm : fs.lookup m = none) (q : te σ H fun vs H2 => sp (.ref fo :: (vs ++ [])) H2 Q E) : tMeth C m sp [] E (tVar i) te σ H Q := ⟨_, hs, fo, dx, fs, rfl, ho, hm, q⟩
theorem r_set_row {n : Str} {s : Src} (fc : FcOk g) (ho : FObj g H fo dx aa so) (h : RelP H aa so F k) (ok : FOk F) (ne : aa ≠ so) (hk : k ≤ 900) (q : ∀ t H2, Ext H aa so H2 → RelP H2 aa so (setRow F n s).2 (k + 1) → RowsAt H2 t (setRow F n s).1 → Q (.ref t) H2) : sp_set_row g [.ref fo, .str n, s.v] H Q E := by
  refine ⟨_, _, _, rfl, ?_⟩
  unfold t_set_row
  walk_at "rd"
  refine k_meth rfl ho rfl ?_
  walk_at "rd"
  refine r_root (s := .nm n) fc ho h ok ?_
  walk_at "rd"
  refine v_eqSrc ?_
  walk_at "rd"
  unfold setRow at q
  refine i_d (fun c => ?_) (fun c => ?_)
  · rw [if_pos c] at q
    walk_at "rd"
    exact ⟨show 0 ≤ sizeLine by decide, fun t H2 n2 => q t H2 (Ext.of n2.sm) ((h.same n2.sm).mono (Nat.le_succ _)) ⟨_, n2.at_, RowsV.nil⟩⟩
  · rw [if_neg c] at q
    walk_at "rd"
    refine k_meth rfl ho rfl ?_
    walk_at "rd"
    refine r_note fc ho h ne hk fun H1 x1 h1 => ?_
    cases s with
    | num i =>
      simp only [Src.v]
      walk_at "rd"
      refine ⟨show 3 ≤ sizeLine by decide, fun t1 H3 n3 => ?_⟩
      walk_at "rd"
      refine ⟨show 1 ≤ sizeLine by decide, fun t H4 n4 => ?_⟩
      have s24 := Same.trans n3.sm n4.sm
      exact q t H4 (x1.trans (Ext.of s24)) (h1.same s24) ⟨_, n4.at_, RowsV.cons (rowG (n4.sm _ _ n3.at_) rfl) RowsV.nil⟩
    | nm m2 =>
      simp only [Src.v]
      walk_at "rd"
      refine ⟨show 3 ≤ sizeLine by decide, fun t1 H3 n3 => ?_⟩
      walk_at "rd"
      refine ⟨show 1 ≤ sizeLine by decide, fun t H4 n4 => ?_⟩
      have s24 := Same.trans n3.sm n4.sm
      exact q t H4 (x1.trans (Ext.of s24)) (h1.same s24) ⟨_, n4.at_, RowsV.cons (rowG (n4.sm _ _ n3.at_) rfl) RowsV.nil⟩

end Tf

namespace Tf
open PySem L2
local macro_rules | `(tactic| walk_at "hl") => `(tactic| first
  | assumption
  | exact SqL.of (by walk_at "hh")
  | exact Same.seq (New.sm (by assumption)) (by walk_at "hl")
  | exact Same.seq (NewX.sm (by assumption)) (by walk_at "hl")
  | exact Same.seq (by assumption) (by walk_at "hl"))
local macro_rules | `(tactic| walk_at "ht") => `(tactic| first
  | assumption
  | exact SqT.of (by walk_at "hh")
  | exact Same.tup (New.sm (by assumption)) (by walk_at "ht")
  | exact Same.tup (NewX.sm (by assumption)) (by walk_at "ht")
  | exact Same.tup (by assumption) (by walk_at "ht"))
local macro_rules | `(tactic| walk_at "hr") => `(tactic| first
  | assumption
  | exact Or.inl (by walk_at "hh")
  | exact Same.rd (New.sm (by assumption)) (by walk_at "hr")
  | exact Same.rd (NewX.sm (by assumption)) (by walk_at "hr")
  | exact Same.rd (by assumption) (by walk_at "hr"))
local macro_rules | `(tactic| walk_at "hh") => `(tactic| first
  | assumption
  | exact New.at_ (by assumption)
  | exact NewX.at_ (by assumption)
  | exact Wr.at_ (by assumption)
  | exact Same.get (New.sm (by assumption)) (by walk_at "hh")
  | exact Same.get (NewX.sm (by assumption)) (by walk_at "hh")
  | exact Same.get (by assumption) (by walk_at "hh"))
local macro_rules | `(tactic| walk_at "sm") => `(tactic| first
  | exact Same.refl _
  | assumption
  | exact Same.tr2 (New.sm (by assumption)) (by walk_at "sm")
  | exact Same.tr2 (NewX.sm (by assumption)) (by walk_at "sm")
  | exact Same.tr2 (by assumption) (by walk_at "sm"))
local macro_rules | `(tactic| walk_at "ix") => `(tactic| with_reducible first | exact at0 | exact at1 | exact at2 | exact at3 | exact at4 | exact at5 | exact at6 | exact at7)
local macro_rules | `(tactic| walk_at "tyx") => `(tactic| first
  | exact TyX.base (TyOf.int _) | exact TyX.base (TyOf.str _) | exact TyX.base (TyOf.bl _) | exact TyX.base TyOf.non
  | exact TyX.base (TyOf.lst (by walk_at "hh")) | exact TyX.base (TyOf.tup (by walk_at "hh")) | exact TyX.base (TyOf.dK (by walk_at "hh")))
local macro_rules | `(tactic| walk_at "cond") => `(tactic| first | assumption | exact rfl | decide +kernel | omega | (simp only [List.length_cons, List.length_nil]; omega))
local macro_rules | `(tactic| walk_at "rd1") => `(tactic| first
  | with_reducible refine Rd.go ?_
  | ((with_reducible refine' k_var ?rdh ?_); (case rdh => exact rfl))
  | ((with_reducible refine' k_gt2 ?rdh ?_); (case rdh => walk_at "ht"))
  | ((with_reducible refine' v_mod ?rdh ?_); (case rdh => first | decide | omega))
  | ((with_reducible refine' v_fdiv ?rdh ?_); (case rdh => exact ⟨by decide, by decide⟩))
  | ((with_reducible refine' v_mulI ?rdh ?_); (case rdh => first | exact .inl ⟨by omega, by omega⟩ | exact .inr ⟨by omega, by omega⟩))
  | ((with_reducible refine' v_isiT ?rdh ?rdk ?_); (case rdh => walk_at "tyx"); (case rdk => decide +kernel))
  | ((with_reducible refine' v_isiF ?rdh ?rdk ?_); (case rdh => walk_at "tyx"); (case rdk => decide +kernel))
  | ((with_reducible refine' v_ixT ?rdh ?rdk ?_); (case rdh => walk_at "ht"); (case rdk => walk_at "ix"))
  | ((with_reducible refine' v_ixL ?rdh ?rdk ?_); (case rdh => walk_at "hl"); (case rdk => walk_at "ix"))
  | ((with_reducible refine' v_lenL ?rdh ?_); (case rdh => walk_at "hl"))
  | ((with_reducible refine' v_lenT ?rdh ?_); (case rdh => walk_at "ht"))
  | ((with_reducible refine' v_lenD ?rdh ?_); (case rdh => walk_at "hh"))
  | ((with_reducible refine' i_dT ?rdh ?_); (case rdh => walk_at "cond"))
  | ((with_reducible refine' i_dF ?rdh ?_); (case rdh => walk_at "cond"))
  | ((with_reducible refine' i_nT ?rdh ?_); (case rdh => walk_at "cond"))
  | ((with_reducible refine' i_nF ?rdh ?_); (case rdh => walk_at "cond"))
  | ((with_reducible refine' i_bT ?rdh ?_); (case rdh => first | assumption | decide +kernel))
  | ((with_reducible refine' i_bF ?rdh ?_); (case rdh => first | assumption | decide +kernel)))
local macro_rules | `(tactic| walk_at "rd") => `(tactic| repeat walk_at "rd1")

variable {g : En} {H H0 H1 H2 : Hp} {Q : VK} {E : XK} {a b p l d aa so ka la fo dx : Addr} {ns ms : List Str} {e e1 e2 : En0} {r : R} {rs : List R} {σ : L2.St} {F : Fx} {k : Nat}
def simpleG (w : Wk) (u v : Src) : Option Src :=
  if (w = .minus ∨ w = .less) ∧ u = v then some (.num 0)
  else if (w = .add ∨ w = .minus) ∧ v = .num 0 then some u
  else if w = .add ∧ u = .num 0 then some v
  else if (w = .less ∧ v = .num 0) ∨ (w = .times ∧ (u = .num 0 ∨ v = .num 0)) then some (.num 0)
  else if w = .times ∧ v = .num 1 then some u
  else if w = .times ∧ u = .num 1 then some v
  else none
def simpleF (w : Wk) : Src → Src → Option Src
  | .num i, .num j => some (.num (w.f i j))
  | u, v => simpleG w u v
def optV : Option Src → V
  | some s => s.v
  | none => .non
def isNum : Src → Bool
  | .num _ => true
  | .nm _ => false
theorem simpleF_not {w : Wk} {u v : Src} (h : (isNum u && isNum v) = false) : simpleF w u v = simpleG w u v := by
  cases u <;> cases v <;> first | rfl | cases h
theorem k_ifInts {K : PySem.W.Frag} {u v : Src} {i j : Nat} {te : TE} {t : TS} {D : Ends} (h : (isNum u && isNum v) = false) (hi : σ[i]? = some (some u.v)) (hj : σ[j]? = some (some v.v)) (q : t D σ H) : tSeq (tIfS (tAnd (tB (tCB (rIsX K) (tCons (tVar i) (tCons (tC (.ty "int")) (tNil))))) (tB (tCB (rIsX K) (tCons (tVar j) (tCons (tC (.ty "int")) (tNil)))))) (tRet te) (tNext)) t D σ H := by
  obtain ⟨nx, rt, bk, ct⟩ := D
  refine k_seq ?_
  cases u with
  | nm n =>
    refine k_if (k_and ?_)
    refine k_tB (k_cb (k_cons ⟨_, hi, k_cons (k_c (k_nil ?_))⟩))
    simp only [Src.v]
    walk_at "rd"
    exact q
  | num x =>
    cases v with
    | num y => cases h
    | nm n =>
      refine k_if (k_and ?_)
      refine k_tB (k_cb (k_cons ⟨_, hi, k_cons (k_c (k_nil ?_))⟩))
      simp only [Src.v]
      walk_at "rd"
      refine ⟨_, hj, ?_⟩
      simp only [Src.v]
      walk_at "rd"
      exact q
theorem k_ifIntsT {K : PySem.W.Frag} {x y : Int} {i j : Nat} {te : TE} {t : TS} {nx : L2.St → Hp → Prop} {rt : VK} {bk ct : L2.St → Hp → Prop} (hi : σ[i]? = some (some (.int x))) (hj : σ[j]? = some (some (.int y))) (q : te σ H rt) : tSeq (tIfS (tAnd (tB (tCB (rIsX K) (tCons (tVar i) (tCons (tC (.ty "int")) (tNil))))) (tB (tCB (rIsX K) (tCons (tVar j) (tCons (tC (.ty "int")) (tNil)))))) (tRet te) (tNext)) t ⟨nx, rt, bk, ct⟩ σ H := by
  refine k_seq (k_if (k_and ?_))
  refine k_tB (k_cb (k_cons ⟨_, hi, k_cons (k_c (k_nil ?_))⟩))
  walk_at "rd"
  refine ⟨_, hj, ?_⟩
  walk_at "rd"
  exact q
theorem wk_add {w : Wk} : w.s = "add" ↔ w = .add := by cases w <;> simp only [Wk.s] <;> decide +kernel
theorem wk_less {w : Wk} : w.s = "less" ↔ w = .less := by cases w <;> simp only [Wk.s] <;> decide +kernel
theorem wk_times {w : Wk} : w.s = "times" ↔ w = .times := by cases w <;> simp only [Wk.s] <;> decide +kernel
theorem in_ml {w : Wk} : inV (.str w.s) [.str "minus", .str "less"] = decide (w = .minus ∨ w = .less) := by cases w <;> simp only [Wk.s] <;> decide +kernel
theorem in_am {w : Wk} : inV (.str w.s) [.str "add", .str "minus"] = decide (w = .add ∨ w = .minus) := by cases w <;> simp only [Wk.s] <;> decide +kernel
theorem flat_v (s : Src) : flatV s.v = true := by cases s <;> rfl
theorem in_two {c : Int} {u v : Src} : inV (.int c) [u.v, v.v] = decide (u = .num c ∨ v = .num c) := by
  have one : ∀ s : Src, eqV s.v (.int c) = decide (s = .num c) := fun s => by
    cases s with
    | num i =>
      have e : decide (Src.num i = Src.num c) = decide (i = c) := decide_eq_decide.mpr ⟨fun h => (by cases h; rfl), fun h => (by rw [h])⟩
      rw [e]
      show (i == c) = decide (i = c)
      by_cases h : i = c
      · rw [h]; simp
      · simp [h]
    | nm n => simp [Src.v, eqV]
  show (eqV u.v (.int c) || (eqV v.v (.int c) || false)) = _
  rw [one, one, Bool.or_false, Bool.decide_or]
theorem opt_cases {w : Wk} {u v : Src} {P : Option Src → Prop} (h1 : (w = .minus ∨ w = .less) ∧ u = v → P (some (.num 0))) (h2 : (w = .add ∨ w = .minus) ∧ v = .num 0 → P (some u)) : True := trivial
theorem r_simple {w : Wk} {u v : Src} (hu : srcOk u) (hv : srcOk v) (q : ∀ H2, Same H H2 → Q (optV (simpleF w u v)) H2) : sp_simple g [.str w.s, u.v, v.v] H Q E := by
  refine ⟨_, _, _, rfl, ?_⟩
  unfold t_simple
  cases hb : (isNum u && isNum v) with
  | true =>
    cases u with
    | nm n => cases hb
    | num i =>
      cases v with
      | nm n => cases hb
      | num j =>
        simp only [Src.v]
        refine k_ifIntsT rfl rfl ?_
        walk_at "rd"
        have h1 := hu.1
        have h2 := hu.2
        exact r_worked (by omega) (q H (Same.refl _))
  | false =>
    rw [simpleF_not hb] at q
    refine k_ifInts (u := u) (v := v) hb rfl rfl ?_
    have leaf : ∀ {o : Option Src} {H2 : Hp}, simpleG w u v = o → Same H H2 → Q (optV o) H2 := fun e s => by rw [← e]; exact q _ s
    cases w
    · simp only [Wk.s] at *
      walk_at "rd"
      refine ⟨show 2 ≤ sizeLine by decide, fun t1 H1 n1 => ?_⟩
      refine v_inSq (.inr (SqT.of n1.at_)) rfl (by rfl) ?_
      walk_at "rd"
      refine ⟨show 2 ≤ sizeLine by decide, fun t2 H2 n2 => ?_⟩
      refine v_inSq (.inr (SqT.of n2.at_)) rfl (by rfl) ?_
      have s2 := Same.trans n1.sm n2.sm
      walk_at "rd"
      refine v_eqSrc (s := v) (u := .num 0) ?_
      walk_at "rd"
      refine i_d (fun c1 => ?_) (fun c1 => ?_)
      · walk_at "rd"
        exact leaf (o := some u) (by simp [simpleG, c1]) s2
      · walk_at "rd"
        refine v_eqSrc (s := u) (u := .num 0) ?_
        walk_at "rd"
        refine i_d (fun c2 => ?_) (fun c2 => ?_)
        · walk_at "rd"
          exact leaf (o := some v) (by simp [simpleG, c1, c2]) s2
        · walk_at "rd"
          exact leaf (o := none) (by simp [simpleG, c1, c2]) s2
    · simp only [Wk.s] at *
      walk_at "rd"
      refine ⟨show 2 ≤ sizeLine by decide, fun t1 H1 n1 => ?_⟩
      refine v_inSq (.inr (SqT.of n1.at_)) rfl (by rfl) ?_
      walk_at "rd"
      refine v_eqSrc (s := u) (u := v) ?_
      walk_at "rd"
      refine i_d (fun c0 => ?_) (fun c0 => ?_)
      · walk_at "rd"
        exact leaf (o := some (.num 0)) (by simp [simpleG, c0]) n1.sm
      · walk_at "rd"
        refine ⟨show 2 ≤ sizeLine by decide, fun t2 H2 n2 => ?_⟩
        refine v_inSq (.inr (SqT.of n2.at_)) rfl (by rfl) ?_
        have s2 := Same.trans n1.sm n2.sm
        walk_at "rd"
        refine v_eqSrc (s := v) (u := .num 0) ?_
        walk_at "rd"
        refine i_d (fun c1 => ?_) (fun c1 => ?_)
        · walk_at "rd"
          exact leaf (o := some u) (by subst c1; simp [simpleG, c0]) s2
        · walk_at "rd"
          exact leaf (o := none) (by simp [simpleG, c0, c1]) s2
    · simp only [Wk.s] at *
      walk_at "rd"
      refine ⟨show 2 ≤ sizeLine by decide, fun t1 H1 n1 => ?_⟩
      refine v_inSq (.inr (SqT.of n1.at_)) rfl (by rfl) ?_
      walk_at "rd"
      refine ⟨show 2 ≤ sizeLine by decide, fun t2 H2 n2 => ?_⟩
      refine v_inSq (.inr (SqT.of n2.at_)) rfl (by rfl) ?_
      have s2 := Same.trans n1.sm n2.sm
      walk_at "rd"
      refine ⟨show 2 ≤ sizeLine by decide, fun t3 H3 n3 => ?_⟩
      refine v_inSq (.inr (SqT.of n3.at_)) rfl (by simp [flat_v]) ?_
      rw [in_two]
      have s3 := Same.trans s2 n3.sm
      walk_at "rd"
      refine i_d (fun c1 => ?_) (fun c1 => ?_)
      · walk_at "rd"
        exact leaf (o := some (.num 0)) (by simp [simpleG, c1]) s3
      · have c1' : ¬ u = .num 0 ∧ ¬ v = .num 0 := ⟨fun z => c1 (.inl z), fun z => c1 (.inr z)⟩
        walk_at "rd"
        refine v_eqSrc (s := v) (u := .num 1) ?_
        walk_at "rd"
        refine i_d (fun c2 => ?_) (fun c2 => ?_)
        · walk_at "rd"
          exact leaf (o := some u) (by simp [simpleG, c1', c2]) s3
        · walk_at "rd"
          refine v_eqSrc (s := u) (u := .num 1) ?_
          walk_at "rd"
          refine i_d (fun c3 => ?_) (fun c3 => ?_)
          · walk_at "rd"
            exact leaf (o := some v) (by simp [simpleG, c1', c2, c3]) s3
          · walk_at "rd"
            exact leaf (o := none) (by simp [simpleG, c1', c2, c3]) s3
    · simp only [Wk.s] at *
      walk_at "rd"
      refine ⟨show 2 ≤ sizeLine by decide, fun t1 H1 n1 => ?_⟩
      refine v_inSq (.inr (SqT.of n1.at_)) rfl (by rfl) ?_
      walk_at "rd"
      refine v_eqSrc (s := u) (u := v) ?_
      walk_at "rd"
      refine i_d (fun c0 => ?_) (fun c0 => ?_)
      · walk_at "rd"
        exact leaf (o := some (.num 0)) (by simp [simpleG, c0]) n1.sm
      · walk_at "rd"
        refine ⟨show 2 ≤ sizeLine by decide, fun t2 H2 n2 => ?_⟩
        refine v_inSq (.inr (SqT.of n2.at_)) rfl (by rfl) ?_
        have s2 := Same.trans n1.sm n2.sm
        walk_at "rd"
        refine v_eqSrc (s := v) (u := .num 0) ?_
        walk_at "rd"
        refine i_d (fun c1 => ?_) (fun c1 => ?_)
        · walk_at "rd"
          exact leaf (o := some (.num 0)) (by simp [simpleG, c0, c1]) s2
        · walk_at "rd"
          exact leaf (o := none) (by simp [simpleG, c0, c1]) s2

local macro_rules | `(tactic| walk_at "rp") => `(tactic| repeat (first | walk_at "rd1" | with_reducible refine k_pc ?_ | with_reducible refine k_pn ?_))
/-- the law's own work on two numbers -/
theorem r_law_doneX {w : Wk} {i j : Int} (ha : H a = some (.dK [])) (hb : H b = some (.tup [.str w.s, .str "x", .int i, .int j])) (hx : -18446744073709551616 < i ∧ i < 18446744073709551616) (q : ∀ p H2, NewX H p (.dK (encE [("x", w.f i j)])) H2 → Q (.ref p) H2) : sp_law_done g [.ref b, .ref a] H Q E := by
  refine ⟨_, _, rfl, ?_⟩
  unfold t_law_done
  rw [law_value_eq]
  have ha0 : H a = some (.dK (encE [])) := ha
  have hb' := hb
  have hl' : ([] : List (Key × V)).length < sizeLine := small_sz (by decide)
  cases w
  all_goals
    simp only [Wk.s] at hb
    clear hb'
    walk_at "rd"
    refine v_dict (.inl ha) fun p H1 n1 => ?_
    walk_at "rd"
    refine r_value_of (s := .num i) (e := []) (n1.sm _ _ ha0) trivial ?_
    walk_at "rd"
    refine ⟨by decide, fun t H2 n2 => ?_⟩
    refine v_inSq (.inl (by walk_at "hl")) rfl (by rfl) ?_
    walk_at "rd"
    refine r_value_of (s := .num j) (e := []) (n2.sm _ _ (n1.sm _ _ ha0)) trivial ?_
  case less =>
    walk_at "rd"
    refine e_put (n2.sm _ _ n1.at_) hl' fun H5 w5 => ?_
    walk_at "rd"
    have e1 : Wk.less.f i j = if decide (i < j) = true then 1 else 0 := by simp [Wk.f]
    rw [e1] at q
    exact q p H5 (Wr.newX (NewX.up n1.x n2.sm) w5)
  all_goals
    have hx' : -18446744073709551616 < srcV [] (.num i) ∧ srcV [] (.num i) < 18446744073709551616 := hx
    walk_at "rd"
    refine k_disp fun c H3 n3 => ?_
    walk_at "rp"
    refine ⟨n3.at_, [(.inr "add", _), (.inr "minus", _), (.inr "times", _)], rfl, (show 3 ≤ 15 by decide), fun H4 w4 => ?_⟩
    have s4 : Same H2 H4 := w4.same n3.sm n3.fr
    have hb4 := s4 _ _ (n2.sm _ _ (n1.sm _ _ hb))
    walk_at "rd"
    refine v_ixDS (.inl w4.at_) (by rfl) ?_
    walk_at "rd"
    refine e_put (s4 _ _ (n2.sm _ _ n1.at_)) hl' fun H5 w5 => ?_
    walk_at "rd"
    exact q p H5 (Wr.newX (NewX.up n1.x (Same.trans n2.sm s4)) w5)
theorem r_law_easy {w : Wk} {u v : Src} (hu : srcOk u) (hv : srcOk v) (q : ∀ H2, Same H H2 → Q (optV (simpleF w u v)) H2) : sp_law_easy g [.str w.s, u.v, v.v] H Q E := by
  refine ⟨_, _, _, rfl, ?_⟩
  unfold t_law_easy
  cases hb : (isNum u && isNum v) with
  | true =>
    cases u with
    | nm n => cases hb
    | num i =>
      cases v with
      | nm n => cases hb
      | num j =>
        simp only [Src.v]
        refine k_ifIntsT rfl rfl ?_
        have h1 := hu.1
        have h2 := hu.2
        walk_at "rd"
        refine ⟨show 4 ≤ sizeLine by decide, fun t H1 n1 => ?_⟩
        walk_at "rd"
        intro d H2 n2
        walk_at "rd"
        refine r_law_doneX n2.at_ (n2.sm _ _ n1.at_) (by omega) fun p H3 n3 => ?_
        walk_at "rd"
        refine v_ixDS (v := .int (w.f i j)) (.inl n3.at_) (by rfl) ?_
        exact q H3 (Same.trans n1.sm (Same.trans n2.sm n3.sm))
  | false =>
    rw [simpleF_not hb] at q
    refine k_ifInts (u := u) (v := v) hb rfl rfl ?_
    have leaf : ∀ {o : Option Src} {H2 : Hp}, simpleG w u v = o → Same H H2 → Q (optV o) H2 := fun e s => by rw [← e]; exact q _ s
    cases w
    · simp only [Wk.s] at *
      walk_at "rd"
      refine ⟨show 2 ≤ sizeLine by decide, fun t1 H1 n1 => ?_⟩
      refine v_inSq (.inl (SqL.of n1.at_)) rfl (by rfl) ?_
      walk_at "rd"
      refine ⟨show 2 ≤ sizeLine by decide, fun t2 H2 n2 => ?_⟩
      refine v_inSq (.inl (SqL.of n2.at_)) rfl (by rfl) ?_
      have s2 := Same.trans n1.sm n2.sm
      walk_at "rd"
      refine v_eqSrc (s := v) (u := .num 0) ?_
      walk_at "rd"
      refine i_d (fun c1 => ?_) (fun c1 => ?_)
      · walk_at "rd"
        exact leaf (o := some u) (by simp [simpleG, c1]) s2
      · walk_at "rd"
        refine v_eqSrc (s := u) (u := .num 0) ?_
        walk_at "rd"
        refine i_d (fun c2 => ?_) (fun c2 => ?_)
        · walk_at "rd"
          exact leaf (o := some v) (by simp [simpleG, c1, c2]) s2
        · walk_at "rd"
          exact leaf (o := none) (by simp [simpleG, c1, c2]) s2
    · simp only [Wk.s] at *
      walk_at "rd"
      refine ⟨show 2 ≤ sizeLine by decide, fun t1 H1 n1 => ?_⟩
      refine v_inSq (.inl (SqL.of n1.at_)) rfl (by rfl) ?_
      walk_at "rd"
      refine v_eqSrc (s := u) (u := v) ?_
      walk_at "rd"
      refine i_d (fun c0 => ?_) (fun c0 => ?_)
      · walk_at "rd"
        exact leaf (o := some (.num 0)) (by simp [simpleG, c0]) n1.sm
      · walk_at "rd"
        refine ⟨show 2 ≤ sizeLine by decide, fun t2 H2 n2 => ?_⟩
        refine v_inSq (.inl (SqL.of n2.at_)) rfl (by rfl) ?_
        have s2 := Same.trans n1.sm n2.sm
        walk_at "rd"
        refine v_eqSrc (s := v) (u := .num 0) ?_
        walk_at "rd"
        refine i_d (fun c1 => ?_) (fun c1 => ?_)
        · walk_at "rd"
          exact leaf (o := some u) (by subst c1; simp [simpleG, c0]) s2
        · walk_at "rd"
          exact leaf (o := none) (by simp [simpleG, c0, c1]) s2
    · simp only [Wk.s] at *
      walk_at "rd"
      refine ⟨show 2 ≤ sizeLine by decide, fun t1 H1 n1 => ?_⟩
      refine v_inSq (.inl (SqL.of n1.at_)) rfl (by rfl) ?_
      walk_at "rd"
      refine ⟨show 2 ≤ sizeLine by decide, fun t2 H2 n2 => ?_⟩
      refine v_inSq (.inl (SqL.of n2.at_)) rfl (by rfl) ?_
      have s2 := Same.trans n1.sm n2.sm
      walk_at "rd"
      refine ⟨show 2 ≤ sizeLine by decide, fun t3 H3 n3 => ?_⟩
      refine v_inSq (.inl (SqL.of n3.at_)) rfl (by simp [flat_v]) ?_
      rw [in_two]
      have s3 := Same.trans s2 n3.sm
      walk_at "rd"
      refine i_d (fun c1 => ?_) (fun c1 => ?_)
      · walk_at "rd"
        exact leaf (o := some (.num 0)) (by simp [simpleG, c1]) s3
      · have c1' : ¬ u = .num 0 ∧ ¬ v = .num 0 := ⟨fun z => c1 (.inl z), fun z => c1 (.inr z)⟩
        walk_at "rd"
        refine ⟨show 2 ≤ sizeLine by decide, fun t4 H4 n4 => ?_⟩
        refine v_inSq (.inl (SqL.of n4.at_)) rfl (by simp [flat_v]) ?_
        rw [in_two]
        have s4 := Same.trans s3 n4.sm
        walk_at "rd"
        refine i_d (fun c2 => ?_) (fun c2 => ?_)
        · walk_at "rd"
          refine ⟨show 2 ≤ sizeLine by decide, fun t5 H5 n5 => ?_⟩
          have s5 := Same.trans s4 n5.sm
          walk_at "rd"
          refine v_eqSrc (s := u) (u := .num 1) ?_
          walk_at "rd"
          by_cases c3 : u = .num 1
          · rw [decide_eq_true c3]
            have c4 : ¬ v = .num 1 := fun z => by
              rw [c3, z] at hb
              cases hb
            exact v_ixL (SqL.of n5.at_) at1 (leaf (o := some v) (by simp [simpleG, c1', c3, c4]) s5)
          · rw [decide_eq_false c3]
            have c4 : v = .num 1 := c2.elim (fun z => absurd z c3) id
            exact v_ixL (SqL.of n5.at_) at0 (leaf (o := some u) (by subst c4; simp [simpleG, c1', c3]) s5)
        · have c2' : ¬ u = .num 1 ∧ ¬ v = .num 1 := ⟨fun z => c2 (.inl z), fun z => c2 (.inr z)⟩
          walk_at "rd"
          exact leaf (o := none) (by simp [simpleG, c1', c2']) s4
    · simp only [Wk.s] at *
      walk_at "rd"
      refine ⟨show 2 ≤ sizeLine by decide, fun t1 H1 n1 => ?_⟩
      refine v_inSq (.inl (SqL.of n1.at_)) rfl (by rfl) ?_
      walk_at "rd"
      refine v_eqSrc (s := u) (u := v) ?_
      walk_at "rd"
      refine i_d (fun c0 => ?_) (fun c0 => ?_)
      · walk_at "rd"
        exact leaf (o := some (.num 0)) (by simp [simpleG, c0]) n1.sm
      · walk_at "rd"
        refine v_eqSrc (s := v) (u := .num 0) ?_
        walk_at "rd"
        refine i_d (fun c1 => ?_) (fun c1 => ?_)
        · walk_at "rd"
          exact leaf (o := some (.num 0)) (by simp [simpleG, c0, c1]) n1.sm
        · walk_at "rd"
          refine ⟨show 2 ≤ sizeLine by decide, fun t2 H2 n2 => ?_⟩
          refine v_inSq (.inl (SqL.of n2.at_)) rfl (by rfl) ?_
          have s2 := Same.trans n1.sm n2.sm
          walk_at "rd"
          exact leaf (o := none) (by simp [simpleG, c0, c1]) s2

end Tf

namespace Tf
open PySem L2
local macro_rules | `(tactic| walk_at "hl") => `(tactic| first
  | assumption
  | exact SqL.of (by walk_at "hh")
  | exact Same.seq (New.sm (by assumption)) (by walk_at "hl")
  | exact Same.seq (NewX.sm (by assumption)) (by walk_at "hl")
  | exact Same.seq (by assumption) (by walk_at "hl"))
local macro_rules | `(tactic| walk_at "ht") => `(tactic| first
  | assumption
  | exact SqT.of (by walk_at "hh")
  | exact Same.tup (New.sm (by assumption)) (by walk_at "ht")
  | exact Same.tup (NewX.sm (by assumption)) (by walk_at "ht")
  | exact Same.tup (by assumption) (by walk_at "ht"))
local macro_rules | `(tactic| walk_at "hr") => `(tactic| first
  | assumption
  | exact Or.inl (by walk_at "hh")
  | exact Same.rd (New.sm (by assumption)) (by walk_at "hr")
  | exact Same.rd (NewX.sm (by assumption)) (by walk_at "hr")
  | exact Same.rd (by assumption) (by walk_at "hr"))
local macro_rules | `(tactic| walk_at "hh") => `(tactic| first
  | assumption
  | exact New.at_ (by assumption)
  | exact NewX.at_ (by assumption)
  | exact Wr.at_ (by assumption)
  | exact Same.get (New.sm (by assumption)) (by walk_at "hh")
  | exact Same.get (NewX.sm (by assumption)) (by walk_at "hh")
  | exact Same.get (by assumption) (by walk_at "hh"))
local macro_rules | `(tactic| walk_at "sm") => `(tactic| first
  | exact Same.refl _
  | assumption
  | exact Same.tr2 (New.sm (by assumption)) (by walk_at "sm")
  | exact Same.tr2 (NewX.sm (by assumption)) (by walk_at "sm")
  | exact Same.tr2 (by assumption) (by walk_at "sm"))
local macro_rules | `(tactic| walk_at "ix") => `(tactic| with_reducible first | exact at0 | exact at1 | exact at2 | exact at3 | exact at4 | exact at5 | exact at6 | exact at7)
local macro_rules | `(tactic| walk_at "tyx") => `(tactic| first
  | exact TyX.base (TyOf.int _) | exact TyX.base (TyOf.str _) | exact TyX.base (TyOf.bl _) | exact TyX.base TyOf.non
  | exact TyX.base (TyOf.lst (by walk_at "hh")) | exact TyX.base (TyOf.tup (by walk_at "hh")) | exact TyX.base (TyOf.dK (by walk_at "hh")))
local macro_rules | `(tactic| walk_at "cond") => `(tactic| first | assumption | exact rfl | decide +kernel | omega | (simp only [List.length_cons, List.length_nil]; omega))
local macro_rules | `(tactic| walk_at "rd1") => `(tactic| first
  | with_reducible refine Rd.go ?_
  | ((with_reducible refine' k_var ?rdh ?_); (case rdh => exact rfl))
  | ((with_reducible refine' k_gt2 ?rdh ?_); (case rdh => walk_at "ht"))
  | ((with_reducible refine' v_mod ?rdh ?_); (case rdh => first | decide | omega))
  | ((with_reducible refine' v_fdiv ?rdh ?_); (case rdh => exact ⟨by decide, by decide⟩))
  | ((with_reducible refine' v_mulI ?rdh ?_); (case rdh => first | exact .inl ⟨by omega, by omega⟩ | exact .inr ⟨by omega, by omega⟩))
  | ((with_reducible refine' v_isiT ?rdh ?rdk ?_); (case rdh => walk_at "tyx"); (case rdk => decide +kernel))
  | ((with_reducible refine' v_isiF ?rdh ?rdk ?_); (case rdh => walk_at "tyx"); (case rdk => decide +kernel))
  | ((with_reducible refine' v_ixT ?rdh ?rdk ?_); (case rdh => walk_at "ht"); (case rdk => walk_at "ix"))
  | ((with_reducible refine' v_ixL ?rdh ?rdk ?_); (case rdh => walk_at "hl"); (case rdk => walk_at "ix"))
  | ((with_reducible refine' v_lenL ?rdh ?_); (case rdh => walk_at "hl"))
  | ((with_reducible refine' v_lenT ?rdh ?_); (case rdh => walk_at "ht"))
  | ((with_reducible refine' v_lenD ?rdh ?_); (case rdh => walk_at "hh"))
  | ((with_reducible refine' i_dT ?rdh ?_); (case rdh => walk_at "cond"))
  | ((with_reducible refine' i_dF ?rdh ?_); (case rdh => walk_at "cond"))
  | ((with_reducible refine' i_nT ?rdh ?_); (case rdh => walk_at "cond"))
  | ((with_reducible refine' i_nF ?rdh ?_); (case rdh => walk_at "cond"))
  | ((with_reducible refine' i_bT ?rdh ?_); (case rdh => first | assumption | decide +kernel))
  | ((with_reducible refine' i_bF ?rdh ?_); (case rdh => first | assumption | decide +kernel)))
local macro_rules | `(tactic| walk_at "rd") => `(tactic| repeat walk_at "rd1")

variable {g : En} {H H0 H1 H2 : Hp} {Q : VK} {E : XK} {a b p l d aa so ka la fo dx : Addr} {ns ms : List Str} {e e1 e2 : En0} {r : R} {rs : List R} {σ : L2.St} {F : Fx} {k : Nat}
def guardRow (F : Fx) (s : Src) (z : Bool) (p st : Int) (rp : List (Str × Src)) : List R × Fx := if holdsF F (rootF F s) z = true then ([], F) else ([.guard (rootF F s) z p st rp], match rootF F s with
  | .nm n => passF F n z
  | .num _ => F)
def workRow (F : Fx) (w : Wk) (n : Str) (x y : Src) : List R × Fx := match simpleF w (rootF F x) (rootF F y) with
  | some s => setRow F n s
  | none => ([.work w n (rootF F x) (rootF F y)], forgetF F n)
def knownR (F : Fx) : R → List R × Fx
  | .put n k => setRow F n (.num k)
  | .copy n s => setRow F n (rootF F s)
  | .tell s => ([.tell (rootF F s)], F)
  | .guard s z p st rp => guardRow F s z p st rp
  | .work w n x y => workRow F w n x y
  | r => ([r], F)
def knownA : List R → Fx → List R
  | [], _ => []
  | r :: t, F => (knownR F r).1 ++ knownA t (knownR F r).2
theorem Ext.tk {φ ψ : Str → Option V} {j : Nat} (x : Ext H a b H2) (ha : DAt H a φ k) (hb : DAt H b ψ j) : Tk H H2 := fun c u i h => x.ndD ha hb h (by cases u <;> first | rfl | cases i)
theorem simple_root {w : Wk} {u v s : Src} (hu : IsRoot F u) (hv : IsRoot F v) (h : simpleF w u v = some s) : IsRoot F s := by
  have go : simpleG w u v = some s → IsRoot F s := fun h => by
    have z0 : IsRoot F (.num 0) := ⟨Int.le_refl _, by decide⟩
    unfold simpleG at h
    split at h
    · cases h; exact z0
    split at h
    · cases h; exact hu
    split at h
    · cases h; exact hv
    split at h
    · cases h; exact z0
    split at h
    · cases h; exact hu
    split at h
    · cases h; exact hv
    · cases h
  cases u with
  | nm n => exact go h
  | num i =>
    cases v with
    | nm n => exact go h
    | num j => cases h; exact w.f_ok
theorem set_ok {n : Str} {s : Src} (ok : FOk F) (hs : IsRoot F s) : FOk (setRow F n s).2 := by
  unfold setRow
  by_cases c : rootF F (.nm n) = s
  · rw [if_pos c]; exact ok
  · rw [if_neg c]
    refine ok.set hs fun z => c ?_
    subst z
    rcases hs with hs | hs <;> simp only [rootF, hs]
theorem known_ok (ok : FOk F) (h : TRow ms r) : FOk (knownR F r).2 := by
  cases h with
  | @g s z p st rp hs hr hl =>
    show FOk (guardRow F s z p st rp).2
    unfold guardRow
    split
    · exact ok
    · show FOk (match rootF F s with | .nm n => passF F n z | .num _ => F)
      cases rootF F s with
      | num i => exact ok
      | nm n => exact ok.pass
  | w hw ho hn =>
    cases r with
    | put n k => exact set_ok ok ho
    | copy n s => exact set_ok ok (root_is ok ho)
    | tell s => exact ok
    | work w n x y =>
      show FOk (workRow F w n x y).2
      unfold workRow
      cases hs : simpleF w (rootF F x) (rootF F y) with
      | some s => exact set_ok ok (simple_root (root_is ok ho.1) (root_is ok ho.2) hs)
      | none => exact ok.forget n
    | _ => cases hw
theorem root_ok {s : Src} (ok : FOk F) (h : srcOk s) : srcOk (rootF F s) := by
  have := root_is ok h
  cases hr : rootF F s with
  | num i => rw [hr] at this; exact this
  | nm n => trivial
theorem r_guard_row {s : Src} {z : Bool} {pl st : Int} {rp : List (Str × Src)} (fc : FcOk g) (ho : FObj g H fo dx aa so) (h : RelP H aa so F k) (ok : FOk F) (hs : srcOk s) (ne : aa ≠ so) (hk : k ≤ 900) (hb : RowO H b (.guard s z pl st rp))
    (q : ∀ t H2, Ext H aa so H2 → RelP H2 aa so (guardRow F s z pl st rp).2 (k + 1) → RowsAt H2 t (guardRow F s z pl st rp).1 → Q (.ref t) H2) : sp_guard_row g [.ref fo, .ref b] H Q E := by
  refine ⟨_, _, rfl, ?_⟩
  unfold t_guard_row
  obtain ⟨fq, hb, hq⟩ := hb
  have hr := root_is ok hs
  obtain ⟨ψ, dso, pso⟩ := h.so
  walk_at "rd"
  refine k_meth rfl ho rfl ?_
  walk_at "rd"
  refine r_root fc ho h ok ?_
  walk_at "rd"
  refine k_meth rfl ho rfl ?_
  walk_at "rd"
  refine r_holds fc ho h hr ?_
  unfold guardRow at q
  generalize rootF F s = u at q hr
  walk_at "rd"
  refine i_b (fun c => ?_) (fun c => ?_)
  · rw [if_pos c] at q
    walk_at "rd"
    exact ⟨show 0 ≤ sizeLine by decide, fun t H2 n2 => q t H2 (Ext.of n2.sm) ((h.same n2.sm).mono (Nat.le_succ _)) ⟨_, n2.at_, RowsV.nil⟩⟩
  · rw [if_neg (by rw [c]; decide)] at q
    cases u with
    | num i =>
      simp only [Src.v]
      walk_at "rd"
      refine ⟨show 6 ≤ sizeLine by decide, fun t1 H2 n2 => ?_⟩
      walk_at "rd"
      refine ⟨show 1 ≤ sizeLine by decide, fun t H3 n3 => ?_⟩
      have s3 := Same.trans n2.sm n3.sm
      exact q t H3 (Ext.of s3) ((h.same s3).mono (Nat.le_succ _)) ⟨_, n3.at_, RowsV.cons ⟨t1, rfl, fq, n3.sm _ _ n2.at_, RepAt.tk (Same.tk s3) hq⟩ RowsV.nil⟩
    | nm n =>
      simp only [Src.v]
      walk_at "rd"
      refine k_meth rfl ho rfl ?_
      walk_at "rd"
      refine r_passed fc ho h ne hk hr fun H1 x1 h1 => ?_
      have tk1 := x1.tk h.al dso
      have hb1 := tk1 _ _ rfl hb
      walk_at "rd"
      refine ⟨show 6 ≤ sizeLine by decide, fun t1 H2 n2 => ?_⟩
      walk_at "rd"
      refine ⟨show 1 ≤ sizeLine by decide, fun t H3 n3 => ?_⟩
      have s3 := Same.trans n2.sm n3.sm
      exact q t H3 (x1.trans (Ext.of s3)) (h1.same s3) ⟨_, n3.at_, RowsV.cons ⟨t1, rfl, fq, n3.sm _ _ n2.at_, RepAt.tk (Same.tk s3) (RepAt.tk tk1 hq)⟩ RowsV.nil⟩
theorem r_work_row {w : Wk} {n : Str} {x y : Src} (fc : FcOk g) (ho : FObj g H fo dx aa so) (h : RelP H aa so F k) (ok : FOk F) (hx : srcOk x) (hy : srcOk y) (ne : aa ≠ so) (hk : k ≤ 900) (hb : H b = some (.tup [.str w.s, .str n, x.v, y.v]))
    (q : ∀ t H2, Ext H aa so H2 → RelP H2 aa so (workRow F w n x y).2 (k + 1) → RowsAt H2 t (workRow F w n x y).1 → Q (.ref t) H2) : sp_work_row g [.ref fo, .ref b] H Q E := by
  refine ⟨_, _, rfl, ?_⟩
  unfold t_work_row
  have hrx := root_ok ok hx
  have hry := root_ok ok hy
  obtain ⟨ψ, dso, pso⟩ := h.so
  walk_at "rd"
  refine k_meth rfl ho rfl ?_
  walk_at "rd"
  refine r_root fc ho h ok ?_
  walk_at "rd"
  refine k_meth rfl ho rfl ?_
  walk_at "rd"
  refine r_root fc ho h ok ?_
  unfold workRow at q
  generalize rootF F x = u at q hrx
  generalize rootF F y = v at q hry
  walk_at "rd"
  refine r_simple hrx hry fun H1 s1 => ?_
  have h1 := h.same s1
  have ho1 : FObj g H1 fo dx aa so := s1 _ _ ho
  have hb1 := s1 _ _ hb
  cases hs : simpleF w u v with
  | some s =>
    rw [hs] at q
    simp only [optV]
    cases s with
    | num i =>
      simp only [Src.v]
      walk_at "rd"
      exact r_set_row (s := .num i) fc ho1 h1 ok ne hk fun t H2 x2 h2 hr2 => q t H2 ((Ext.of s1).trans x2) h2 hr2
    | nm m =>
      simp only [Src.v]
      walk_at "rd"
      exact r_set_row (s := .nm m) fc ho1 h1 ok ne hk fun t H2 x2 h2 hr2 => q t H2 ((Ext.of s1).trans x2) h2 hr2
  | none =>
    rw [hs] at q
    simp only [optV]
    walk_at "rd"
    refine k_meth rfl ho1 rfl ?_
    walk_at "rd"
    refine r_forget fc ho1 h1 ne fun H2 x2 h2 => ?_
    have tk2 := x2.tk h1.al (dso.same s1)
    have hb2 := tk2 _ _ rfl hb1
    walk_at "rd"
    refine ⟨show 4 ≤ sizeLine by decide, fun t1 H3 n3 => ?_⟩
    walk_at "rd"
    refine ⟨show 1 ≤ sizeLine by decide, fun t H4 n4 => ?_⟩
    have s4 := Same.trans n3.sm n4.sm
    exact q t H4 ((Ext.of s1).trans (x2.trans (Ext.of s4))) ((h2.same s4).mono (Nat.le_succ _)) ⟨_, n4.at_, RowsV.cons (rowG (n4.sm _ _ n3.at_) rfl) RowsV.nil⟩

end Tf

namespace Tf
open PySem L2
local macro_rules | `(tactic| walk_at "hl") => `(tactic| first
  | assumption
  | exact SqL.of (by walk_at "hh")
  | exact Same.seq (New.sm (by assumption)) (by walk_at "hl")
  | exact Same.seq (NewX.sm (by assumption)) (by walk_at "hl")
  | exact Same.seq (by assumption) (by walk_at "hl"))
local macro_rules | `(tactic| walk_at "ht") => `(tactic| first
  | assumption
  | exact SqT.of (by walk_at "hh")
  | exact Same.tup (New.sm (by assumption)) (by walk_at "ht")
  | exact Same.tup (NewX.sm (by assumption)) (by walk_at "ht")
  | exact Same.tup (by assumption) (by walk_at "ht"))
local macro_rules | `(tactic| walk_at "hr") => `(tactic| first
  | assumption
  | exact Or.inl (by walk_at "hh")
  | exact Same.rd (New.sm (by assumption)) (by walk_at "hr")
  | exact Same.rd (NewX.sm (by assumption)) (by walk_at "hr")
  | exact Same.rd (by assumption) (by walk_at "hr"))
local macro_rules | `(tactic| walk_at "hh") => `(tactic| first
  | assumption
  | exact New.at_ (by assumption)
  | exact NewX.at_ (by assumption)
  | exact Wr.at_ (by assumption)
  | exact Same.get (New.sm (by assumption)) (by walk_at "hh")
  | exact Same.get (NewX.sm (by assumption)) (by walk_at "hh")
  | exact Same.get (by assumption) (by walk_at "hh"))
local macro_rules | `(tactic| walk_at "sm") => `(tactic| first
  | exact Same.refl _
  | assumption
  | exact Same.tr2 (New.sm (by assumption)) (by walk_at "sm")
  | exact Same.tr2 (NewX.sm (by assumption)) (by walk_at "sm")
  | exact Same.tr2 (by assumption) (by walk_at "sm"))
local macro_rules | `(tactic| walk_at "ix") => `(tactic| with_reducible first | exact at0 | exact at1 | exact at2 | exact at3 | exact at4 | exact at5 | exact at6 | exact at7)
local macro_rules | `(tactic| walk_at "tyx") => `(tactic| first
  | exact TyX.base (TyOf.int _) | exact TyX.base (TyOf.str _) | exact TyX.base (TyOf.bl _) | exact TyX.base TyOf.non
  | exact TyX.base (TyOf.lst (by walk_at "hh")) | exact TyX.base (TyOf.tup (by walk_at "hh")) | exact TyX.base (TyOf.dK (by walk_at "hh")))
local macro_rules | `(tactic| walk_at "cond") => `(tactic| first | assumption | exact rfl | decide +kernel | omega | (simp only [List.length_cons, List.length_nil]; omega))
local macro_rules | `(tactic| walk_at "rd1") => `(tactic| first
  | with_reducible refine Rd.go ?_
  | ((with_reducible refine' k_var ?rdh ?_); (case rdh => exact rfl))
  | ((with_reducible refine' k_gt2 ?rdh ?_); (case rdh => walk_at "ht"))
  | ((with_reducible refine' v_mod ?rdh ?_); (case rdh => first | decide | omega))
  | ((with_reducible refine' v_fdiv ?rdh ?_); (case rdh => exact ⟨by decide, by decide⟩))
  | ((with_reducible refine' v_mulI ?rdh ?_); (case rdh => first | exact .inl ⟨by omega, by omega⟩ | exact .inr ⟨by omega, by omega⟩))
  | ((with_reducible refine' v_isiT ?rdh ?rdk ?_); (case rdh => walk_at "tyx"); (case rdk => decide +kernel))
  | ((with_reducible refine' v_isiF ?rdh ?rdk ?_); (case rdh => walk_at "tyx"); (case rdk => decide +kernel))
  | ((with_reducible refine' v_ixT ?rdh ?rdk ?_); (case rdh => walk_at "ht"); (case rdk => walk_at "ix"))
  | ((with_reducible refine' v_ixL ?rdh ?rdk ?_); (case rdh => walk_at "hl"); (case rdk => walk_at "ix"))
  | ((with_reducible refine' v_lenL ?rdh ?_); (case rdh => walk_at "hl"))
  | ((with_reducible refine' v_lenT ?rdh ?_); (case rdh => walk_at "ht"))
  | ((with_reducible refine' v_lenD ?rdh ?_); (case rdh => walk_at "hh"))
  | ((with_reducible refine' i_dT ?rdh ?_); (case rdh => walk_at "cond"))
  | ((with_reducible refine' i_dF ?rdh ?_); (case rdh => walk_at "cond"))
  | ((with_reducible refine' i_nT ?rdh ?_); (case rdh => walk_at "cond"))
  | ((with_reducible refine' i_nF ?rdh ?_); (case rdh => walk_at "cond"))
  | ((with_reducible refine' i_bT ?rdh ?_); (case rdh => first | assumption | decide +kernel))
  | ((with_reducible refine' i_bF ?rdh ?_); (case rdh => first | assumption | decide +kernel)))
local macro_rules | `(tactic| walk_at "rd") => `(tactic| repeat walk_at "rd1")

variable {g : En} {H H0 H1 H2 : Hp} {Q : VK} {E : XK} {a b p l d aa so ka la fo dx : Addr} {ns ms : List Str} {e e1 e2 : En0} {r : R} {rs : List R} {σ : L2.St} {F : Fx} {k : Nat}
theorem RelL.same (h : RelL H ka la F k) (s : Same H H2) : RelL H2 ka la F k := ⟨h.ka.same s, h.la.same s⟩
theorem RelL.mono {j : Nat} (h : RelL H ka la F k) (n : k ≤ j) : RelL H ka la F j := ⟨h.ka.mono n, h.la.mono n⟩
theorem cut2 {a b : V} {xs : List V} : cutV (a :: b :: xs) (some 2) none = xs := by
  rw [show (2 : Int) = ((2 : Nat) : Int) from rfl, cut_from]
  rfl
theorem fK_pass {n : Str} {z : Bool} : ∀ m, (if m = n then some (V.int (if z = true then 0 else -1)) else fK F m) = fK (passF F n z) m := fun m => by
  by_cases c : m = n
  · subst c
    rw [if_pos rfl]
    unfold fK passF
    rw [if_pos rfl]
    cases z <;> rfl
  · rw [if_neg c]; unfold fK passF; rw [if_neg c]
theorem fL_pass {n : Str} {z : Bool} (hn : F n = .no ∨ F n = .non0) : ∀ m, fL F m = fL (passF F n z) m := fun m => by
  by_cases c : m = n
  · subst c
    have e1 : fL F m = none := by rcases hn with hn | hn <;> simp only [fL, hn]
    rw [e1]
    unfold fL passF
    rw [if_pos rfl]
    cases z <;> rfl
  · unfold fL passF; rw [if_neg c]
theorem r_law_asked {s : Src} {z : Bool} {pl st : Int} {rp : List (Str × Src)} (h : RelL H ka la F k) (ok : FOk F) (hs : srcOk s) (ne : ka ≠ la) (hk : k ≤ 900) (hb : RowO H b (.guard s z pl st rp))
    (q : ∀ t H2, Ext H ka la H2 → RelL H2 ka la (guardRow F s z pl st rp).2 (k + 1) → RowsAt H2 t (guardRow F s z pl st rp).1 → Q (.ref t) H2) : sp_law_asked g [.ref b, .ref ka, .ref la] H Q E := by
  refine ⟨_, _, _, rfl, ?_⟩
  unfold t_law_asked
  obtain ⟨fq, hb, hq⟩ := hb
  have hr := root_is ok hs
  walk_at "rd"
  refine r_law_give h ok ?_
  unfold guardRow at q
  generalize rootF F s = u at q hr
  cases u with
  | num i =>
    have i0 := hr.1
    simp only [Src.v]
    walk_at "rd"
    refine i_b (fun c => ?_) (fun c => ?_)
    · rw [if_pos (show holdsF F (.num i) z = true from c)] at q
      walk_at "rd"
      exact ⟨show 0 ≤ sizeLine by decide, fun t H2 n2 => q t H2 (Ext.of n2.sm) ((h.same n2.sm).mono (Nat.le_succ _)) ⟨_, n2.at_, RowsV.nil⟩⟩
    · rw [if_neg (by show ¬ holdsF F (.num i) z = true; rw [show holdsF F (.num i) z = false from c]; decide)] at q
      walk_at "rd"
      refine ⟨show 2 ≤ sizeLine by decide, fun t1 H2 n2 => ?_⟩
      walk_at "rd"
      refine v_slT (n2.sm _ _ hb) fun t2 H3 s3 ht2 _ => ?_
      rw [cut2] at ht2
      walk_at "rd"
      refine v_addT (s3 _ _ n2.at_) ht2 (show 6 ≤ sizeLine by decide) fun t3 H4 s4 ht3 _ => ?_
      walk_at "rd"
      refine ⟨show 1 ≤ sizeLine by decide, fun t H5 n5 => ?_⟩
      have s5 := Same.trans n2.sm (Same.trans s3 (Same.trans s4 n5.sm))
      exact q t H5 (Ext.of s5) ((h.same s5).mono (Nat.le_succ _)) ⟨_, n5.at_, RowsV.cons ⟨t3, rfl, fq, n5.sm _ _ ht3, RepAt.tk (Same.tk s5) hq⟩ RowsV.nil⟩
  | nm n =>
    simp only [Src.v]
    walk_at "rd"
    refine ⟨e_is h.ka, ?_⟩
    walk_at "rd"
    refine ⟨_, _, .inr _, rfl, h.ka.lies, rfl, ?_⟩
    rw [h.ka.val]
    have tail : holdsF F (.nm n) z = false → ∀ v4, (tSeq (tIfS (tB (tCB (rIsX g.K) (tCons (tVar 3) (tCons (tC (.ty "str")) (tNil))))) (sDPutN (tVar 1) (tVar 3) (tOp (rIxA g.K) (tLstN (tCons (tUn rNeg (tC (.int 1))) (tCons (tC (.int 0)) (tNil)))) (tCB (rInt) (tCons (tOp (rIxA g.K) (tVar 0) (tC (.int 2))) (tNil))))) (tNext)) (tRet (tLstN (tCons (tOp (rAdd g.K) (tTupN (tCons (tC (.str "guard")) (tCons (tVar 3) (tNil)))) (tSl (rSlX g.K) (tVar 0) (tPart (tC (.int 2))) (tNoPart))) (tNil))))) ⟨fun _ H1 => Q .non H1, Q, fun _ _ => False, fun _ _ => False⟩ [some (.ref b), some (.ref ka), some (.ref la), some (.str n), v4] H := fun c v4 => by
      rw [if_neg (by rw [c]; decide)] at q
      walk_at "rd"
      refine ⟨show 2 ≤ sizeLine by decide, fun t0 H1 n1 => ?_⟩
      have hb1 := n1.sm _ _ hb
      walk_at "rd"
      have pick : ∀ {Q' : VK}, Q' (.int (if z = true then 0 else -1)) H1 → rIxA g.K (.ref t0) (.int (if z = true then 1 else 0)) H1 Q' := fun {Q'} q' => by
        cases z
        · exact v_ixL (SqL.of n1.at_) at0 q'
        · exact v_ixL (SqL.of n1.at_) at1 q'
      refine pick ?_
      walk_at "rd"
      have h1 := h.same n1.sm
      refine e_putD h1.ka hk fun H2 w tu d2 => ?_
      have x2 : Ext H1 ka la H2 := fun c n1 n2 u hu => by rw [w c n1]; exact hu
      have l2 := h1.la.only w ne.symm
      have tk2 := x2.tk h1.ka h1.la
      have hb2 := tk2 _ _ rfl hb1
      walk_at "rd"
      refine ⟨show 2 ≤ sizeLine by decide, fun t1 H3 n3 => ?_⟩
      walk_at "rd"
      refine v_slT (n3.sm _ _ hb2) fun t2 H4 s4 ht2 _ => ?_
      rw [cut2] at ht2
      walk_at "rd"
      refine v_addT (s4 _ _ n3.at_) ht2 (show 6 ≤ sizeLine by decide) fun t3 H5 s5 ht3 _ => ?_
      walk_at "rd"
      refine ⟨show 1 ≤ sizeLine by decide, fun t H6 n6 => ?_⟩
      have s26 := Same.trans n3.sm (Same.trans s4 (Same.trans s5 n6.sm))
      exact q t H6 ((Ext.of n1.sm).trans (x2.trans (Ext.of s26))) ⟨(d2.cong fK_pass).same s26, ((l2.cong (fL_pass hr)).same s26).mono (Nat.le_succ _)⟩ ⟨_, n6.at_, RowsV.cons ⟨t3, rfl, fq, n6.sm _ _ ht3, RepAt.tk (Same.tk s26) (RepAt.tk tk2 (RepAt.tk (Same.tk n1.sm) hq))⟩ RowsV.nil⟩
    rcases hr with hF | hF
    · rw [show (fK F n).getD (V.int (-2)) = .int (-2) by simp only [fK, hF]; rfl]
      have hh : holdsF F (.nm n) z = false := by show (!z && decide (F n = .non0)) = false; rw [hF]; cases z <;> rfl
      refine k_joinG (P := fun σ' H' => σ' = [some (.ref b), some (.ref ka), some (.ref la), some (.str n), some (.int (-2))] ∧ H' = H) ?kk ?hh
      case kk =>
        rintro σ' H' ⟨rfl, rfl⟩
        exact tail hh _
      case hh =>
        intro nx' key
        walk_at "rd"
        exact key _ _ ⟨rfl, rfl⟩
    · rw [show (fK F n).getD (V.int (-2)) = .int (-1) by simp only [fK, hF]; rfl]
      cases z with
      | false =>
        have hh : holdsF F (.nm n) false = true := by show (!false && decide (F n = .non0)) = true; rw [hF]; rfl
        rw [if_pos hh] at q
        walk_at "rd"
        exact ⟨show 0 ≤ sizeLine by decide, fun t H2 n2 => q t H2 (Ext.of n2.sm) ((h.same n2.sm).mono (Nat.le_succ _)) ⟨_, n2.at_, RowsV.nil⟩⟩
      | true =>
        have hh : holdsF F (.nm n) true = false := rfl
        refine k_joinG (P := fun σ' H' => σ' = [some (.ref b), some (.ref ka), some (.ref la), some (.str n), some (.int (-1))] ∧ H' = H) ?kk ?hh
        case kk =>
          rintro σ' H' ⟨rfl, rfl⟩
          exact tail hh _
        case hh =>
          intro nx' key
          walk_at "rd"
          exact key _ _ ⟨rfl, rfl⟩
theorem r_law_worked {r : R} (h : RelL H ka la F k) (ok : FOk F) (hw : isW r = true) (hnt : ∀ s, r ≠ .tell s) (hro : rowOk r) (ne : ka ≠ la) (hk : k ≤ 900) (hb : H b = some (.tup r.vs))
    (q : ∀ t H2, Ext H ka la H2 → RelL H2 ka la (knownR F r).2 (k + 1) → RowsAt H2 t (knownR F r).1 → Q (.ref t) H2) : sp_law_worked g [.ref b, .ref ka, .ref la] H Q E := by
  refine ⟨_, _, _, rfl, ?_⟩
  unfold t_law_worked
  cases r with
  | put n i =>
    simp only [R.vs] at hb
    walk_at "rd"
    refine r_law_give (s := .num i) h ok ?_
    walk_at "rd"
    refine ⟨show 2 ≤ sizeLine by decide, fun t0 H1 n1 => ?_⟩
    refine v_inSq (.inl (SqL.of n1.at_)) rfl (by rfl) ?_
    have hb1 := n1.sm _ _ hb
    walk_at "rd"
    exact r_law_set (s := .num i) (h.same n1.sm) ok ne hk fun t H2 x2 h2 hr2 => q t H2 ((Ext.of n1.sm).trans x2) h2 hr2
  | copy n s =>
    simp only [R.vs] at hb
    walk_at "rd"
    refine r_law_give (s := s) h ok ?_
    walk_at "rd"
    refine ⟨show 2 ≤ sizeLine by decide, fun t0 H1 n1 => ?_⟩
    refine v_inSq (.inl (SqL.of n1.at_)) rfl (by rfl) ?_
    have hb1 := n1.sm _ _ hb
    walk_at "rd"
    exact r_law_set (s := rootF F s) (h.same n1.sm) ok ne hk fun t H2 x2 h2 hr2 => q t H2 ((Ext.of n1.sm).trans x2) h2 hr2
  | tell s => exact absurd rfl (hnt s)
  | work w n x y =>
    have q2 : ∀ t H2, Ext H ka la H2 → RelL H2 ka la (workRow F w n x y).2 (k + 1) → RowsAt H2 t (workRow F w n x y).1 → Q (.ref t) H2 := q
    unfold workRow at q2
    have hrx := root_ok ok hro.1
    have hry := root_ok ok hro.2
    simp only [R.vs] at hb
    walk_at "rd"
    refine r_law_give (s := x) h ok ?_
    walk_at "rd"
    refine ⟨show 2 ≤ sizeLine by decide, fun t0 H1 n1 => ?_⟩
    refine v_inSq (.inl (SqL.of n1.at_)) rfl (by rfl) ?_
    have hb1 := n1.sm _ _ hb
    have h1 := h.same n1.sm
    have e0 : inV (V.str w.s) [V.str "put", .str "copy"] = false := by cases w <;> simp only [Wk.s] <;> decide +kernel
    refine ⟨_, rfl, ?_⟩
    refine i_bF e0 ?_
    walk_at "rd"
    refine r_law_give (s := y) h1 ok ?_
    generalize rootF F x = u at q2 hrx
    generalize rootF F y = v at q2 hry
    walk_at "rd"
    refine r_law_easy hrx hry fun H2 s2 => ?_
    have h2 := h1.same s2
    have hb2 := s2 _ _ hb1
    have s02 := Same.trans n1.sm s2
    cases hs : simpleF w u v with
    | some s =>
      rw [hs] at q2
      simp only [optV]
      cases s with
      | num i =>
        simp only [Src.v]
        walk_at "rd"
        exact r_law_set (s := .num i) h2 ok ne hk fun t H3 x3 h3 hr3 => q2 t H3 ((Ext.of s02).trans x3) h3 hr3
      | nm m =>
        simp only [Src.v]
        walk_at "rd"
        exact r_law_set (s := .nm m) h2 ok ne hk fun t H3 x3 h3 hr3 => q2 t H3 ((Ext.of s02).trans x3) h3 hr3
    | none =>
      rw [hs] at q2
      simp only [optV]
      walk_at "rd"
      refine r_put_anew h2 ne fun H3 x3 h3 => ?_
      have tk3 := x3.tk h2.ka h2.la
      have hb3 := tk3 _ _ rfl hb2
      walk_at "rd"
      refine ⟨show 4 ≤ sizeLine by decide, fun t1 H4 n4 => ?_⟩
      walk_at "rd"
      refine ⟨show 1 ≤ sizeLine by decide, fun t H5 n5 => ?_⟩
      have s5 := Same.trans n4.sm n5.sm
      exact q2 t H5 ((Ext.of s02).trans (x3.trans (Ext.of s5))) ((h3.same s5).mono (Nat.le_succ _)) ⟨_, n5.at_, RowsV.cons (rowG (n5.sm _ _ n4.at_) rfl) RowsV.nil⟩
  | _ => cases hw

end Tf

namespace Tf
open PySem L2
local macro_rules | `(tactic| walk_at "hl") => `(tactic| first
  | assumption
  | exact SqL.of (by walk_at "hh")
  | exact Same.seq (New.sm (by assumption)) (by walk_at "hl")
  | exact Same.seq (NewX.sm (by assumption)) (by walk_at "hl")
  | exact Same.seq (by assumption) (by walk_at "hl"))
local macro_rules | `(tactic| walk_at "ht") => `(tactic| first
  | assumption
  | exact SqT.of (by walk_at "hh")
  | exact Same.tup (New.sm (by assumption)) (by walk_at "ht")
  | exact Same.tup (NewX.sm (by assumption)) (by walk_at "ht")
  | exact Same.tup (by assumption) (by walk_at "ht"))
local macro_rules | `(tactic| walk_at "hr") => `(tactic| first
  | assumption
  | exact Or.inl (by walk_at "hh")
  | exact Same.rd (New.sm (by assumption)) (by walk_at "hr")
  | exact Same.rd (NewX.sm (by assumption)) (by walk_at "hr")
  | exact Same.rd (by assumption) (by walk_at "hr"))
local macro_rules | `(tactic| walk_at "hh") => `(tactic| first
  | assumption
  | exact New.at_ (by assumption)
  | exact NewX.at_ (by assumption)
  | exact Wr.at_ (by assumption)
  | exact Same.get (New.sm (by assumption)) (by walk_at "hh")
  | exact Same.get (NewX.sm (by assumption)) (by walk_at "hh")
  | exact Same.get (by assumption) (by walk_at "hh"))
local macro_rules | `(tactic| walk_at "sm") => `(tactic| first
  | exact Same.refl _
  | assumption
  | exact Same.tr2 (New.sm (by assumption)) (by walk_at "sm")
  | exact Same.tr2 (NewX.sm (by assumption)) (by walk_at "sm")
  | exact Same.tr2 (by assumption) (by walk_at "sm"))
local macro_rules | `(tactic| walk_at "ix") => `(tactic| with_reducible first | exact at0 | exact at1 | exact at2 | exact at3 | exact at4 | exact at5 | exact at6 | exact at7)
local macro_rules | `(tactic| walk_at "tyx") => `(tactic| first
  | exact TyX.base (TyOf.int _) | exact TyX.base (TyOf.str _) | exact TyX.base (TyOf.bl _) | exact TyX.base TyOf.non
  | exact TyX.base (TyOf.lst (by walk_at "hh")) | exact TyX.base (TyOf.tup (by walk_at "hh")) | exact TyX.base (TyOf.dK (by walk_at "hh")))
local macro_rules | `(tactic| walk_at "cond") => `(tactic| first | assumption | exact rfl | decide +kernel | omega | (simp only [List.length_cons, List.length_nil]; omega))
local macro_rules | `(tactic| walk_at "rd1") => `(tactic| first
  | with_reducible refine Rd.go ?_
  | ((with_reducible refine' k_var ?rdh ?_); (case rdh => exact rfl))
  | ((with_reducible refine' k_gt2 ?rdh ?_); (case rdh => walk_at "ht"))
  | ((with_reducible refine' v_mod ?rdh ?_); (case rdh => first | decide | omega))
  | ((with_reducible refine' v_fdiv ?rdh ?_); (case rdh => exact ⟨by decide, by decide⟩))
  | ((with_reducible refine' v_mulI ?rdh ?_); (case rdh => first | exact .inl ⟨by omega, by omega⟩ | exact .inr ⟨by omega, by omega⟩))
  | ((with_reducible refine' v_isiT ?rdh ?rdk ?_); (case rdh => walk_at "tyx"); (case rdk => decide +kernel))
  | ((with_reducible refine' v_isiF ?rdh ?rdk ?_); (case rdh => walk_at "tyx"); (case rdk => decide +kernel))
  | ((with_reducible refine' v_ixT ?rdh ?rdk ?_); (case rdh => walk_at "ht"); (case rdk => walk_at "ix"))
  | ((with_reducible refine' v_ixL ?rdh ?rdk ?_); (case rdh => walk_at "hl"); (case rdk => walk_at "ix"))
  | ((with_reducible refine' v_lenL ?rdh ?_); (case rdh => walk_at "hl"))
  | ((with_reducible refine' v_lenT ?rdh ?_); (case rdh => walk_at "ht"))
  | ((with_reducible refine' v_lenD ?rdh ?_); (case rdh => walk_at "hh"))
  | ((with_reducible refine' i_dT ?rdh ?_); (case rdh => walk_at "cond"))
  | ((with_reducible refine' i_dF ?rdh ?_); (case rdh => walk_at "cond"))
  | ((with_reducible refine' i_nT ?rdh ?_); (case rdh => walk_at "cond"))
  | ((with_reducible refine' i_nF ?rdh ?_); (case rdh => walk_at "cond"))
  | ((with_reducible refine' i_bT ?rdh ?_); (case rdh => first | assumption | decide +kernel))
  | ((with_reducible refine' i_bF ?rdh ?_); (case rdh => first | assumption | decide +kernel)))
local macro_rules | `(tactic| walk_at "rd") => `(tactic| repeat walk_at "rd1")

variable {g : En} {H H0 H1 H2 : Hp} {Q : VK} {E : XK} {a b p l d aa so ka la fo dx : Addr} {ns ms : List Str} {e e1 e2 : En0} {r : R} {rs : List R} {σ : L2.St} {F : Fx} {k : Nat}
def F0 : Fx := fun _ => .no
theorem F0_ok : FOk F0 := ⟨fun n m h => (by cases h), fun n i h => (by cases h)⟩
theorem set_len {n : Str} {s : Src} : (setRow F n s).1.length ≤ 1 := by unfold setRow; split <;> simp
theorem known_len : (knownR F r).1.length ≤ 1 := by
  cases r with
  | put n k => exact set_len
  | copy n s => exact set_len
  | guard s z p st rp => show (guardRow F s z p st rp).1.length ≤ 1; unfold guardRow; split <;> simp
  | work w n x y =>
    show (workRow F w n x y).1.length ≤ 1
    unfold workRow
    split
    · exact set_len
    · simp
  | _ => simp [knownR]
theorem knownA_len : ∀ (rs : List R) (F : Fx), (knownA rs F).length ≤ rs.length
  | [], _ => Nat.le_refl _
  | r :: t, F => by
    rw [knownA, List.length_append, List.length_cons]
    have h1 := known_len (F := F) (r := r)
    have h2 := knownA_len t (knownR F r).2
    omega
theorem r_make (fc : FcOk g) (q : ∀ fo dx aa so H2, Same H H2 → FObj g H2 fo dx aa so → H2 aa = some (.dK []) → H2 so = some (.dK []) → aa ≠ so → H aa = none → H so = none → Q (.ref fo) H2) : tMake g.fc (sp_Facts_init g) [] E0 tNil σ H Q := by
  intro x dx hx hdx ne
  refine ⟨_, rfl, ?_⟩
  unfold t_Facts_init
  walk_at "rd"
  intro aa H1 n1
  have e0 : (upd (upd H dx (.own x)) x (.ins g.fc dx [])) x = some (.ins g.fc dx []) := upd_same
  have hx1 := n1.sm _ _ e0
  refine ⟨_, rfl, x, g.fc, dx, [], rfl, hx1, fc.cl, fc.a, by decide, ?_⟩
  walk_at "rd"
  intro so H2 n2
  have nax : aa ≠ x := fun z => by
    have := n1.fr
    rw [z, e0] at this
    cases this
  have hx2 : H2 x = some (.ins g.fc dx [("alike", .ref aa)]) := n2.sm _ _ upd_same
  have haa2 : H2 aa = some (.dK []) := n2.sm _ _ (by rw [upd_ne nax]; exact n1.at_)
  refine ⟨_, rfl, x, g.fc, dx, [("alike", .ref aa)], rfl, hx2, fc.cl, fc.s, by show 1 < 1000; decide, ?_⟩
  have nas : aa ≠ so := fun z => by
    have h := n2.fr
    rw [← z, upd_ne nax, n1.at_] at h
    cases h
  have nsx : so ≠ x := fun z => by
    have h := n2.fr
    rw [z, upd_same] at h
    cases h
  have base : ∀ c, H c ≠ none → c ≠ x ∧ c ≠ dx := fun c hc => ⟨fun z => hc (by rw [z]; exact hx), fun z => hc (by rw [z]; exact hdx)⟩
  have fr : ∀ {c : Addr} {o : Option HO}, (upd (upd H dx (.own x)) x (.ins g.fc dx [])) c = none → H c = none := fun {c o} h => by
    by_cases hc : H c = none
    · exact hc
    · obtain ⟨b1, b2⟩ := base c hc
      rw [upd_ne b1, upd_ne b2] at h
      exact h
  refine ⟨rfl, q x dx aa so _ (fun c u hu => ?_) ?_ ?_ ?_ nas (fr (o := none) n1.fr) ?_⟩
  · obtain ⟨b1, b2⟩ := base c (by rw [hu]; exact fun z => by cases z)
    rw [upd_ne b1]
    refine n2.sm _ _ ?_
    rw [upd_ne b1]
    refine n1.sm _ _ ?_
    rw [upd_ne b1, upd_ne b2]
    exact hu
  · exact upd_same
  · rw [upd_ne nax]; exact haa2
  · rw [upd_ne nsx]; exact n2.at_
  · refine fr (o := none) ?_
    have h := n2.fr
    rw [upd_ne nsx] at h
    cases hc : (upd (upd H dx (.own x)) x (.ins g.fc dx [])) so with
    | none => rfl
    | some u => rw [n1.sm _ _ hc] at h; cases h

theorem F0_P (h1 : H aa = some (.dK [])) (h2 : H so = some (.dK [])) : RelP H aa so F0 0 := ⟨(DAt.nil h1).cong fun _ => rfl, _, DAt.nil h2, fun n h => (by cases h), fun _ _ => rfl⟩
theorem F0_L (h1 : H ka = some (.dK [])) (h2 : H la = some (.dK [])) : RelL H ka la F0 0 := ⟨(DAt.nil h1).cong fun _ => rfl, (DAt.nil h2).cong fun _ => rfl⟩
theorem drop_cons {i : Nat} (h : rs[i]? = some r) : rs.drop i = r :: rs.drop (i + 1) := by
  obtain ⟨hi, he⟩ := List.getElem?_eq_some_iff.mp h
  rw [List.drop_eq_getElem_cons hi, he]
theorem r_law_known {m : Addr} (hm : RowsAt H m rs) (hr : ∀ r ∈ rs, TRow ms r) (h60 : rs.length ≤ 60)
    (q : ∀ fl H2, Same H H2 → RowsAt H2 fl (knownA rs F0) → Q (.ref fl) H2) : sp_law_known g [.ref m] H Q E := by
  refine ⟨_, rfl, ?_⟩
  unfold t_law_known
  obtain ⟨vs, hv, hR⟩ := hm
  have hlen := hR.len
  walk_at "rd"
  intro ka H1 n1
  walk_at "rd"
  intro la H2 n2
  walk_at "rd"
  refine ⟨show 0 ≤ sizeLine by decide, fun f0 H3 n3 => ?_⟩
  have ne : ka ≠ la := n2.ne n1.at_
  have fka := n1.fr
  have fla : H la = none := Same.free n1.sm n2.fr
  have ff0 : H f0 = none := Same.free (Same.trans n1.sm n2.sm) n3.fr
  have s3 : Same H H3 := Same.trans n1.sm (Same.trans n2.sm n3.sm)
  have r3 : RelL H3 ka la F0 0 := F0_L (n3.sm _ _ (n2.sm _ _ n1.at_)) (n3.sm _ _ n2.at_)
  have hf3 := n3.at_
  clear n1 n2 n3
  walk_at "rd"
  refine v_forL (SqL.of (s3 _ _ hv)) (fun i σ' H' => ∃ (F : Fx) (acc : List R) (fl : Addr) (avs : List V) (x4 : Option V), σ' = [some (.ref m), some (.ref ka), some (.ref la), some (.ref fl), x4] ∧ acc ++ knownA (rs.drop i) F = knownA rs F0 ∧ FOk F ∧ RelL H' ka la F i ∧ acc.length ≤ i ∧ Same H H' ∧ H fl = none ∧ H' fl = some (.lst avs) ∧ RowsV H' avs acc) ⟨F0, [], f0, [], _, rfl, rfl, F0_ok, r3, Nat.le_refl _, s3, ff0, hf3, RowsV.nil⟩ (fun i σ' H' ⟨_, _, _, _, _, _, _, _, _, _, s, _⟩ => Same.seq s (SqL.of hv)) ?_ ?_
  · rintro i x σ' H4 hx ⟨F, acc, fl, avs, x4, rfl, hk, fok, rl, al, s4, ffl, hfl, haR⟩
    obtain ⟨r, hri, bp, rfl, hO⟩ := hR.get hx
    have hi := (List.getElem?_eq_some_iff.mp hri).1
    have tr := hr r (List.mem_of_getElem? hri)
    rw [drop_cons hri, knownA] at hk
    have fok2 := known_ok fok tr
    have kl := known_len (F := F) (r := r)
    have alen := haR.len
    have hO4 := RowO.tk (Same.tk s4) hO
    have fin : ∀ {t : Addr} {H5 : Hp}, Ext H4 ka la H5 → RelL H5 ka la (knownR F r).2 (i + 1) → RowsAt H5 t (knownR F r).1 → ∀ {Q' : VK}, (∀ fb H6, (∃ (F2 : Fx) (acc2 : List R) (fl2 : Addr) (avs2 : List V) (x4 : Option V), [some (V.ref m), some (.ref ka), some (.ref la), some (.ref fb), some (.ref bp)] = [some (V.ref m), some (.ref ka), some (.ref la), some (.ref fl2), x4] ∧ acc2 ++ knownA (rs.drop (i + 1)) F2 = knownA rs F0 ∧ FOk F2 ∧ RelL H6 ka la F2 (i + 1) ∧ acc2.length ≤ i + 1 ∧ Same H H6 ∧ H fl2 = none ∧ H6 fl2 = some (.lst avs2) ∧ RowsV H6 avs2 acc2) → Q' (.ref fb) H6) → rAdd g.K (.ref fl) (.ref t) H5 Q' := fun {t H5} x5 h5 ht {Q'} q' => by
      obtain ⟨tvs, htv, htR⟩ := ht
      have hfl5 := x5.ndD rl.ka rl.la hfl rfl
      have tk5 := x5.tk rl.ka rl.la
      have s5 := x5.base s4 fka fla
      have tlen := htR.len
      refine v_addL hfl5 htv (by rw [alen, tlen]; exact Nat.le_of_lt (small_sz (by omega))) fun fb H6 n6 => ?_
      exact q' fb H6 ⟨(knownR F r).2, acc ++ (knownR F r).1, fb, _, _, rfl, by rw [List.append_assoc]; exact hk, fok2, h5.same n6.sm, by rw [List.length_append]; omega, Same.trans s5 n6.sm, Same.free s5 n6.fr, n6.at_, RowsV.app (RowsV.tk (Tk.trans tk5 (Same.tk n6.sm)) haR) (RowsV.tk (Same.tk n6.sm) htR)⟩
    cases tr with
    | @g s z p st rp hs hrp hrl =>
      obtain ⟨fq, hb, hq⟩ := id hO4
      walk_at "rd"
      refine r_law_asked rl fok hs.1 ne (by omega) hO4 fun t H5 x5 h5 ht => ?_
      exact fin x5 h5 ht fun fb H6 h => h
    | w hw ho hn =>
      have hg : isG r = false := by cases r <;> first | rfl | cases hw
      have hb4 := rowO_vs hO4 hg
      have hbv := fun (_ : Unit) => hb4
      cases r with
      | tell s =>
        simp only [R.vs] at hb4
        walk_at "rd"
        refine ⟨ty_l hfl, ?_⟩
        walk_at "rd"
        refine r_law_give (s := s) rl fok ?_
        walk_at "rd"
        refine ⟨show 2 ≤ sizeLine by decide, fun t1 H5 n5 => ?_⟩
        walk_at "rd"
        have hfl5 := n5.sm _ _ hfl
        refine v_app hfl5 (by rw [alen]; exact small_sz (by omega)) fun H6 w6 => ?_
        have tk6 := w6.tk hfl5 rfl
        have rl5 := rl.same n5.sm
        have nk : ka ≠ fl := ne_of rl5.ka.lies hfl5 (by intro z; cases z)
        have nl : la ≠ fl := ne_of rl5.la.lies hfl5 (by intro z; cases z)
        exact ⟨F, acc ++ [.tell (rootF F s)], fl, _, _, rfl, by rw [List.append_assoc]; exact hk, fok, (RelL.mk (rl5.ka.keep w6 nk) (rl5.la.keep w6 nl)).mono (Nat.le_succ _), by rw [List.length_append]; exact Nat.succ_le_succ al, w6.same (Same.trans s4 n5.sm) ffl, ffl, w6.at_, RowsNew.put1 hfl haR n5.sm w6 (rowG (r := .tell (rootF F s)) n5.at_ rfl)⟩
      | put n k2 =>
        simp only [R.vs] at hb4
        walk_at "rd"
        refine r_law_worked (r := .put n k2) rl fok rfl (fun s z => by cases z) ho ne (by omega) (hbv ()) fun t H5 x5 h5 ht => ?_
        exact fin x5 h5 ht fun fb H6 h => h
      | copy n s =>
        simp only [R.vs] at hb4
        walk_at "rd"
        refine r_law_worked (r := .copy n s) rl fok rfl (fun s z => by cases z) ho ne (by omega) (hbv ()) fun t H5 x5 h5 ht => ?_
        exact fin x5 h5 ht fun fb H6 h => h
      | work w n x y =>
        have wk2 : ∀ {nx' : L2.St → Hp → Prop}, True := trivial
        cases w
        all_goals
          simp only [R.vs, Wk.s] at hb4
          walk_at "rd"
          refine r_law_worked (r := .work _ n x y) rl fok rfl (fun s z => by cases z) ho ne (by omega) (hbv ()) fun t H5 x5 h5 ht => ?_
          exact fin x5 h5 ht fun fb H6 h => h
      | _ => cases hw
  · rintro σ' H4 ⟨F, acc, fl, avs, x4, rfl, hk, fok, rl, al, s4, ffl, hfl, haR⟩
    rw [hlen, List.drop_length, knownA, List.append_nil] at hk
    walk_at "rd"
    refine q fl H4 s4 ⟨avs, hfl, ?_⟩
    rw [← hk]
    exact haR

theorem r_known {tr m : Addr} {start stp : Int} (fc : FcOk g) (ht : H tr = some (.tup [.int start, .ref m, .int stp])) (hm : RowsAt H m rs) (hr : ∀ r ∈ rs, TRow ms r) (h60 : rs.length ≤ 60)
    (q : ∀ t fl H2, Same H H2 → H2 t = some (.tup [.int start, .ref fl, .int stp]) → H fl = none → RowsAt H2 fl (knownA rs F0) → Q (.ref t) H2) : sp_known g [.ref tr] H Q E := by
  refine ⟨_, rfl, ?_⟩
  unfold t_known
  obtain ⟨vs, hv, hR⟩ := hm
  have hlen := hR.len
  refine k_seq (k_asg ?_)
  refine r_make fc fun fo dx aa so H2 s2 ho2 ha2 hs2 ne faa fso => ?_
  walk_at "rd"
  refine ⟨show 0 ≤ sizeLine by decide, fun f0 H3 n3 => ?_⟩
  have ff0 : H f0 = none := Same.free s2 n3.fr
  have s3 : Same H H3 := Same.trans s2 n3.sm
  have r3 : RelP H3 aa so F0 0 := F0_P (n3.sm _ _ ha2) (n3.sm _ _ hs2)
  have ho3 : FObj g H3 fo dx aa so := n3.sm _ _ ho2
  have hf3 := n3.at_
  have ht3 := s3 _ _ ht
  clear n3
  walk_at "rd"
  refine v_forL (SqL.of (s3 _ _ hv)) (fun i σ' H' => ∃ (F : Fx) (acc : List R) (fl : Addr) (avs : List V) (x4 : Option V), σ' = [some (.ref tr), some (.ref fo), some (.ref fl), x4] ∧ acc ++ knownA (rs.drop i) F = knownA rs F0 ∧ FOk F ∧ RelP H' aa so F i ∧ FObj g H' fo dx aa so ∧ acc.length ≤ i ∧ Same H H' ∧ H fl = none ∧ H' fl = some (.lst avs) ∧ RowsV H' avs acc) ⟨F0, [], f0, [], _, rfl, rfl, F0_ok, r3, ho3, Nat.le_refl _, s3, ff0, hf3, RowsV.nil⟩ (fun i σ' H' ⟨_, _, _, _, _, _, _, _, _, _, _, s, _⟩ => Same.seq s (SqL.of hv)) ?_ ?_
  · rintro i x σ' H4 hx ⟨F, acc, fl, avs, x4, rfl, hk, fok, rl, ho4, al, s4, ffl, hfl, haR⟩
    obtain ⟨r, hri, bp, rfl, hO⟩ := hR.get hx
    have hi := (List.getElem?_eq_some_iff.mp hri).1
    have tr' := hr r (List.mem_of_getElem? hri)
    rw [drop_cons hri, knownA] at hk
    have fok2 := known_ok fok tr'
    have kl := known_len (F := F) (r := r)
    have alen := haR.len
    have hO4 := RowO.tk (Same.tk s4) hO
    obtain ⟨ψ, dso, pso⟩ := id rl.so
    have fin : ∀ {t : Addr} {H5 : Hp}, Ext H4 aa so H5 → RelP H5 aa so (knownR F r).2 (i + 1) → RowsAt H5 t (knownR F r).1 → ∀ {Q' : VK}, (∀ fb H6, (∃ (F2 : Fx) (acc2 : List R) (fl2 : Addr) (avs2 : List V) (x4 : Option V), [some (V.ref tr), some (.ref fo), some (.ref fb), some (.ref bp)] = [some (V.ref tr), some (.ref fo), some (.ref fl2), x4] ∧ acc2 ++ knownA (rs.drop (i + 1)) F2 = knownA rs F0 ∧ FOk F2 ∧ RelP H6 aa so F2 (i + 1) ∧ FObj g H6 fo dx aa so ∧ acc2.length ≤ i + 1 ∧ Same H H6 ∧ H fl2 = none ∧ H6 fl2 = some (.lst avs2) ∧ RowsV H6 avs2 acc2) → Q' (.ref fb) H6) → rAdd g.K (.ref fl) (.ref t) H5 Q' := fun {t H5} x5 h5 ht {Q'} q' => by
      obtain ⟨tvs, htv, htR⟩ := ht
      have hfl5 := x5.ndD rl.al dso hfl rfl
      have tk5 := x5.tk rl.al dso
      have s5 := x5.base s4 faa fso
      have ho5 := x5.o rl ho4
      have tlen := htR.len
      refine v_addL hfl5 htv (by rw [alen, tlen]; exact Nat.le_of_lt (small_sz (by omega))) fun fb H6 n6 => ?_
      exact q' fb H6 ⟨(knownR F r).2, acc ++ (knownR F r).1, fb, _, _, rfl, by rw [List.append_assoc]; exact hk, fok2, h5.same n6.sm, n6.sm _ _ ho5, by rw [List.length_append]; omega, Same.trans s5 n6.sm, Same.free s5 n6.fr, n6.at_, RowsV.app (RowsV.tk (Tk.trans tk5 (Same.tk n6.sm)) haR) (RowsV.tk (Same.tk n6.sm) htR)⟩
    have x0 : ∀ {H5 : Hp}, Same H4 H5 → Ext H4 aa so H5 := fun s => Ext.of s
    cases tr' with
    | @g s z p st rp hs hrp hrl =>
      obtain ⟨fq, hb, hq⟩ := id hO4
      walk_at "rd"
      refine ⟨show 2 ≤ sizeLine by decide, fun t0 H5 n5 => ?_⟩
      refine v_inSq (.inr (SqT.of n5.at_)) rfl (by rfl) ?_
      have hb5 := n5.sm _ _ hb
      walk_at "rd"
      refine r_guard_row fc (n5.sm _ _ ho4) (rl.same n5.sm) fok hs.1 ne (by omega) (RowO.tk (Same.tk n5.sm) hO4) fun t H6 x6 h6 ht => ?_
      exact fin ((x0 n5.sm).trans x6) h6 ht fun fb H7 h => h
    | w hw ho hn =>
      have hg : isG r = false := by cases r <;> first | rfl | cases hw
      have hb4 := rowO_vs hO4 hg
      have hbv := fun (_ : Unit) => hb4
      cases r with
      | tell s =>
        simp only [R.vs] at hb4
        walk_at "rd"
        refine ⟨show 2 ≤ sizeLine by decide, fun t0 H5 n5 => ?_⟩
        refine v_inSq (.inr (SqT.of n5.at_)) rfl (by rfl) ?_
        have hb5 := n5.sm _ _ hb4
        have hfl5 := n5.sm _ _ hfl
        have ho5 : FObj g H5 fo dx aa so := n5.sm _ _ ho4
        have rl5 := rl.same n5.sm
        walk_at "rd"
        refine ⟨ty_l hfl5, ?_⟩
        walk_at "rd"
        refine k_meth rfl ho5 rfl ?_
        walk_at "rd"
        refine r_root (s := s) fc ho5 rl5 fok ?_
        walk_at "rd"
        refine ⟨show 2 ≤ sizeLine by decide, fun t1 H6 n6 => ?_⟩
        walk_at "rd"
        have hfl6 := n6.sm _ _ hfl5
        refine v_app hfl6 (by rw [alen]; exact small_sz (by omega)) fun H7 w7 => ?_
        have tk7 := w7.tk hfl6 rfl
        have rl6 := rl5.same n6.sm
        obtain ⟨ψ6, d6, p6⟩ := rl6.so
        have nk : aa ≠ fl := ne_of rl6.al.lies hfl6 (by intro z; cases z)
        have nl : so ≠ fl := ne_of d6.lies hfl6 (by intro z; cases z)
        have ho6 : FObj g H6 fo dx aa so := n6.sm _ _ ho5
        have nf : fo ≠ fl := ne_of ho6 hfl6 (by intro z; cases z)
        have s56 := Same.trans n5.sm n6.sm
        exact ⟨F, acc ++ [.tell (rootF F s)], fl, _, _, rfl, by rw [List.append_assoc]; exact hk, fok, (RelP.mk (rl6.al.keep w7 nk) ⟨ψ6, d6.keep w7 nl, p6⟩).mono (Nat.le_succ _), w7.keep ho6 nf, by rw [List.length_append]; exact Nat.succ_le_succ al, w7.same (Same.trans s4 s56) ffl, ffl, w7.at_, RowsNew.put1 hfl haR s56 w7 (rowG (r := .tell (rootF F s)) n6.at_ rfl)⟩
      | put n k2 =>
        simp only [R.vs] at hb4
        walk_at "rd"
        refine ⟨show 2 ≤ sizeLine by decide, fun t0 H5 n5 => ?_⟩
        refine v_inSq (.inr (SqT.of n5.at_)) rfl (by rfl) ?_
        have hb5 := n5.sm _ _ hb4
        have ho5 : FObj g H5 fo dx aa so := n5.sm _ _ ho4
        have rl5 := rl.same n5.sm
        walk_at "rd"
        refine k_meth rfl ho5 rfl ?_
        walk_at "rd"
        refine r_root (s := .num k2) fc ho5 rl5 fok ?_
        refine r_set_row (E := E0) (s := .num k2) fc ho5 rl5 fok ne (by omega) fun t H6 x6 h6 ht => ?_
        exact fin ((x0 n5.sm).trans x6) h6 ht fun fb H7 h => h
      | copy n s =>
        simp only [R.vs] at hb4
        walk_at "rd"
        refine ⟨show 2 ≤ sizeLine by decide, fun t0 H5 n5 => ?_⟩
        refine v_inSq (.inr (SqT.of n5.at_)) rfl (by rfl) ?_
        have hb5 := n5.sm _ _ hb4
        have ho5 : FObj g H5 fo dx aa so := n5.sm _ _ ho4
        have rl5 := rl.same n5.sm
        walk_at "rd"
        refine k_meth rfl ho5 rfl ?_
        walk_at "rd"
        refine r_root (s := s) fc ho5 rl5 fok ?_
        refine r_set_row (E := E0) (s := rootF F s) fc ho5 rl5 fok ne (by omega) fun t H6 x6 h6 ht => ?_
        exact fin ((x0 n5.sm).trans x6) h6 ht fun fb H7 h => h
      | work w n x y =>
        cases w
        all_goals
          simp only [R.vs, Wk.s] at hb4
          walk_at "rd"
          refine ⟨show 2 ≤ sizeLine by decide, fun t0 H5 n5 => ?_⟩
          refine v_inSq (.inr (SqT.of n5.at_)) rfl (by rfl) ?_
          have hb5 := n5.sm _ _ hb4
          have ho5 : FObj g H5 fo dx aa so := n5.sm _ _ ho4
          have rl5 := rl.same n5.sm
          walk_at "rd"
          refine r_work_row fc ho5 rl5 fok ho.1 ho.2 ne (by omega) (n5.sm _ _ (hbv ())) fun t H6 x6 h6 ht => ?_
          exact fin ((x0 n5.sm).trans x6) h6 ht fun fb H7 h => h
      | _ => cases hw
  · rintro σ' H4 ⟨F, acc, fl, avs, x4, rfl, hk, fok, rl, ho4, al, s4, ffl, hfl, haR⟩
    rw [hlen, List.drop_length, knownA, List.append_nil] at hk
    have ht4 := s4 _ _ ht
    walk_at "rd"
    refine ⟨show 3 ≤ sizeLine by decide, fun t H5 n5 => ?_⟩
    refine q t fl H5 (Same.trans s4 n5.sm) n5.at_ ffl ⟨avs, n5.sm _ _ hfl, ?_⟩
    rw [← hk]
    exact RowsV.tk (Same.tk n5.sm) haR

end Tf

namespace Tf
open PySem L2
local macro_rules | `(tactic| walk_at "hl") => `(tactic| first
  | assumption
  | exact SqL.of (by walk_at "hh")
  | exact Same.seq (New.sm (by assumption)) (by walk_at "hl")
  | exact Same.seq (NewX.sm (by assumption)) (by walk_at "hl")
  | exact Same.seq (by assumption) (by walk_at "hl"))
local macro_rules | `(tactic| walk_at "ht") => `(tactic| first
  | assumption
  | exact SqT.of (by walk_at "hh")
  | exact Same.tup (New.sm (by assumption)) (by walk_at "ht")
  | exact Same.tup (NewX.sm (by assumption)) (by walk_at "ht")
  | exact Same.tup (by assumption) (by walk_at "ht"))
local macro_rules | `(tactic| walk_at "hr") => `(tactic| first
  | assumption
  | exact Or.inl (by walk_at "hh")
  | exact Same.rd (New.sm (by assumption)) (by walk_at "hr")
  | exact Same.rd (NewX.sm (by assumption)) (by walk_at "hr")
  | exact Same.rd (by assumption) (by walk_at "hr"))
local macro_rules | `(tactic| walk_at "hh") => `(tactic| first
  | assumption
  | exact New.at_ (by assumption)
  | exact NewX.at_ (by assumption)
  | exact Wr.at_ (by assumption)
  | exact Same.get (New.sm (by assumption)) (by walk_at "hh")
  | exact Same.get (NewX.sm (by assumption)) (by walk_at "hh")
  | exact Same.get (by assumption) (by walk_at "hh"))
local macro_rules | `(tactic| walk_at "sm") => `(tactic| first
  | exact Same.refl _
  | assumption
  | exact Same.tr2 (New.sm (by assumption)) (by walk_at "sm")
  | exact Same.tr2 (NewX.sm (by assumption)) (by walk_at "sm")
  | exact Same.tr2 (by assumption) (by walk_at "sm"))
local macro_rules | `(tactic| walk_at "ix") => `(tactic| with_reducible first | exact at0 | exact at1 | exact at2 | exact at3 | exact at4 | exact at5 | exact at6 | exact at7)
local macro_rules | `(tactic| walk_at "tyx") => `(tactic| first
  | exact TyX.base (TyOf.int _) | exact TyX.base (TyOf.str _) | exact TyX.base (TyOf.bl _) | exact TyX.base TyOf.non
  | exact TyX.base (TyOf.lst (by walk_at "hh")) | exact TyX.base (TyOf.tup (by walk_at "hh")) | exact TyX.base (TyOf.dK (by walk_at "hh")))
local macro_rules | `(tactic| walk_at "cond") => `(tactic| first | assumption | exact rfl | decide +kernel | omega | (simp only [List.length_cons, List.length_nil]; omega))
local macro_rules | `(tactic| walk_at "rd1") => `(tactic| first
  | with_reducible refine Rd.go ?_
  | ((with_reducible refine' k_var ?rdh ?_); (case rdh => exact rfl))
  | ((with_reducible refine' k_gt2 ?rdh ?_); (case rdh => walk_at "ht"))
  | ((with_reducible refine' v_mod ?rdh ?_); (case rdh => first | decide | omega))
  | ((with_reducible refine' v_fdiv ?rdh ?_); (case rdh => exact ⟨by decide, by decide⟩))
  | ((with_reducible refine' v_mulI ?rdh ?_); (case rdh => first | exact .inl ⟨by omega, by omega⟩ | exact .inr ⟨by omega, by omega⟩))
  | ((with_reducible refine' v_isiT ?rdh ?rdk ?_); (case rdh => walk_at "tyx"); (case rdk => decide +kernel))
  | ((with_reducible refine' v_isiF ?rdh ?rdk ?_); (case rdh => walk_at "tyx"); (case rdk => decide +kernel))
  | ((with_reducible refine' v_ixT ?rdh ?rdk ?_); (case rdh => walk_at "ht"); (case rdk => walk_at "ix"))
  | ((with_reducible refine' v_ixL ?rdh ?rdk ?_); (case rdh => walk_at "hl"); (case rdk => walk_at "ix"))
  | ((with_reducible refine' v_lenL ?rdh ?_); (case rdh => walk_at "hl"))
  | ((with_reducible refine' v_lenT ?rdh ?_); (case rdh => walk_at "ht"))
  | ((with_reducible refine' v_lenD ?rdh ?_); (case rdh => walk_at "hh"))
  | ((with_reducible refine' i_dT ?rdh ?_); (case rdh => walk_at "cond"))
  | ((with_reducible refine' i_dF ?rdh ?_); (case rdh => walk_at "cond"))
  | ((with_reducible refine' i_nT ?rdh ?_); (case rdh => walk_at "cond"))
  | ((with_reducible refine' i_nF ?rdh ?_); (case rdh => walk_at "cond"))
  | ((with_reducible refine' i_bT ?rdh ?_); (case rdh => first | assumption | decide +kernel))
  | ((with_reducible refine' i_bF ?rdh ?_); (case rdh => first | assumption | decide +kernel)))
local macro_rules | `(tactic| walk_at "rd") => `(tactic| repeat walk_at "rd1")

variable {ns ms : List Str} {e e1 e2 : En0} {r : R} {rs : List R} {F : Fx}
/-! ## what is known holds -/
structure Hold (F : Fx) (e : En0) : Prop where
  num : ∀ n i, F n = .num i → lkE e n = some i
  nm : ∀ n m, F n = .nm m → lkE e n = lkE e m ∧ (lkE e m).isSome = true
  no0 : ∀ n, F n = .non0 → (lkE e n).getD 0 ≠ 0
theorem Hold.lk (h : Hold F e1) (l : Lk e1 e2) : Hold F e2 := ⟨fun n i q => by rw [← l n]; exact h.num n i q, fun n m q => by rw [← l n, ← l m]; exact h.nm n m q, fun n q => by rw [← l n]; exact h.no0 n q⟩
theorem root_val (h : Hold F e) (s : Src) : srcV e (rootF F s) = srcV e s := by
  cases s with
  | num i => rfl
  | nm n =>
    cases hn : F n with
    | num i =>
      rw [show rootF F (.nm n) = .num i by simp only [rootF, hn]]
      show i = (lkE e n).getD 0
      rw [h.num n i hn]
      rfl
    | no => rw [show rootF F (.nm n) = .nm n by simp only [rootF, hn]]
    | non0 => rw [show rootF F (.nm n) = .nm n by simp only [rootF, hn]]
    | nm m =>
      have hl := (h.nm n m hn).1
      cases hm : F m with
      | num i =>
        rw [show rootF F (.nm n) = .num i by simp only [rootF, hn, hm]]
        show i = (lkE e n).getD 0
        rw [hl, h.num m i hm]
        rfl
      | _ =>
        rw [show rootF F (.nm n) = .nm m by simp only [rootF, hn, hm]]
        show (lkE e m).getD 0 = (lkE e n).getD 0
        rw [hl]
theorem root_in (h : Hold F e) {s : Src} (hs : srcIn e s) : srcIn e (rootF F s) := by
  have some_in : ∀ {n : Str}, (lkE e n).isSome = true → n ∈ keys e := fun {n} q => by
    obtain ⟨v, hv⟩ := Option.isSome_iff_exists.mp q
    exact List.mem_map.mpr ⟨_, lkE_some hv, rfl⟩
  cases s with
  | num i => trivial
  | nm n =>
    cases hn : F n with
    | num i => rw [show rootF F (.nm n) = .num i by simp only [rootF, hn]]; trivial
    | no => rw [show rootF F (.nm n) = .nm n by simp only [rootF, hn]]; exact hs
    | non0 => rw [show rootF F (.nm n) = .nm n by simp only [rootF, hn]]; exact hs
    | nm m =>
      have hl := (h.nm n m hn).2
      cases hm : F m with
      | num i => rw [show rootF F (.nm n) = .num i by simp only [rootF, hn, hm]]; trivial
      | _ => rw [show rootF F (.nm n) = .nm m by simp only [rootF, hn, hm]]; exact some_in hl
theorem Hold.forget (h : Hold F e) (n : Str) (v : Int) : Hold (forgetF F n) (putE e n v) := by
  have out : ∀ {k : Str}, forgetF F n k ≠ .no → k ≠ n ∧ F k ≠ .nm n ∧ forgetF F n k = F k := fun {k} q => by
    unfold forgetF at q ⊢
    by_cases c : k = n
    · rw [if_pos c] at q; exact absurd rfl q
    · rw [if_neg c] at q ⊢
      by_cases c2 : F k = .nm n
      · rw [if_pos c2] at q; exact absurd rfl q
      · exact ⟨c, c2, by rw [if_neg c2]⟩
  refine ⟨fun k i q => ?_, fun k m q => ?_, fun k q => ?_⟩
  · obtain ⟨o1, o2, o3⟩ := out (k := k) (by rw [q]; exact fun z => by cases z)
    rw [lkE_putE, if_neg o1]
    exact h.num k i (o3 ▸ q)
  · obtain ⟨o1, o2, o3⟩ := out (k := k) (by rw [q]; exact fun z => by cases z)
    have q' : F k = .nm m := o3 ▸ q
    have mn : m ≠ n := fun z => o2 (by rw [q', z])
    rw [lkE_putE, lkE_putE, if_neg o1, if_neg mn]
    exact h.nm k m q'
  · obtain ⟨o1, o2, o3⟩ := out (k := k) (by rw [q]; exact fun z => by cases z)
    rw [lkE_putE, if_neg o1]
    exact h.no0 k (o3 ▸ q)
theorem Hold.set {n : Str} {s : Src} {v : Int} (h : Hold F e) (hv : v = srcV e s) (hs : srcIn e s) (ne : s ≠ .nm n) : Hold (setF F n s) (putE e n v) := by
  have hf := h.forget n v
  refine ⟨fun k i q => ?_, fun k m q => ?_, fun k q => ?_⟩
  · by_cases c : k = n
    · subst c
      unfold setF at q
      rw [if_pos rfl] at q
      cases s with
      | num j => cases q; rw [lkE_putE, if_pos rfl, hv]; rfl
      | nm m => cases q
    · unfold setF at q
      rw [if_neg c] at q
      exact hf.num k i q
  · by_cases c : k = n
    · subst c
      unfold setF at q
      rw [if_pos rfl] at q
      cases s with
      | num j => cases q
      | nm m2 =>
        have e0 : m2 = m := by cases q; rfl
        subst e0
        have mn : m2 ≠ k := fun z => ne (by rw [z])
        obtain ⟨x, hx⟩ := lkE_mem (show m2 ∈ keys e from hs)
        rw [lkE_putE, if_pos rfl, lkE_putE, if_neg mn, hx, hv]
        exact ⟨by show some ((lkE e m2).getD 0) = some x; rw [hx]; rfl, rfl⟩
    · unfold setF at q
      rw [if_neg c] at q
      exact hf.nm k m q
  · by_cases c : k = n
    · subst c
      unfold setF at q
      rw [if_pos rfl] at q
      cases s <;> cases q
    · unfold setF at q
      rw [if_neg c] at q
      exact hf.no0 k q
theorem Hold.pass {n : Str} {z : Bool} (h : Hold F e) (hn : n ∈ keys e) (hF : F n = .no ∨ F n = .non0) (hz : decide (srcV e (.nm n) = 0) = z) : Hold (passF F n z) e := by
  obtain ⟨v, hv⟩ := lkE_mem hn
  have sv : srcV e (.nm n) = v := by show (lkE e n).getD 0 = v; rw [hv]; rfl
  rw [sv] at hz
  refine ⟨fun k i q => ?_, fun k m q => ?_, fun k q => ?_⟩
  · by_cases c : k = n
    · subst c
      unfold passF at q
      rw [if_pos rfl] at q
      cases z with
      | false => cases q
      | true => cases q; rw [hv, of_decide_eq_true hz]
    · unfold passF at q
      rw [if_neg c] at q
      exact h.num k i q
  · by_cases c : k = n
    · subst c
      unfold passF at q
      rw [if_pos rfl] at q
      cases z <;> cases q
    · unfold passF at q
      rw [if_neg c] at q
      exact h.nm k m q
  · by_cases c : k = n
    · subst c
      unfold passF at q
      rw [if_pos rfl] at q
      cases z with
      | false => rw [hv]; exact of_decide_eq_false hz
      | true => cases q
    · unfold passF at q
      rw [if_neg c] at q
      exact h.no0 k q
theorem simple_val {w : Wk} {u v s : Src} (hu : 0 ≤ srcV e u ∧ srcV e u < 1000000) (hv : 0 ≤ srcV e v ∧ srcV e v < 1000000) (h : simpleF w u v = some s) : w.f (srcV e u) (srcV e v) = srcV e s := by
  have z0 : srcV e (.num 0) = 0 := rfl
  have z1 : srcV e (.num 1) = 1 := rfl
  have go : simpleG w u v = some s → w.f (srcV e u) (srcV e v) = srcV e s := fun h => by
    unfold simpleG at h
    split at h
    · rename_i c
      cases h
      rw [z0]
      obtain ⟨cw, rfl⟩ := c
      rcases cw with rfl | rfl <;> simp [Wk.f]
    split at h
    · rename_i c
      cases h
      obtain ⟨cw, rfl⟩ := c
      rw [z0]
      rcases cw with rfl | rfl <;> simp only [Wk.f] <;> omega
    split at h
    · rename_i c
      cases h
      obtain ⟨rfl, rfl⟩ := c
      rw [z0]
      simp only [Wk.f]
      omega
    split at h
    · rename_i c
      cases h
      rw [z0]
      rcases c with ⟨rfl, rfl⟩ | ⟨rfl, rfl | rfl⟩
      · rw [z0]; simp only [Wk.f]; rw [if_neg (by omega)]
      · rw [z0]; simp [Wk.f]
      · rw [z0]; simp [Wk.f]
    split at h
    · rename_i c
      cases h
      obtain ⟨rfl, rfl⟩ := c
      rw [z1]
      simp only [Wk.f]
      omega
    split at h
    · rename_i c
      cases h
      obtain ⟨rfl, rfl⟩ := c
      rw [z1]
      simp only [Wk.f]
      omega
    · cases h
  cases u with
  | nm n => exact go h
  | num i =>
    cases v with
    | nm n => exact go h
    | num j => cases h; rfl
theorem Lk.mend (l : Lk e1 e2) (rp : List (Str × Src)) : Lk (mendE e1 rp) (mendE e2 rp) := by
  have go : ∀ (rp : List (Str × Src)) (m1 m2 : En0), Lk m1 m2 → Lk (rp.foldl (fun m x => putE m x.1 (Tf.srcV e1 x.2)) m1) (rp.foldl (fun m x => putE m x.1 (Tf.srcV e2 x.2)) m2) := fun rp => by
    induction rp with
    | nil => exact fun _ _ h => h
    | cons x t ih =>
      intro m1 m2 h
      refine ih _ _ ?_
      have e0 := l.srcV x.2
      show Lk (putE m1 x.1 (Tf.srcV e1 x.2)) (putE m2 x.1 (Tf.srcV e2 x.2))
      rw [e0]
      exact h.put _ _
  exact go rp e1 e2 l
structure RAl (x y : RR) : Prop where
  b : x.b = y.b
  p : x.p = y.p
  e : Lk x.e y.e
  t : x.t = y.t
  st : x.st = y.st

theorem simple_in {w : Wk} {u v s : Src} (hu : srcIn e u) (hv : srcIn e v) (h : simpleF w u v = some s) : srcIn e s := by
  have go : simpleG w u v = some s → srcIn e s := fun h => by
    unfold simpleG at h
    split at h
    · cases h; trivial
    split at h
    · cases h; exact hu
    split at h
    · cases h; exact hv
    split at h
    · cases h; trivial
    split at h
    · cases h; exact hu
    split at h
    · cases h; exact hv
    · cases h
  cases u with
  | nm n => exact go h
  | num i =>
    cases v with
    | nm n => exact go h
    | num j => cases h; trivial
/-- one row set: the numbers stay alike -/
theorem set_step {n : Str} {s : Src} {v : Int} {start stp : Int} {rest : List R} {t : List Int} (h : Hold F e1) (l : Lk e1 e2) (hs : IsRoot F s) (hi : srcIn e1 s) (hv : v = srcV e1 s) (hn : n ∈ keys e1) :
    ∃ e2', rndS start stp ((setRow F n s).1 ++ rest) e2 t = rndS start stp rest e2' t ∧ Lk (putE e1 n v) e2' ∧ Hold (setRow F n s).2 (putE e1 n v) := by
  unfold setRow
  by_cases c : rootF F (.nm n) = s
  · rw [if_pos c]
    have l1 : Lk (putE e1 n v) e1 := fun m => by
      rw [lkE_putE]
      by_cases cm : m = n
      · subst cm
        rw [if_pos rfl, hv, ← c, root_val h]
        obtain ⟨x, hx⟩ := lkE_mem hn
        show some ((lkE e1 m).getD 0) = _
        rw [hx]
        rfl
      · rw [if_neg cm]
    exact ⟨e2, rfl, fun m => (l1 m).trans (l m), h.lk l1.symm⟩
  · rw [if_neg c]
    have ne : s ≠ .nm n := fun z => c (by subst z; rcases hs with hs | hs <;> simp only [rootF, hs])
    refine ⟨putE e2 n v, ?_, l.put n v, h.set hv hi ne⟩
    have e0 : srcV e2 s = v := by rw [hv]; exact (l.srcV s).symm
    cases s with
    | num i =>
      show rndS start stp (R.put n i :: rest) e2 t = _
      rw [show v = i from hv]
      show rndS start stp rest (putE e2 n i) (t ++ []) = _
      rw [List.append_nil]
    | nm m =>
      show rndS start stp rest (putE e2 n (srcV e2 (.nm m))) (t ++ []) = _
      rw [e0, List.append_nil]
theorem known_rnd {start stp : Int} : ∀ (rs : List R) (F : Fx) (e1 e2 : En0) (t : List Int), (∀ r ∈ rs, TRow ms r) → VOk ms e1 → FOk F → Hold F e1 → Lk e1 e2 → RAl (rndS start stp rs e1 t) (rndS start stp (knownA rs F) e2 t)
  | [], F, e1, e2, t, _, _, _, _, l => ⟨rfl, rfl, l, rfl, rfl⟩
  | r :: rest, F, e1, e2, t, hr, vo, ok, h, l => by
    have tr := hr r (List.mem_cons.mpr (.inl rfl))
    have hr' : ∀ r ∈ rest, TRow ms r := fun r hr2 => hr r (List.mem_cons.mpr (.inr hr2))
    have ok2 := known_ok ok tr
    have ih := fun (e1 e2 : En0) (t : List Int) vo h l => known_rnd (start := start) (stp := stp) rest (knownR F r).2 e1 e2 t hr' vo ok2 h l
    rw [knownA]
    cases tr with
    | @g s z p st rp hs hrp hrl =>
      have hsi : srcIn e1 s := srcIn_of fun n hn => vo.inn n (hs.2 n hn)
      have hri := root_in h hsi
      have hroot := root_is ok hs.1
      have hval := root_val h s
      have ih2 := ih
      change ∀ (e1 e2 : En0) (t : List Int), VOk ms e1 → Hold (guardRow F s z p st rp).2 e1 → Lk e1 e2 → RAl (rndS start stp rest e1 t) (rndS start stp (knownA rest (guardRow F s z p st rp).2) e2 t) at ih2
      show RAl (rndS start stp (R.guard s z p st rp :: rest) e1 t) (rndS start stp ((guardRow F s z p st rp).1 ++ knownA rest (guardRow F s z p st rp).2) e2 t)
      unfold guardRow at ih2 ⊢
      generalize rootF F s = u at ih2 hri hroot hval
      rw [rndS]
      by_cases c : holdsF F u z = true
      · rw [if_pos c] at ih2 ⊢
        have pass : decide (srcV e1 s = 0) = z := by
          rw [← hval]
          cases u with
          | num i => exact of_decide_eq_true c
          | nm n =>
            have c' : (!z && decide (F n = .non0)) = true := c
            rw [Bool.and_eq_true] at c'
            have hz : z = false := by simpa using c'.1
            rw [hz]
            exact decide_eq_false (h.no0 n (of_decide_eq_true c'.2))
        rw [if_pos pass]
        exact ih2 e1 e2 t vo h l
      · rw [if_neg c] at ih2 ⊢
        show RAl _ (if (decide (srcV e2 u = 0)) = z then rndS start stp (knownA rest _) e2 t else ⟨false, p, mendE e2 rp, t, st⟩)
        have e0 : srcV e2 u = srcV e1 s := by rw [← hval]; exact (l.srcV u).symm
        rw [e0]
        by_cases pass : decide (srcV e1 s = 0) = z
        · rw [if_pos pass, if_pos pass]
          refine ih2 e1 e2 t vo ?_ l
          cases u with
          | num i => exact h
          | nm n => exact h.pass hri hroot (by rw [hval]; exact pass)
        · rw [if_neg pass, if_neg pass]
          exact ⟨rfl, rfl, l.mend rp, rfl, rfl⟩
    | w hw ho hn =>
      obtain ⟨ri, vo2⟩ := vo.done hw ho hn
      have e1' : rndS start stp (r :: rest) e1 t = rndS start stp rest (doneE e1 r) (t ++ toldE e1 r) := by cases r <;> first | rfl | cases hw
      rw [e1']
      cases r with
      | put n i =>
        obtain ⟨e2', q1, q2, q3⟩ := set_step (start := start) (stp := stp) (rest := knownA rest (setRow F n (.num i)).2) (t := t) (n := n) (s := .num i) (v := i) h l ho trivial rfl ri
        show RAl _ (rndS start stp ((setRow F n (.num i)).1 ++ knownA rest (setRow F n (.num i)).2) e2 t)
        rw [q1, show t ++ toldE e1 (.put n i) = t from List.append_nil t]
        exact ih _ e2' t vo2 q3 q2
      | copy n s =>
        obtain ⟨e2', q1, q2, q3⟩ := set_step (start := start) (stp := stp) (rest := knownA rest (setRow F n (rootF F s)).2) (t := t) (n := n) (s := rootF F s) (v := srcV e1 s) h l (root_is ok ho) (root_in h ri.2) (root_val h s).symm ri.1
        show RAl _ (rndS start stp ((setRow F n (rootF F s)).1 ++ knownA rest (setRow F n (rootF F s)).2) e2 t)
        rw [q1, show t ++ toldE e1 (.copy n s) = t from List.append_nil t]
        exact ih _ e2' t vo2 q3 q2
      | tell s =>
        show RAl (rndS start stp rest e1 (t ++ [srcV e1 s])) (rndS start stp (knownA rest F) e2 (t ++ [srcV e2 (rootF F s)]))
        rw [← l.srcV (rootF F s), root_val h s]
        exact ih e1 e2 _ vo h l
      | work w n x y =>
        have ih2 := ih
        change ∀ (e1 e2 : En0) (t : List Int), VOk ms e1 → Hold (workRow F w n x y).2 e1 → Lk e1 e2 → RAl (rndS start stp rest e1 t) (rndS start stp (knownA rest (workRow F w n x y).2) e2 t) at ih2
        show RAl _ (rndS start stp ((workRow F w n x y).1 ++ knownA rest (workRow F w n x y).2) e2 t)
        have hx := root_is ok ho.1
        have hy := root_is ok ho.2
        have ix := root_in h ri.2.1
        have iy := root_in h ri.2.2
        have vx := root_val h x
        have vy := root_val h y
        have bx := srcV_ok vo.ok ri.2.1 ho.1
        have by' := srcV_ok vo.ok ri.2.2 ho.2
        rw [show t ++ toldE e1 (.work w n x y) = t from List.append_nil t]
        unfold workRow at ih2 ⊢
        generalize rootF F x = u at ih2 hx ix vx
        generalize rootF F y = v at ih2 hy iy vy
        cases hs : simpleF w u v with
        | some s =>
          rw [hs] at ih2
          have hv : w.f (srcV e1 x) (srcV e1 y) = srcV e1 s := by
            rw [← vx, ← vy]
            exact simple_val (by rw [vx]; exact bx) (by rw [vy]; exact by') hs
          have hsi : srcIn e1 s := simple_in ix iy hs
          obtain ⟨e2', q1, q2, q3⟩ := set_step (start := start) (stp := stp) (rest := knownA rest (setRow F n s).2) (t := t) (n := n) (s := s) (v := w.f (srcV e1 x) (srcV e1 y)) h l (simple_root hx hy hs) hsi hv ri.1
          show RAl _ (rndS start stp ((setRow F n s).1 ++ knownA rest (setRow F n s).2) e2 t)
          rw [q1]
          exact ih2 _ e2' t vo2 q3 q2
        | none =>
          rw [hs] at ih2
          show RAl _ (rndS start stp (knownA rest (forgetF F n)) (putE e2 n (w.f (srcV e2 u) (srcV e2 v))) (t ++ []))
          rw [List.append_nil, ← l.srcV u, ← l.srcV v, vx, vy]
          exact ih2 _ _ t vo2 (h.forget n _) (l.put n _)
      | _ => cases hw

end Tf

namespace Tf
open PySem L2
local macro_rules | `(tactic| walk_at "hl") => `(tactic| first
  | assumption
  | exact SqL.of (by walk_at "hh")
  | exact Same.seq (New.sm (by assumption)) (by walk_at "hl")
  | exact Same.seq (NewX.sm (by assumption)) (by walk_at "hl")
  | exact Same.seq (by assumption) (by walk_at "hl"))
local macro_rules | `(tactic| walk_at "ht") => `(tactic| first
  | assumption
  | exact SqT.of (by walk_at "hh")
  | exact Same.tup (New.sm (by assumption)) (by walk_at "ht")
  | exact Same.tup (NewX.sm (by assumption)) (by walk_at "ht")
  | exact Same.tup (by assumption) (by walk_at "ht"))
local macro_rules | `(tactic| walk_at "hr") => `(tactic| first
  | assumption
  | exact Or.inl (by walk_at "hh")
  | exact Same.rd (New.sm (by assumption)) (by walk_at "hr")
  | exact Same.rd (NewX.sm (by assumption)) (by walk_at "hr")
  | exact Same.rd (by assumption) (by walk_at "hr"))
local macro_rules | `(tactic| walk_at "hh") => `(tactic| first
  | assumption
  | exact New.at_ (by assumption)
  | exact NewX.at_ (by assumption)
  | exact Wr.at_ (by assumption)
  | exact Same.get (New.sm (by assumption)) (by walk_at "hh")
  | exact Same.get (NewX.sm (by assumption)) (by walk_at "hh")
  | exact Same.get (by assumption) (by walk_at "hh"))
local macro_rules | `(tactic| walk_at "sm") => `(tactic| first
  | exact Same.refl _
  | assumption
  | exact Same.tr2 (New.sm (by assumption)) (by walk_at "sm")
  | exact Same.tr2 (NewX.sm (by assumption)) (by walk_at "sm")
  | exact Same.tr2 (by assumption) (by walk_at "sm"))
local macro_rules | `(tactic| walk_at "ix") => `(tactic| with_reducible first | exact at0 | exact at1 | exact at2 | exact at3 | exact at4 | exact at5 | exact at6 | exact at7)
local macro_rules | `(tactic| walk_at "tyx") => `(tactic| first
  | exact TyX.base (TyOf.int _) | exact TyX.base (TyOf.str _) | exact TyX.base (TyOf.bl _) | exact TyX.base TyOf.non
  | exact TyX.base (TyOf.lst (by walk_at "hh")) | exact TyX.base (TyOf.tup (by walk_at "hh")) | exact TyX.base (TyOf.dK (by walk_at "hh")))
local macro_rules | `(tactic| walk_at "cond") => `(tactic| first | assumption | exact rfl | decide +kernel | omega | (simp only [List.length_cons, List.length_nil]; omega))
local macro_rules | `(tactic| walk_at "rd1") => `(tactic| first
  | with_reducible refine Rd.go ?_
  | ((with_reducible refine' k_var ?rdh ?_); (case rdh => exact rfl))
  | ((with_reducible refine' k_gt2 ?rdh ?_); (case rdh => walk_at "ht"))
  | ((with_reducible refine' v_mod ?rdh ?_); (case rdh => first | decide | omega))
  | ((with_reducible refine' v_fdiv ?rdh ?_); (case rdh => exact ⟨by decide, by decide⟩))
  | ((with_reducible refine' v_mulI ?rdh ?_); (case rdh => first | exact .inl ⟨by omega, by omega⟩ | exact .inr ⟨by omega, by omega⟩))
  | ((with_reducible refine' v_isiT ?rdh ?rdk ?_); (case rdh => walk_at "tyx"); (case rdk => decide +kernel))
  | ((with_reducible refine' v_isiF ?rdh ?rdk ?_); (case rdh => walk_at "tyx"); (case rdk => decide +kernel))
  | ((with_reducible refine' v_ixT ?rdh ?rdk ?_); (case rdh => walk_at "ht"); (case rdk => walk_at "ix"))
  | ((with_reducible refine' v_ixL ?rdh ?rdk ?_); (case rdh => walk_at "hl"); (case rdk => walk_at "ix"))
  | ((with_reducible refine' v_lenL ?rdh ?_); (case rdh => walk_at "hl"))
  | ((with_reducible refine' v_lenT ?rdh ?_); (case rdh => walk_at "ht"))
  | ((with_reducible refine' v_lenD ?rdh ?_); (case rdh => walk_at "hh"))
  | ((with_reducible refine' i_dT ?rdh ?_); (case rdh => walk_at "cond"))
  | ((with_reducible refine' i_dF ?rdh ?_); (case rdh => walk_at "cond"))
  | ((with_reducible refine' i_nT ?rdh ?_); (case rdh => walk_at "cond"))
  | ((with_reducible refine' i_nF ?rdh ?_); (case rdh => walk_at "cond"))
  | ((with_reducible refine' i_bT ?rdh ?_); (case rdh => first | assumption | decide +kernel))
  | ((with_reducible refine' i_bF ?rdh ?_); (case rdh => first | assumption | decide +kernel)))
local macro_rules | `(tactic| walk_at "rd") => `(tactic| repeat walk_at "rd1")

variable {g : En} {H H0 H1 H2 : Hp} {Q : VK} {E : XK} {a b p l d : Addr} {ns ms : List Str} {e e1 e2 : En0} {r : R} {rs : List R} {σ : L2.St} {F : Fx} {k : Nat}
/-! ## what is known is a trace -/
theorem SrcG.okv {s : Src} (h : SrcG ms s) : okV s.v := by
  cases s with
  | num i => exact h.1
  | nm n => trivial
theorem merge_len {rp : List (Str × Src)} (h2 : rp.length ≤ 2) (hd : (rp.map (·.1)).Nodup) : (mergeK [] (rp.map fun x => ((Sum.inr x.1 : Key), x.2.v))).length = rp.length := by
  match rp, h2, hd with
  | [], _, _ => rfl
  | [x], _, _ => rfl
  | [x, y], _, hd =>
    have n : x.1 ≠ y.1 := fun z => (List.nodup_cons.mp hd).1 (List.mem_singleton.mpr z)
    show (putK (putK [] (Sum.inr x.1 : Key) x.2.v) (Sum.inr y.1 : Key) y.2.v).length = 2
    have e1 : putK [] (Sum.inr x.1 : Key) x.2.v = [((Sum.inr x.1 : Key), x.2.v)] := rfl
    rw [e1, putK_new _ (by rw [valV_neg (fun z => n (Sum.inr.inj z))]; rfl)]
    rfl
theorem r_law_guard2 {s : Src} {z : Bool} {pl st : Int} {rp : List (Str × Src)} (hs : okV s.v) (hb : RowO H b (.guard s z pl st rp)) (hr : ∀ x ∈ rp, x.1 ∈ ms ∧ SrcG ms x.2) (h2 : rp.length ≤ 2) (hd : (rp.map (·.1)).Nodup) (q : ∀ H2, Same H H2 → Q (.bl true) H2) : sp_law_guard g [.ref b] H Q E := by
  refine ⟨_, rfl, ?_⟩
  unfold t_law_guard
  obtain ⟨f, hb, o, ws, od, hq, hw⟩ := hb
  have hqt := SqT.frz (K := g.K) hq
  have hlw := hw.len
  walk_at "rd"
  refine r_law_source hs ?_
  walk_at "rd"
  refine v_isiT (TyX.fTuple hq) (by decide +kernel) ?_
  walk_at "rd"
  refine r_law_whole ?_
  walk_at "rd"
  refine r_law_whole ?_
  walk_at "rd"
  refine v_forT hqt (fun i σ' H' => ∃ x1, σ' = [some (.ref b), x1] ∧ Same H H') ⟨_, rfl, Same.refl _⟩ (fun i σ' H' ⟨_, _, s⟩ => Same.tup s hqt) ?_ ?_
  · rintro i x σ' H1 hx ⟨x1, rfl, s1⟩
    obtain ⟨y, hy, c, rfl, hc⟩ := hw.get hx
    have hm := hr y (List.mem_of_getElem? hy)
    have hc1 := s1 _ _ hc
    walk_at "rd"
    refine r_law_source hm.2.okv ?_
    walk_at "rd"
    exact ⟨_, rfl, s1⟩
  rintro σ' H' ⟨x1, rfl, s1⟩
  have hb1 := s1 _ _ hb
  have hq1 := s1 _ _ hq
  have hw1 : All2 (PairAt H') ws rp := hw.mono fun _ _ => PairAt.tk (Same.tk s1)
  walk_at "rd"
  obtain ⟨ps, rfl, hps⟩ : ∃ ps : List Addr, ws = ps.map V.ref ∧ Paired (fun p (kv : Key × V) => SqT g.K H' p [kV kv.1, kv.2]) ps (rp.map fun x => ((Sum.inr x.1 : Key), x.2.v)) := by
    match rp, ws, hw1 with
    | [], [], _ => exact ⟨[], rfl, .nil⟩
    | [], _ :: _, h => exact absurd h.len (by simp)
    | _ :: _, [], h => exact absurd h.len (by simp)
    | [x], [w], h =>
      obtain ⟨c, rfl, hc⟩ := h.at_ 0 _ _ rfl rfl
      exact ⟨[c], rfl, .cons (SqT.of hc) .nil⟩
    | [x], _ :: _ :: _, h => exact absurd h.len (by simp)
    | _ :: _ :: _, [_], h => exact absurd h.len (by simp)
    | [x, y], [w, v], h =>
      obtain ⟨c, rfl, hc⟩ := h.at_ 0 _ _ rfl rfl
      obtain ⟨c2, rfl, hc2⟩ := h.at_ 1 _ _ rfl rfl
      exact ⟨[c, c2], rfl, .cons (SqT.of hc) (.cons (SqT.of hc2) .nil)⟩
    | [x, y], _ :: _ :: _ :: _, h => exact absurd h.len (by simp)
    | _ :: _ :: _ :: _, _, _ => simp only [List.length_cons] at h2; omega
  refine ⟨f, o, ps, _, rfl, od, hq1, hps, fun c H2 n2 => ?_⟩
  have hb2 := n2.sm _ _ hb1
  have hqt2 := SqT.frz (K := g.K) (n2.sm _ _ hq1)
  have hc2 := n2.at_
  walk_at "rd"
  rw [merge_len h2 hd, ← hlw, decide_eq_true rfl]
  exact q H2 (Same.trans s1 n2.sm)
local macro_rules | `(tactic| walk_at "rp") => `(tactic| repeat (first | walk_at "rd1" | with_reducible refine k_pc ?_ | with_reducible refine k_pn ?_))
theorem r_law_trace2 {t m : Addr} {start st : Int} {f : List R} (ht : H t = some (.tup [.int start, .ref m, .int st])) (hm : RowsAt H m f) (hz : f.length ≤ 1000) (hf : ∀ r ∈ f, TRow ms r) (q : ∀ H2, Same H H2 → Q (.bl true) H2) : sp_law_trace g [.ref t] H Q E := by
  refine ⟨_, rfl, ?_⟩
  unfold t_law_trace
  obtain ⟨vs, hv, hR⟩ := hm
  walk_at "rd"
  refine k_disp fun c H1 n1 => ?_
  walk_at "rp"
  refine ⟨n1.at_, [(.inr "put", _), (.inr "copy", _), (.inr "add", _), (.inr "minus", _), (.inr "times", _), (.inr "less", _), (.inr "tell", _)], rfl, (show 7 ≤ 15 by decide), fun H2 w2 => ?_⟩
  have s2 : Same H H2 := w2.same n1.sm n1.fr
  have hc2 := w2.at_
  have ht2 := s2 _ _ ht
  have hv2 := s2 _ _ hv
  have hR2 := RowsV.tk (Same.tk s2) hR
  clear w2 n1
  walk_at "rd"
  refine v_forL (SqL.of hv2) (fun i σ' H' => ∃ x2 x3, σ' = [some (.ref t), some (.ref c), x2, x3] ∧ Same H2 H') ⟨_, _, rfl, Same.refl _⟩ (fun i σ' H' ⟨_, _, _, s⟩ => Same.seq s (SqL.of hv2)) ?_ ?_
  · rintro i x σ' H3 hx ⟨x2, x3, rfl, s3⟩
    obtain ⟨r, hr, bp, rfl, hO⟩ := hR2.get hx
    have tr := hf r (List.mem_of_getElem? hr)
    have hc3 := s3 _ _ hc2
    have hO3 := RowO.tk (Same.tk s3) hO
    cases tr with
    | @g s z p st' rp hs hrp hrl hrd =>
      obtain ⟨fq, hb3, hq3⟩ := id hO3
      walk_at "rd"
      refine r_law_guard2 hs.okv hO3 hrp hrl hrd fun H4 s4 => ?_
      walk_at "rd"
      exact ⟨_, _, rfl, Same.trans s3 s4⟩
    | w hw ho hn =>
      have hg : isG r = false := by cases r <;> first | rfl | cases hw
      have hb3 := rowO_vs hO3 hg
      have srcV' : ∀ {s : Src}, srcOk s → okV s.v := fun {s} h => by cases s <;> first | exact h | trivial
      have hok : ∀ x ∈ r.vs, okV x := fun x hx => by
        cases r <;> simp only [R.vs, List.mem_cons, List.not_mem_nil, or_false] at hx
        case put => rcases hx with rfl | rfl | rfl <;> first | exact ho | trivial
        case copy => rcases hx with rfl | rfl | rfl <;> first | exact srcV' ho | trivial
        case work => rcases hx with rfl | rfl | rfl | rfl <;> first | exact srcV' ho.1 | exact srcV' ho.2 | trivial
        case tell => rcases hx with rfl | rfl <;> first | exact srcV' ho | trivial
        all_goals cases hw
      have hne := vs_ne r hg
      have l4 := vs_len r
      have hb0 := fun (_ : Unit) => hb3
      cases r
      case' work w _ _ _ => cases w
      case' stop => cases hw
      case' jump => cases hw
      case' zero => cases hw
      case' guard => cases hw
      all_goals
        simp only [R.vs, Wk.s] at hb3
        walk_at "rd"
        refine ⟨⟨_, _, rfl, hc3⟩, ?_⟩
        walk_at "rd"
        refine ⟨c, _, .inr _, rfl, hc3, rfl, ?_⟩
        first | change rNeA g.K _ (.int 3) _ _ | change rNeA g.K _ (.int 4) _ _ | change rNeA g.K _ (.int 2) _ _
        walk_at "rd"
        refine v_slT (hb0 ()) fun cc H4 s4 hcc _ => ?_
        rw [cut1 _ hne] at hcc
        have hb4 := s4 _ _ hb3
        walk_at "rd"
        refine v_lcTt (SqT.of hcc) (by rw [List.length_drop]; omega) ?_ ?_
        · intro i x H' hx s Q' q'
          have hx2 := hok x (List.mem_of_mem_drop (List.mem_of_getElem? hx))
          simp only [wipe]
          walk_at "rd"
          exact r_law_source hx2 (q' H' (Same.refl _))
        · intro D H5 n5
          have hb5 := n5.sm _ _ hb4
          walk_at "rd"
          refine v_allT (SqL.of n5.at_) ?_
          walk_at "rd"
          first
          | exact ⟨_, _, rfl, Same.trans s3 (Same.trans s4 n5.sm)⟩
          | (refine r_law_whole ?_
             walk_at "rd"
             exact ⟨_, _, rfl, Same.trans s3 (Same.trans s4 n5.sm)⟩)
  · rintro σ' H3 ⟨x2, x3, rfl, s3⟩
    have ht3 := s3 _ _ ht2
    walk_at "rd"
    refine r_law_whole ?_
    walk_at "rd"
    exact r_law_whole (q H3 (Same.trans s2 s3))

end Tf

namespace Tf
open PySem L2
local macro_rules | `(tactic| walk_at "hl") => `(tactic| first
  | assumption
  | exact SqL.of (by walk_at "hh")
  | exact Same.seq (New.sm (by assumption)) (by walk_at "hl")
  | exact Same.seq (NewX.sm (by assumption)) (by walk_at "hl")
  | exact Same.seq (by assumption) (by walk_at "hl"))
local macro_rules | `(tactic| walk_at "ht") => `(tactic| first
  | assumption
  | exact SqT.of (by walk_at "hh")
  | exact Same.tup (New.sm (by assumption)) (by walk_at "ht")
  | exact Same.tup (NewX.sm (by assumption)) (by walk_at "ht")
  | exact Same.tup (by assumption) (by walk_at "ht"))
local macro_rules | `(tactic| walk_at "hr") => `(tactic| first
  | assumption
  | exact Or.inl (by walk_at "hh")
  | exact Same.rd (New.sm (by assumption)) (by walk_at "hr")
  | exact Same.rd (NewX.sm (by assumption)) (by walk_at "hr")
  | exact Same.rd (by assumption) (by walk_at "hr"))
local macro_rules | `(tactic| walk_at "hh") => `(tactic| first
  | assumption
  | exact New.at_ (by assumption)
  | exact NewX.at_ (by assumption)
  | exact Wr.at_ (by assumption)
  | exact Same.get (New.sm (by assumption)) (by walk_at "hh")
  | exact Same.get (NewX.sm (by assumption)) (by walk_at "hh")
  | exact Same.get (by assumption) (by walk_at "hh"))
local macro_rules | `(tactic| walk_at "sm") => `(tactic| first
  | exact Same.refl _
  | assumption
  | exact Same.tr2 (New.sm (by assumption)) (by walk_at "sm")
  | exact Same.tr2 (NewX.sm (by assumption)) (by walk_at "sm")
  | exact Same.tr2 (by assumption) (by walk_at "sm"))
local macro_rules | `(tactic| walk_at "ix") => `(tactic| with_reducible first | exact at0 | exact at1 | exact at2 | exact at3 | exact at4 | exact at5 | exact at6 | exact at7)
local macro_rules | `(tactic| walk_at "tyx") => `(tactic| first
  | exact TyX.base (TyOf.int _) | exact TyX.base (TyOf.str _) | exact TyX.base (TyOf.bl _) | exact TyX.base TyOf.non
  | exact TyX.base (TyOf.lst (by walk_at "hh")) | exact TyX.base (TyOf.tup (by walk_at "hh")) | exact TyX.base (TyOf.dK (by walk_at "hh")))
local macro_rules | `(tactic| walk_at "cond") => `(tactic| first | assumption | exact rfl | decide +kernel | omega | (simp only [List.length_cons, List.length_nil]; omega))
local macro_rules | `(tactic| walk_at "rd1") => `(tactic| first
  | with_reducible refine Rd.go ?_
  | ((with_reducible refine' k_var ?rdh ?_); (case rdh => exact rfl))
  | ((with_reducible refine' k_gt2 ?rdh ?_); (case rdh => walk_at "ht"))
  | ((with_reducible refine' v_mod ?rdh ?_); (case rdh => first | decide | omega))
  | ((with_reducible refine' v_fdiv ?rdh ?_); (case rdh => exact ⟨by decide, by decide⟩))
  | ((with_reducible refine' v_mulI ?rdh ?_); (case rdh => first | exact .inl ⟨by omega, by omega⟩ | exact .inr ⟨by omega, by omega⟩))
  | ((with_reducible refine' v_isiT ?rdh ?rdk ?_); (case rdh => walk_at "tyx"); (case rdk => decide +kernel))
  | ((with_reducible refine' v_isiF ?rdh ?rdk ?_); (case rdh => walk_at "tyx"); (case rdk => decide +kernel))
  | ((with_reducible refine' v_ixT ?rdh ?rdk ?_); (case rdh => walk_at "ht"); (case rdk => walk_at "ix"))
  | ((with_reducible refine' v_ixL ?rdh ?rdk ?_); (case rdh => walk_at "hl"); (case rdk => walk_at "ix"))
  | ((with_reducible refine' v_lenL ?rdh ?_); (case rdh => walk_at "hl"))
  | ((with_reducible refine' v_lenT ?rdh ?_); (case rdh => walk_at "ht"))
  | ((with_reducible refine' v_lenD ?rdh ?_); (case rdh => walk_at "hh"))
  | ((with_reducible refine' i_dT ?rdh ?_); (case rdh => walk_at "cond"))
  | ((with_reducible refine' i_dF ?rdh ?_); (case rdh => walk_at "cond"))
  | ((with_reducible refine' i_nT ?rdh ?_); (case rdh => walk_at "cond"))
  | ((with_reducible refine' i_nF ?rdh ?_); (case rdh => walk_at "cond"))
  | ((with_reducible refine' i_bT ?rdh ?_); (case rdh => first | assumption | decide +kernel))
  | ((with_reducible refine' i_bF ?rdh ?_); (case rdh => first | assumption | decide +kernel)))
local macro_rules | `(tactic| walk_at "rd") => `(tactic| repeat walk_at "rd1")

variable {g : En} {H H0 H1 H2 : Hp} {Q : VK} {E : XK} {a b p l d : Addr} {ns ms : List Str} {e e1 e2 : En0} {r : R} {rs : List R} {σ : L2.St} {F : Fx} {k : Nat}
def FIn (ms : List Str) (F : Fx) : Prop := ∀ n m, F n = .nm m → m ∈ ms
theorem root_g {s : Src} (hs : SrcG ms s) (ok : FOk F) (fi : FIn ms F) : SrcG ms (rootF F s) := by
  refine ⟨root_ok ok hs.1, ?_⟩
  cases s with
  | num i => exact hs.2
  | nm n =>
    cases hn : F n with
    | num i => rw [show rootF F (.nm n) = .num i by simp only [rootF, hn]]; exact fun m hm => by cases hm
    | no => rw [show rootF F (.nm n) = .nm n by simp only [rootF, hn]]; exact hs.2
    | non0 => rw [show rootF F (.nm n) = .nm n by simp only [rootF, hn]]; exact hs.2
    | nm m =>
      have hm2 := fi n m hn
      cases hm : F m with
      | num i => rw [show rootF F (.nm n) = .num i by simp only [rootF, hn, hm]]; exact fun m hm => by cases hm
      | _ => rw [show rootF F (.nm n) = .nm m by simp only [rootF, hn, hm]]; exact fun x hx => by rw [List.mem_singleton.mp hx]; exact hm2
theorem simple_g {w : Wk} {u v s : Src} (hu : SrcG ms u) (hv : SrcG ms v) (h : simpleF w u v = some s) : SrcG ms s := by
  have z0 : SrcG ms (.num 0) := .num (by decide)
  have go : simpleG w u v = some s → SrcG ms s := fun h => by
    unfold simpleG at h
    split at h
    · cases h; exact z0
    split at h
    · cases h; exact hu
    split at h
    · cases h; exact hv
    split at h
    · cases h; exact z0
    split at h
    · cases h; exact hu
    split at h
    · cases h; exact hv
    · cases h
  cases u with
  | nm n => exact go h
  | num i =>
    cases v with
    | nm n => exact go h
    | num j => cases h; exact .num w.f_ok
theorem forget_in (fi : FIn ms F) (n : Str) : FIn ms (forgetF F n) := fun x m h => by
  unfold forgetF at h
  split at h
  · cases h
  split at h
  · cases h
  · exact fi x m h
theorem set_tr {n : Str} {s : Src} (hn : n ∈ ms) (hs : SrcG ms s) (fi : FIn ms F) : (∀ r ∈ (setRow F n s).1, TRow ms r) ∧ FIn ms (setRow F n s).2 := by
  unfold setRow
  split
  · exact ⟨fun r h => (by cases h), fi⟩
  · refine ⟨fun r h => ?_, fun x m h => ?_⟩
    · cases s with
      | num i => rw [List.mem_singleton.mp h]; exact tPut hn hs.1
      | nm m => rw [List.mem_singleton.mp h]; exact tCopy hn hs
    · change setF F n s x = .nm m at h
      unfold setF at h
      split at h
      · cases s with
        | num i => cases h
        | nm m2 => cases h; exact hs.2 _ (List.mem_singleton.mpr rfl)
      · exact forget_in fi n x m h
theorem known_tr (ok : FOk F) (fi : FIn ms F) (h : TRow ms r) : (∀ r' ∈ (knownR F r).1, TRow ms r') ∧ FIn ms (knownR F r).2 := by
  cases h with
  | @g s z p st rp hs hr hl hd =>
    show (∀ r' ∈ (guardRow F s z p st rp).1, TRow ms r') ∧ FIn ms (guardRow F s z p st rp).2
    have hg := root_g hs ok fi
    unfold guardRow
    generalize rootF F s = u at hg
    split
    · exact ⟨fun r h => (by cases h), fi⟩
    · refine ⟨fun r h => by rw [List.mem_singleton.mp h]; exact .g hg hr hl hd, ?_⟩
      cases u with
      | num i => exact fi
      | nm n =>
        intro x m h
        change passF F n z x = .nm m at h
        unfold passF at h
        split at h
        · split at h <;> cases h
        · exact fi x m h
  | w hw ho hn =>
    cases r with
    | put n k => exact set_tr (hn n (List.mem_singleton.mpr rfl)) (.num ho) fi
    | copy n s => exact set_tr (hn n (List.mem_cons.mpr (.inl rfl))) (root_g ⟨ho, fun m hm => hn m (List.mem_cons.mpr (.inr hm))⟩ ok fi) fi
    | tell s => exact ⟨fun r h => by rw [List.mem_singleton.mp h]; exact tTell (root_g ⟨ho, hn⟩ ok fi), fi⟩
    | work w n x y =>
      show (∀ r' ∈ (workRow F w n x y).1, TRow ms r') ∧ FIn ms (workRow F w n x y).2
      have nn : n ∈ ms := hn n (List.mem_cons.mpr (.inl rfl))
      have hu := root_g (s := x) ⟨ho.1, fun m hm => hn m (List.mem_cons.mpr (.inr (List.mem_append.mpr (.inl hm))))⟩ ok fi
      have hv := root_g (s := y) ⟨ho.2, fun m hm => hn m (List.mem_cons.mpr (.inr (List.mem_append.mpr (.inr hm))))⟩ ok fi
      unfold workRow
      cases hs : simpleF w (rootF F x) (rootF F y) with
      | some s => exact set_tr nn (simple_g hu hv hs) fi
      | none => exact ⟨fun r h => by rw [List.mem_singleton.mp h]; exact tWork nn hu hv, forget_in fi n⟩
    | _ => cases hw
theorem knownA_tr : ∀ (rs : List R) (F : Fx), FOk F → FIn ms F → (∀ r ∈ rs, TRow ms r) → ∀ r ∈ knownA rs F, TRow ms r
  | [], _, _, _, _ => fun r h => by cases h
  | r :: t, F, ok, fi, h => by
    have tr := h r (List.mem_cons.mpr (.inl rfl))
    obtain ⟨k1, k2⟩ := known_tr ok fi tr
    exact all_app k1 (knownA_tr t _ (known_ok ok tr) k2 fun r hr => h r (List.mem_cons.mpr (.inr hr)))
theorem F0_in : FIn ms F0 := fun n m h => by cases h
theorem F0_hold : Hold F0 e := ⟨fun n i h => (by cases h), fun n m h => (by cases h), fun n h => (by cases h)⟩
theorem r_law_fits_k06 {sa na tf mf tt mt : Addr} {ss : List Int} {start stp : Int} (hS : SqL g.K H sa (ss.map V.int)) (h63 : ss.length ≤ 63) (hn : NamesOk ns) (ha : H na = some (.lst (ns.map V.str)))
    (h1 : H tf = some (.tup [.int start, .ref mf, .int stp])) (hm1 : RowsAt H mf (knownA rs F0)) (h2 : H tt = some (.tup [.int start, .ref mt, .int stp])) (hm2 : RowsAt H mt rs) (tr : ∀ r ∈ rs, TRow (ns.take 5) r) (hz : rs.length ≤ 50)
    (q : ∀ H2, Same H H2 → Q (.bl true) H2) : sp_law_fits_k06 g [.ref tf, .ref tt, .ref sa, .ref na] H Q E := by
  refine ⟨_, _, _, _, rfl, ?_⟩
  unfold t_law_fits_k06
  have kl := knownA_len rs F0
  have ktr := knownA_tr rs F0 F0_ok F0_in tr
  walk_at "rd"
  refine r_law_trace2 h1 hm1 (by omega) ktr fun H1 s1 => ?_
  have t1 := s1 _ _ h1
  have t2 := s1 _ _ h2
  obtain ⟨v1, hv1, hR1⟩ := RowsAt.same s1 hm1
  obtain ⟨v2, hv2, hR2⟩ := RowsAt.same s1 hm2
  have l1 := hR1.len
  have l2 := hR2.len
  walk_at "rd"
  refine v_forR1 (by omega) (by omega) (fun i σ' H' => ∃ x4 x5, σ' = [some (.ref tf), some (.ref tt), some (.ref sa), some (.ref na), x4, x5] ∧ Same H H') ⟨_, _, rfl, s1⟩ ?_ ?_
  · rintro i σ' H2 hi ⟨x4, x5, rfl, s2⟩
    walk_at "rd"
    refine r_law_drawn_values (Same.seq s2 hS) h63 hn (s2 _ _ ha) ⟨by omega, by omega⟩ fun e vo va H3 n3 => ?_
    have s3 := Same.trans s2 n3.sm
    walk_at "rd"
    refine r_law_round (s3 _ _ h1) (RowsAt.same s3 hm1) ktr (by omega) n3.at_ vo fun ta da la H4 R1 => ?_
    obtain ⟨s4, hta, hda, hla⟩ := R1
    have s34 := Same.trans s3 s4
    walk_at "rd"
    refine r_law_round (s34 _ _ h2) (RowsAt.same s34 hm2) tr (by omega) (s4 _ _ n3.at_) vo fun tb db lb H5 R2 => ?_
    obtain ⟨s5, htb, hdb, hlb⟩ := R2
    have al := known_rnd (start := start) (stp := stp) rs F0 e e [] tr vo F0_ok F0_hold (fun _ => rfl)
    obtain ⟨vo1, _⟩ := rnd_ok (start := start) (stp := stp) rs e [] tr vo
    obtain ⟨vo2, _⟩ := rnd_ok (start := start) (stp := stp) (knownA rs F0) e [] ktr vo
    generalize rndS start stp rs e [] = z1 at *
    generalize rndS start stp (knownA rs F0) e [] = z2 at *
    have hta5 := s5 _ _ hta
    rw [← al.b, ← al.p, ← al.st] at hta5
    have hla5 := s5 _ _ hla
    rw [← al.t] at hla5
    refine .inr (.inr (.inr ⟨9, by decide, ⟨ta, tb, _, _, rfl, rfl, SqT.of hta5, SqT.of htb, quint_eq (al.e.symm.eqv vo2.nd vo1.nd) (s5 _ _ hda) hdb hla5 hlb⟩, ?_⟩))
    walk_at "rd"
    exact ⟨_, _, rfl, Same.trans s34 s5⟩
  · rintro σ' H2 ⟨x4, x5, rfl, s2⟩
    have t1' := s2 _ _ h1
    have t2' := s2 _ _ h2
    walk_at "rd"
    refine r_law_known (RowsAt.same s2 hm2) tr (by omega) fun fl H3 s3 hf => ?_
    refine .inr (.inr ⟨9, by decide, rows_eqR (RowsAt.same (Same.trans s2 s3) hm1) hf, ?_⟩)
    exact q H3 (Same.trans s2 s3)
theorem r_law_k06 (fc : FcOk g) {sa : Addr} {ss : List Int} (hS : SqL g.K H sa (ss.map V.int)) (h63 : ss.length ≤ 63) (q : ∀ H2, Q (.bl true) H2) : sp_law_k06 g [.ref sa] H Q E := by
  refine ⟨_, rfl, ?_⟩
  unfold t_law_k06
  walk_at "rd"
  refine r_law_cell_at hS (by omega) ?_
  walk_at "rd"
  refine r_law_names fun ns hn na H1 n1 => ?_
  have ha1 := n1.at_
  have hS1 := Same.seq n1.sm hS
  walk_at "rd"
  refine r_law_drawn_trace hS1 h63 hn.nd (four_of hn) ha1 fun start stp rs tr hl40 t m H2 s2 ht hm => ?_
  have hS2 := Same.seq s2 hS1
  have ha2 := s2 _ _ ha1
  obtain ⟨mvs, hmv, hmR⟩ := id hm
  walk_at "rd"
  refine v_listL (SqL.of hmv) fun km H3 n3 => ?_
  have ht3 := n3.sm _ _ ht
  walk_at "rd"
  refine ⟨show 3 ≤ sizeLine by decide, fun kt H4 n4 => ?_⟩
  have s24 := Same.trans n3.sm n4.sm
  have ht4 := s24 _ _ ht
  have hm4 := RowsAt.same s24 hm
  have hk4 : RowsAt H4 km rs := ⟨mvs, n4.sm _ _ n3.at_, RowsV.tk (Same.tk s24) hmR⟩
  have hkt4 := n4.at_
  have hS4 := Same.seq s24 hS2
  have ha4 := s24 _ _ ha2
  walk_at "rd"
  refine r_known fc hkt4 hk4 tr (by omega) fun t5 f5 H5 s5 ht5 ff5 hf5 => ?_
  walk_at "rd"
  refine r_law_fits_k06 (Same.seq s5 hS4) h63 hn (s5 _ _ ha4) ht5 hf5 (s5 _ _ ht4) (RowsAt.same s5 hm4) tr (by omega) fun H6 s6 => ?_
  have s46 := Same.trans s5 s6
  walk_at "rd"
  refine .inr (.inr (.inr ⟨9, by decide, ⟨kt, t, _, _, rfl, rfl, SqT.of (s46 _ _ hkt4), SqT.of (s46 _ _ ht4), trip_eq (RowsAt.same s46 hk4) (RowsAt.same s46 hm4)⟩, ?_⟩))
  obtain ⟨fvs, hfv, hfR⟩ := RowsAt.same s6 hf5
  have ht6 := s6 _ _ ht5
  have flen := hfR.len
  walk_at "rd"
  refine v_listL (SqL.of hfv) fun du H7 n7 => ?_
  have ht7 := n7.sm _ _ ht6
  have hfv7 := n7.sm _ _ hfv
  walk_at "rd"
  refine ⟨ty_l hfv7, ?_⟩
  refine v_clear hfv7 fun H8 w8 => ?_
  have s48 := w8.same (Same.trans s46 n7.sm) ff5
  have dne : du ≠ f5 := n7.ne hfv |>.symm
  have hdu8 := w8.keep n7.at_ dne
  walk_at "rd"
  refine r_known fc (s48 _ _ hkt4) (RowsAt.same s48 hk4) tr (by omega) fun t9 f9 H9 s9 ht9 ff9 hf9 => ?_
  have s49 := Same.trans s48 s9
  walk_at "rd"
  refine r_law_fits_k06 (Same.seq s49 hS4) h63 hn (s49 _ _ ha4) ht9 hf9 (s49 _ _ ht4) (RowsAt.same s49 hm4) tr (by omega) fun H10 s10 => ?_
  have ht10 := s10 _ _ ht9
  obtain ⟨gvs, hgv, hgR⟩ := RowsAt.same s10 hf9
  have hdu10 := s10 _ _ (s9 _ _ hdu8)
  walk_at "rd"
  rw [hgR.len, flen, decide_eq_true rfl]
  exact q H10
theorem true_k06 {K : PySem.W.Frag} (fc : Cls K (He.ga K "Facts") ∧ NoAttr K (He.ga K "Facts") "alike" ∧ NoAttr K (He.ga K "Facts") "some") {H : Hp} {a : Addr} {ns : List Int} (hl : ns.length ≤ 63) (hS : SqL K H a (ns.map V.int)) : sp_law_k06 (enOf K) [.ref a] H (fun v _ => v = .bl true) (fun _ _ _ => False) := r_law_k06 (g := enOf K) ⟨fc.1, fc.2.1, fc.2.2⟩ hS hl fun _ => rfl

end Tf

namespace H_k06
open PySem L2 Tf
def topS (i : Nat) : Stmt := PySem.Challenge.pw_tracefold_k06_what_is_known.main.body.getD i (.Pass ⟨0, 0, 0, 0⟩)
abbrev s_worked : Stmt := topS 2
abbrev s_Facts_init : Stmt := inClass (topS 4) 0
abbrev s_Facts_root : Stmt := inClass (topS 4) 1
abbrev s_Facts_forget : Stmt := inClass (topS 4) 2
abbrev s_Facts_note : Stmt := inClass (topS 4) 3
abbrev s_Facts_passed : Stmt := inClass (topS 4) 4
abbrev s_Facts_holds : Stmt := inClass (topS 4) 5
abbrev s_simple : Stmt := topS 5
abbrev s_set_row : Stmt := topS 6
abbrev s_work_row : Stmt := topS 7
abbrev s_guard_row : Stmt := topS 8
abbrev s_known : Stmt := topS 9
abbrev s_law_cell_at : Stmt := topS 11
abbrev s_law_whole : Stmt := topS 12
abbrev s_law_names : Stmt := topS 13
abbrev s_law_number : Stmt := topS 14
abbrev s_law_mixed : Stmt := topS 15
abbrev s_law_drawn_row : Stmt := topS 16
abbrev s_law_pattern : Stmt := topS 17
abbrev s_law_drawn_trace : Stmt := topS 18
abbrev s_law_drawn_values : Stmt := topS 19
abbrev s_law_value : Stmt := topS 20
abbrev s_law_done : Stmt := topS 21
abbrev s_law_told : Stmt := topS 22
abbrev s_law_round : Stmt := topS 23
abbrev s_law_source : Stmt := topS 24
abbrev s_law_guard : Stmt := topS 25
abbrev s_law_trace : Stmt := topS 26
abbrev s_law_give : Stmt := topS 27
abbrev s_law_easy : Stmt := topS 28
abbrev s_law_put_anew : Stmt := topS 29
abbrev s_law_set : Stmt := topS 30
abbrev s_law_asked : Stmt := topS 31
abbrev s_law_worked : Stmt := topS 32
abbrev s_law_known : Stmt := topS 33
abbrev s_law_fits_k06 : Stmt := topS 34
abbrev s_law_k06 : Stmt := topS 35
def dd_worked : He.DefD := ⟨("worked", none), "worked", "worked", defArgs s_worked, defBody s_worked, defScope s_worked, [], []⟩
def dd_Facts_init : He.DefD := ⟨("Facts", some "__init__"), "__init__", "Facts.__init__", defArgs s_Facts_init, defBody s_Facts_init, defScope s_Facts_init, [], []⟩
def dd_Facts_root : He.DefD := ⟨("Facts", some "root"), "root", "Facts.root", defArgs s_Facts_root, defBody s_Facts_root, defScope s_Facts_root, [], []⟩
def dd_Facts_forget : He.DefD := ⟨("Facts", some "forget"), "forget", "Facts.forget", defArgs s_Facts_forget, defBody s_Facts_forget, defScope s_Facts_forget, [], []⟩
def dd_Facts_note : He.DefD := ⟨("Facts", some "note"), "note", "Facts.note", defArgs s_Facts_note, defBody s_Facts_note, defScope s_Facts_note, [], []⟩
def dd_Facts_passed : He.DefD := ⟨("Facts", some "passed"), "passed", "Facts.passed", defArgs s_Facts_passed, defBody s_Facts_passed, defScope s_Facts_passed, [], []⟩
def dd_Facts_holds : He.DefD := ⟨("Facts", some "holds"), "holds", "Facts.holds", defArgs s_Facts_holds, defBody s_Facts_holds, defScope s_Facts_holds, [], []⟩
def dd_simple : He.DefD := ⟨("simple", none), "simple", "simple", defArgs s_simple, defBody s_simple, defScope s_simple, [], []⟩
def dd_set_row : He.DefD := ⟨("set_row", none), "set_row", "set_row", defArgs s_set_row, defBody s_set_row, defScope s_set_row, [], []⟩
def dd_work_row : He.DefD := ⟨("work_row", none), "work_row", "work_row", defArgs s_work_row, defBody s_work_row, defScope s_work_row, [], []⟩
def dd_guard_row : He.DefD := ⟨("guard_row", none), "guard_row", "guard_row", defArgs s_guard_row, defBody s_guard_row, defScope s_guard_row, [], []⟩
def dd_known : He.DefD := ⟨("known", none), "known", "known", defArgs s_known, defBody s_known, defScope s_known, [], []⟩
def dd_law_cell_at : He.DefD := ⟨("_law_cell_at", none), "_law_cell_at", "_law_cell_at", defArgs s_law_cell_at, defBody s_law_cell_at, defScope s_law_cell_at, [], []⟩
def dd_law_whole : He.DefD := ⟨("_law_whole", none), "_law_whole", "_law_whole", defArgs s_law_whole, defBody s_law_whole, defScope s_law_whole, [], []⟩
def dd_law_names : He.DefD := ⟨("_law_names", none), "_law_names", "_law_names", defArgs s_law_names, defBody s_law_names, defScope s_law_names, [], []⟩
def dd_law_number : He.DefD := ⟨("_law_number", none), "_law_number", "_law_number", defArgs s_law_number, defBody s_law_number, defScope s_law_number, [], []⟩
def dd_law_mixed : He.DefD := ⟨("_law_mixed", none), "_law_mixed", "_law_mixed", defArgs s_law_mixed, defBody s_law_mixed, defScope s_law_mixed, [], []⟩
def dd_law_drawn_row : He.DefD := ⟨("_law_drawn_row", none), "_law_drawn_row", "_law_drawn_row", defArgs s_law_drawn_row, defBody s_law_drawn_row, defScope s_law_drawn_row, [], []⟩
def dd_law_pattern : He.DefD := ⟨("_law_pattern", none), "_law_pattern", "_law_pattern", defArgs s_law_pattern, defBody s_law_pattern, defScope s_law_pattern, [], []⟩
def dd_law_drawn_trace : He.DefD := ⟨("_law_drawn_trace", none), "_law_drawn_trace", "_law_drawn_trace", defArgs s_law_drawn_trace, defBody s_law_drawn_trace, defScope s_law_drawn_trace, [], []⟩
def dd_law_drawn_values : He.DefD := ⟨("_law_drawn_values", none), "_law_drawn_values", "_law_drawn_values", defArgs s_law_drawn_values, defBody s_law_drawn_values, defScope s_law_drawn_values, [], []⟩
def dd_law_value : He.DefD := ⟨("_law_value", none), "_law_value", "_law_value", defArgs s_law_value, defBody s_law_value, defScope s_law_value, [], []⟩
def dd_law_done : He.DefD := ⟨("_law_done", none), "_law_done", "_law_done", defArgs s_law_done, defBody s_law_done, defScope s_law_done, [], []⟩
def dd_law_told : He.DefD := ⟨("_law_told", none), "_law_told", "_law_told", defArgs s_law_told, defBody s_law_told, defScope s_law_told, [], []⟩
def dd_law_round : He.DefD := ⟨("_law_round", none), "_law_round", "_law_round", defArgs s_law_round, defBody s_law_round, defScope s_law_round, [], []⟩
def dd_law_source : He.DefD := ⟨("_law_source", none), "_law_source", "_law_source", defArgs s_law_source, defBody s_law_source, defScope s_law_source, [], []⟩
def dd_law_guard : He.DefD := ⟨("_law_guard", none), "_law_guard", "_law_guard", defArgs s_law_guard, defBody s_law_guard, defScope s_law_guard, [], []⟩
def dd_law_trace : He.DefD := ⟨("_law_trace", none), "_law_trace", "_law_trace", defArgs s_law_trace, defBody s_law_trace, defScope s_law_trace, [], []⟩
def dd_law_give : He.DefD := ⟨("_law_give", none), "_law_give", "_law_give", defArgs s_law_give, defBody s_law_give, defScope s_law_give, [], []⟩
def dd_law_easy : He.DefD := ⟨("_law_easy", none), "_law_easy", "_law_easy", defArgs s_law_easy, defBody s_law_easy, defScope s_law_easy, [], []⟩
def dd_law_put_anew : He.DefD := ⟨("_law_put_anew", none), "_law_put_anew", "_law_put_anew", defArgs s_law_put_anew, defBody s_law_put_anew, defScope s_law_put_anew, [], []⟩
def dd_law_set : He.DefD := ⟨("_law_set", none), "_law_set", "_law_set", defArgs s_law_set, defBody s_law_set, defScope s_law_set, [], []⟩
def dd_law_asked : He.DefD := ⟨("_law_asked", none), "_law_asked", "_law_asked", defArgs s_law_asked, defBody s_law_asked, defScope s_law_asked, [], []⟩
def dd_law_worked : He.DefD := ⟨("_law_worked", none), "_law_worked", "_law_worked", defArgs s_law_worked, defBody s_law_worked, defScope s_law_worked, [], []⟩
def dd_law_known : He.DefD := ⟨("_law_known", none), "_law_known", "_law_known", defArgs s_law_known, defBody s_law_known, defScope s_law_known, [], []⟩
def dd_law_fits_k06 : He.DefD := ⟨("_law_fits", none), "_law_fits", "_law_fits", defArgs s_law_fits_k06, defBody s_law_fits_k06, defScope s_law_fits_k06, [], []⟩
def dd_law_k06 : He.DefD := ⟨("law", none), "law", "law", defArgs s_law_k06, defBody s_law_k06, defScope s_law_k06, [], []⟩
def fn : List He.DefD := ([dd_worked, dd_Facts_init, dd_Facts_root, dd_Facts_forget, dd_Facts_note, dd_Facts_passed, dd_Facts_holds, dd_simple, dd_set_row, dd_work_row, dd_guard_row, dd_known, dd_law_cell_at, dd_law_whole, dd_law_names, dd_law_number, dd_law_mixed, dd_law_drawn_row, dd_law_pattern, dd_law_drawn_trace] : List He.DefD) ++ ([dd_law_drawn_values, dd_law_value, dd_law_done, dd_law_told, dd_law_round, dd_law_source, dd_law_guard, dd_law_trace, dd_law_give, dd_law_easy, dd_law_put_anew, dd_law_set, dd_law_asked, dd_law_worked, dd_law_known, dd_law_fits_k06, dd_law_k06] : List He.DefD)
def fa : List He.Fa := ([.glo "Facts", .glo "_law_asked", .glo "_law_cell_at", .glo "_law_done", .glo "_law_drawn_row", .glo "_law_drawn_trace", .glo "_law_drawn_values", .glo "_law_easy", .glo "_law_fits", .glo "_law_give", .glo "_law_guard", .glo "_law_known", .glo "_law_mixed", .glo "_law_names", .glo "_law_number", .glo "_law_pattern", .glo "_law_put_anew", .glo "_law_round", .glo "_law_set", .glo "_law_source"] : List He.Fa) ++ ([.glo "_law_told", .glo "_law_trace", .glo "_law_value", .glo "_law_whole", .glo "_law_worked", .glo "guard_row", .glo "known", .glo "set_row", .glo "simple", .glo "work_row", .glo "worked", .glo "law", .int "BEYOND" 1000000, .free "all", .free "bool", .free "dict", .free "int", .free "isinstance", .free "len", .free "list"] : List He.Fa) ++ ([.free "max", .free "range", .free "str", .free "tuple", .cls "Facts", .mkr "Facts", .meth "Facts" "root", .meth "Facts" "forget", .meth "Facts" "note", .meth "Facts" "passed", .meth "Facts" "holds", .noat "Facts" "alike", .noat "Facts" "some"] : List He.Fa)
def ex (K : PySem.W.Frag) : Bool := true
abbrev R : PySem.W.OpenRow := PySem.W.OpenLaw.row PySem.Challenge.rw_tracefold_k06_what_is_known
abbrev hk : PySem.W.Hook := Hx.hookX 4 fa fn ex
def ob (s : PySem.W.SharedT) : He.AlD := Hx.obsXG 4 fa fn ex (HandSHeadRun.getT s)
theorem ob_eq (s : PySem.W.SharedT) : ob s = hk.obs s.abs := Hx.obsXG_eq (HandSHeadRun.getT_eq s)
def loose : List Str := (["BEYOND", "worked", "Facts", "simple", "set_row", "work_row", "guard_row", "known", "_law_cell_at", "_law_whole", "_law_names", "_law_number", "_law_mixed", "_law_drawn_row", "_law_pattern", "_law_drawn_trace", "_law_drawn_values", "_law_value", "_law_done", "_law_told", "_law_round", "_law_source", "_law_guard", "_law_trace", "_law_give", "_law_easy", "_law_put_anew", "_law_set", "_law_asked", "_law_worked"] : List Str) ++ (["_law_known", "_law_fits"] : List Str)
theorem run (w : World) : HandSHeadRun.RunEq R (PySem.W.view R.prog [35]) hk ob 9000 loose w := by
  intro os
  kernel_rfl
structure Tx (K : PySem.W.Frag) (mg : Str → Option Value) : Prop where
  c_BEYOND : ∃ t, mg "BEYOND" = some (.int 1000000 t)
  g_Facts : mg "Facts" = some (.ref (He.ga K "Facts"))
  g_law_asked : mg "_law_asked" = some (.ref (He.ga K "_law_asked"))
  g_law_cell_at : mg "_law_cell_at" = some (.ref (He.ga K "_law_cell_at"))
  g_law_done : mg "_law_done" = some (.ref (He.ga K "_law_done"))
  g_law_drawn_row : mg "_law_drawn_row" = some (.ref (He.ga K "_law_drawn_row"))
  g_law_drawn_trace : mg "_law_drawn_trace" = some (.ref (He.ga K "_law_drawn_trace"))
  g_law_drawn_values : mg "_law_drawn_values" = some (.ref (He.ga K "_law_drawn_values"))
  g_law_easy : mg "_law_easy" = some (.ref (He.ga K "_law_easy"))
  g_law_fits_k06 : mg "_law_fits" = some (.ref (He.ga K "_law_fits"))
  g_law_give : mg "_law_give" = some (.ref (He.ga K "_law_give"))
  g_law_guard : mg "_law_guard" = some (.ref (He.ga K "_law_guard"))
  g_law_known : mg "_law_known" = some (.ref (He.ga K "_law_known"))
  g_law_mixed : mg "_law_mixed" = some (.ref (He.ga K "_law_mixed"))
  g_law_names : mg "_law_names" = some (.ref (He.ga K "_law_names"))
  g_law_number : mg "_law_number" = some (.ref (He.ga K "_law_number"))
  g_law_pattern : mg "_law_pattern" = some (.ref (He.ga K "_law_pattern"))
  g_law_put_anew : mg "_law_put_anew" = some (.ref (He.ga K "_law_put_anew"))
  g_law_round : mg "_law_round" = some (.ref (He.ga K "_law_round"))
  g_law_set : mg "_law_set" = some (.ref (He.ga K "_law_set"))
  g_law_source : mg "_law_source" = some (.ref (He.ga K "_law_source"))
  g_law_told : mg "_law_told" = some (.ref (He.ga K "_law_told"))
  g_law_trace : mg "_law_trace" = some (.ref (He.ga K "_law_trace"))
  g_law_value : mg "_law_value" = some (.ref (He.ga K "_law_value"))
  g_law_whole : mg "_law_whole" = some (.ref (He.ga K "_law_whole"))
  g_law_worked : mg "_law_worked" = some (.ref (He.ga K "_law_worked"))
  g_guard_row : mg "guard_row" = some (.ref (He.ga K "guard_row"))
  g_known : mg "known" = some (.ref (He.ga K "known"))
  g_set_row : mg "set_row" = some (.ref (He.ga K "set_row"))
  g_simple : mg "simple" = some (.ref (He.ga K "simple"))
  g_work_row : mg "work_row" = some (.ref (He.ga K "work_row"))
  g_worked : mg "worked" = some (.ref (He.ga K "worked"))
  n_all : mg "all" = none
  n_bool : mg "bool" = none
  n_dict : mg "dict" = none
  n_int : mg "int" = none
  n_isinstance : mg "isinstance" = none
  n_len : mg "len" = none
  n_list : mg "list" = none
  n_max : mg "max" = none
  n_range : mg "range" = none
  n_str : mg "str" = none
  n_tuple : mg "tuple" = none
  cl_Facts : Cls K (He.ga K "Facts")
  k_Facts : Mk K (He.ga K "Facts") (He.ma K (He.ga K "Facts") "__init__")
  m_Facts_root : Meth K (He.ga K "Facts") "root" (He.ma K (He.ga K "Facts") "root")
  m_Facts_forget : Meth K (He.ga K "Facts") "forget" (He.ma K (He.ga K "Facts") "forget")
  m_Facts_note : Meth K (He.ga K "Facts") "note" (He.ma K (He.ga K "Facts") "note")
  m_Facts_passed : Meth K (He.ga K "Facts") "passed" (He.ma K (He.ga K "Facts") "passed")
  m_Facts_holds : Meth K (He.ga K "Facts") "holds" (He.ma K (He.ga K "Facts") "holds")
  a_Facts_alike : NoAttr K (He.ga K "Facts") "alike"
  a_Facts_some : NoAttr K (He.ga K "Facts") "some"
section
variable {P : Program} {w : World} {K : PySem.W.Frag} {mg : Str → Option Value} {base : Heap}
def n_worked : List Str := ["word", "one", "other"]
theorem sc_worked : FnScope n_worked ["word", "one", "other"] (defScope s_worked) := ⟨rfl, rfl, rfl, by decide +kernel, rfl, by decide +kernel, by decide +kernel⟩
theorem ok_worked (c : He.SaysD fa fn K) (T : Tx K mg) : OkF P w K mg base CX0 1 (He.fAd K ("worked", none)) ["word", "one", "other"] (sp_worked (enOf K)) := by
  obtain ⟨fd, F⟩ := c.def_ 0 (d := dd_worked) rfl
  refine ⟨fd, F.ok sc_worked (fun vs H Q E h => ?_) (fun cdv A outer s H vs Q E hr h => ⟨t_worked (enOf K), PSs.nox ?_, ?_⟩), F.bindsN (fun _ _ _ _ _ _ us hl => match us, hl with | [_, _, _], _ => rfl), F.kp⟩
  · obtain ⟨a0, a1, a2, rfl, _⟩ := h
    rfl
  · have hu := hr.units; have hu1 := hu_of hr
    exact pss_cons (ps_if (pt_cmpR (op_EqA hu) (pv 0) (pe_str) (nomark _)) (pss_one (ps_ret (pe_op op_mod (pe_op op_Add (pv 1) (pv 2)) (pe_gI (by rfl) T.c_BEYOND)))) (pss_nil))
      (pss_cons (ps_if (pt_cmpR (op_EqA hu) (pv 0) (pe_str) (nomark _)) (pss_one (ps_ret (pe_op op_mod (pe_op op_sub (pv 1) (pv 2)) (pe_gI (by rfl) T.c_BEYOND)))) (pss_nil))
      (pss_cons (ps_if (pt_cmpR (op_EqA hu) (pv 0) (pe_str) (nomark _)) (pss_one (ps_ret (pe_op op_mod (pe_op op_Mul (pv 1) (pv 2)) (pe_gI (by rfl) T.c_BEYOND)))) (pss_nil))
      (pss_one (ps_ret (pe_callTy c_int (by rfl) T.n_int (by decide +kernel) (pa_cons (pe_cmpR op_lt (pv 1) (pv 2) (nomark _)) (pa_nil)))))))
  · obtain ⟨a0, a1, a2, rfl, h⟩ := h
    exact h
def n_Facts_init : List Str := ["self"]
theorem sc_Facts_init : FnScope n_Facts_init ["self"] (defScope s_Facts_init) := ⟨rfl, rfl, rfl, by decide +kernel, rfl, by decide +kernel, by decide +kernel⟩
theorem ok_Facts_init (c : He.SaysD fa fn K) (T : Tx K mg) : OkF P w K mg base CX0 1 (He.fAd K ("Facts", some "__init__")) ["self"] (sp_Facts_init (enOf K)) := by
  obtain ⟨fd, F⟩ := c.def_ 1 (d := dd_Facts_init) rfl
  refine ⟨fd, F.ok sc_Facts_init (fun vs H Q E h => ?_) (fun cdv A outer s H vs Q E hr h => ⟨t_Facts_init (enOf K), PSs.nox ?_, ?_⟩), F.bindsN (fun _ _ _ _ _ _ us hl => match us, hl with | [_], _ => rfl), F.kp⟩
  · obtain ⟨a0, rfl, _⟩ := h
    rfl
  · have hu := hr.units; have hu1 := hu_of hr
    exact pss_cons (ps_fld (pv 0) (pe_dnewN) rfl)
      (pss_one (ps_fld (pv 0) (pe_dnewN) rfl))
  · obtain ⟨a0, rfl, h⟩ := h
    exact h
def n_Facts_root : List Str := ["self", "source", "found"]
theorem sc_Facts_root : FnScope n_Facts_root ["self", "source"] (defScope s_Facts_root) := ⟨rfl, rfl, rfl, by decide +kernel, rfl, by decide +kernel, by decide +kernel⟩
theorem ok_Facts_root (c : He.SaysD fa fn K) (T : Tx K mg) : OkF P w K mg base CX0 1 (He.fAd K ("Facts", some "root")) ["self", "source"] (sp_Facts_root (enOf K)) := by
  obtain ⟨fd, F⟩ := c.def_ 2 (d := dd_Facts_root) rfl
  refine ⟨fd, F.ok sc_Facts_root (fun vs H Q E h => ?_) (fun cdv A outer s H vs Q E hr h => ⟨t_Facts_root (enOf K), PSs.nox ?_, ?_⟩), F.bindsN (fun _ _ _ _ _ _ us hl => match us, hl with | [_, _], _ => rfl), F.kp⟩
  · obtain ⟨a0, a1, rfl, _⟩ := h
    rfl
  · have hu := hr.units; have hu1 := hu_of hr
    exact pss_cons (ps_if (pt_val (pe_callB c_isi (by rfl) T.n_isinstance (by decide +kernel) (pa_cons (pv 1) (pa_cons (pe_ty (by rfl) T.n_int (by decide +kernel)) (pa_nil))))) (pss_one (ps_ret (pv 1))) (pss_nil))
      (pss_cons (ps_set (i := 2) sc_Facts_root.nd rfl (Or.inl rfl) (pe_dg2 hu1 (pe_fld (pv 0) rfl) (pv 1) (pv 1) ⟨rfl, by rfl, by rfl, by rfl⟩))
      (pss_cons (ps_if (pt_val (pe_callB c_isi (by rfl) T.n_isinstance (by decide +kernel) (pa_cons (pv 2) (pa_cons (pe_ty (by rfl) T.n_int (by decide +kernel)) (pa_nil))))) (pss_one (ps_ret (pv 2))) (pss_nil))
      (pss_one (ps_ret (pe_dg2 hu1 (pe_fld (pv 0) rfl) (pv 2) (pv 2) ⟨rfl, by rfl, by rfl, by rfl⟩)))))
  · obtain ⟨a0, a1, rfl, h⟩ := h
    exact h
def n_Facts_forget : List Str := ["self", "name", "other"]
theorem sc_Facts_forget : FnScope n_Facts_forget ["self", "name"] (defScope s_Facts_forget) := ⟨rfl, rfl, rfl, by decide +kernel, rfl, by decide +kernel, by decide +kernel⟩
theorem ok_Facts_forget (c : He.SaysD fa fn K) (T : Tx K mg) : OkF P w K mg base CX0 1 (He.fAd K ("Facts", some "forget")) ["self", "name"] (sp_Facts_forget (enOf K)) := by
  obtain ⟨fd, F⟩ := c.def_ 3 (d := dd_Facts_forget) rfl
  refine ⟨fd, F.ok sc_Facts_forget (fun vs H Q E h => ?_) (fun cdv A outer s H vs Q E hr h => ⟨t_Facts_forget (enOf K), PSs.nox ?_, ?_⟩), F.bindsN (fun _ _ _ _ _ _ us hl => match us, hl with | [_, _], _ => rfl), F.kp⟩
  · obtain ⟨a0, a1, rfl, _⟩ := h
    rfl
  · have hu := hr.units; have hu1 := hu_of hr
    exact pss_cons (ps_expr (pe_dp2 (pe_fld (pv 0) rfl) (pv 1) (pe_non) ⟨rfl, by rfl, by rfl, by rfl⟩))
      (pss_cons (ps_expr (pe_dp2 (pe_fld (pv 0) rfl) (pv 1) (pe_non) ⟨rfl, by rfl, by rfl, by rfl⟩))
      (pss_one (ps_for PassesOwn.never rfl (pi_list (pe_callTy (c_list rfl) (by rfl) T.n_list (by decide +kernel) (pa_cons (pe_fld (pv 0) rfl) (pa_nil)))) (pg_name (i := 2) sc_Facts_forget.nd rfl (Or.inl rfl)) (pss_one (ps_if (pt_cmpR (op_EqA hu) (pe_ix (ix_A hu) (pe_fld (pv 0) rfl) (pv 2) (fun _ _ => rfl)) (pv 1) (nomark _)) (pss_one (ps_expr (pe_dp1 (pe_fld (pv 0) rfl) (pv 2) ⟨rfl, by rfl, by rfl, by rfl⟩))) (pss_nil))))))
  · obtain ⟨a0, a1, rfl, h⟩ := h
    exact h
def n_Facts_passed : List Str := ["self", "name", "is_nought"]
theorem sc_Facts_passed : FnScope n_Facts_passed ["self", "name", "is_nought"] (defScope s_Facts_passed) := ⟨rfl, rfl, rfl, by decide +kernel, rfl, by decide +kernel, by decide +kernel⟩
theorem ok_Facts_passed (c : He.SaysD fa fn K) (T : Tx K mg) : OkF P w K mg base CX0 1 (He.fAd K ("Facts", some "passed")) ["self", "name", "is_nought"] (sp_Facts_passed (enOf K)) := by
  obtain ⟨fd, F⟩ := c.def_ 5 (d := dd_Facts_passed) rfl
  refine ⟨fd, F.ok sc_Facts_passed (fun vs H Q E h => ?_) (fun cdv A outer s H vs Q E hr h => ⟨t_Facts_passed (enOf K), PSs.nox ?_, ?_⟩), F.bindsN (fun _ _ _ _ _ _ us hl => match us, hl with | [_, _, _], _ => rfl), F.kp⟩
  · obtain ⟨a0, a1, a2, rfl, _⟩ := h
    rfl
  · have hu := hr.units; have hu1 := hu_of hr
    exact pss_one (ps_if (pt_val (pv 2)) (pss_one (ps_dputN hu1 (pe_fld (pv 0) rfl) (pv 1) (pe_int) rfl)) (pss_one (ps_dputN hu1 (pe_fld (pv 0) rfl) (pv 1) (pe_bl) rfl)))
  · obtain ⟨a0, a1, a2, rfl, h⟩ := h
    exact h
def n_Facts_holds : List Str := ["self", "source", "is_nought"]
theorem sc_Facts_holds : FnScope n_Facts_holds ["self", "source", "is_nought"] (defScope s_Facts_holds) := ⟨rfl, rfl, rfl, by decide +kernel, rfl, by decide +kernel, by decide +kernel⟩
theorem ok_Facts_holds (c : He.SaysD fa fn K) (T : Tx K mg) : OkF P w K mg base CX0 1 (He.fAd K ("Facts", some "holds")) ["self", "source", "is_nought"] (sp_Facts_holds (enOf K)) := by
  obtain ⟨fd, F⟩ := c.def_ 6 (d := dd_Facts_holds) rfl
  refine ⟨fd, F.ok sc_Facts_holds (fun vs H Q E h => ?_) (fun cdv A outer s H vs Q E hr h => ⟨t_Facts_holds (enOf K), PSs.nox ?_, ?_⟩), F.bindsN (fun _ _ _ _ _ _ us hl => match us, hl with | [_, _, _], _ => rfl), F.kp⟩
  · obtain ⟨a0, a1, a2, rfl, _⟩ := h
    rfl
  · have hu := hr.units; have hu1 := hu_of hr
    exact pss_cons (ps_if (pt_val (pe_callB c_isi (by rfl) T.n_isinstance (by decide +kernel) (pa_cons (pv 1) (pa_cons (pe_ty (by rfl) T.n_int (by decide +kernel)) (pa_nil))))) (pss_one (ps_ret (pe_cmpR (op_EqA hu) (pe_cmpR (op_EqA hu) (pv 1) (pe_int) (nomark _)) (pv 2) (nomark _)))) (pss_nil))
      (pss_one (ps_ret (pe_and (pe_not (pv 2)) (pe_one (pe_cmpR (op_InA hu) (pv 1) (pe_fld (pv 0) rfl) (by rfl))))))
  · obtain ⟨a0, a1, a2, rfl, h⟩ := h
    exact h
def n_law_cell_at : List Str := ["_law_script", "_law_k"]
theorem sc_law_cell_at : FnScope n_law_cell_at ["_law_script", "_law_k"] (defScope s_law_cell_at) := ⟨rfl, rfl, rfl, by decide +kernel, rfl, by decide +kernel, by decide +kernel⟩
theorem ok_law_cell_at (c : He.SaysD fa fn K) (T : Tx K mg) : OkF P w K mg base CX0 1 (He.fAd K ("_law_cell_at", none)) ["_law_script", "_law_k"] (sp_law_cell_at (enOf K)) := by
  obtain ⟨fd, F⟩ := c.def_ 12 (d := dd_law_cell_at) rfl
  refine ⟨fd, F.ok sc_law_cell_at (fun vs H Q E h => ?_) (fun cdv A outer s H vs Q E hr h => ⟨t_law_cell_at (enOf K), PSs.nox ?_, ?_⟩), F.bindsN (fun _ _ _ _ _ _ us hl => match us, hl with | [_, _], _ => rfl), F.kp⟩
  · obtain ⟨a0, a1, rfl, _⟩ := h
    rfl
  · have hu := hr.units; have hu1 := hu_of hr
    exact pss_cons (ps_if (pt_cmpR op_lt (pv 1) (pe_callB c_len (by rfl) T.n_len (by decide +kernel) (pa_cons (pv 0) (pa_nil))) (nomark _)) (pss_one (ps_ret (pe_ix (ix_A hu) (pv 0) (pv 1) (fun _ _ => rfl)))) (pss_nil))
      (pss_one (ps_ret (pe_int)))
  · obtain ⟨a0, a1, rfl, h⟩ := h
    exact h
def n_law_whole : List Str := ["_law_found"]
theorem sc_law_whole : FnScope n_law_whole ["_law_found"] (defScope s_law_whole) := ⟨rfl, rfl, rfl, by decide +kernel, rfl, by decide +kernel, by decide +kernel⟩
theorem ok_law_whole (c : He.SaysD fa fn K) (T : Tx K mg) : OkF P w K mg base CX0 1 (He.fAd K ("_law_whole", none)) ["_law_found"] (sp_law_whole (enOf K)) := by
  obtain ⟨fd, F⟩ := c.def_ 13 (d := dd_law_whole) rfl
  refine ⟨fd, F.ok sc_law_whole (fun vs H Q E h => ?_) (fun cdv A outer s H vs Q E hr h => ⟨t_law_whole (enOf K), PSs.nox ?_, ?_⟩), F.bindsN (fun _ _ _ _ _ _ us hl => match us, hl with | [_], _ => rfl), F.kp⟩
  · obtain ⟨a0, rfl, _⟩ := h
    rfl
  · have hu := hr.units; have hu1 := hu_of hr
    exact pss_one (ps_ret (pe_and (pe_callB c_isi (by rfl) T.n_isinstance (by decide +kernel) (pa_cons (pv 0) (pa_cons (pe_ty (by rfl) T.n_int (by decide +kernel)) (pa_nil)))) (pe_one (pe_not (pe_callB c_isi (by rfl) T.n_isinstance (by decide +kernel) (pa_cons (pv 0) (pa_cons (pe_ty (by rfl) T.n_bool (by decide +kernel)) (pa_nil))))))))
  · obtain ⟨a0, rfl, h⟩ := h
    exact h
def n_law_names : List Str := ["_law_cell", "_law_letters", "_law_size", "_law_found", "_law_k", "_law_sign", "_law_place", "_law_ahead", "_law_behind"]
theorem sc_law_names : FnScope n_law_names ["_law_cell"] (defScope s_law_names) := ⟨rfl, rfl, rfl, by decide +kernel, rfl, by decide +kernel, by decide +kernel⟩
theorem ok_law_names (c : He.SaysD fa fn K) (T : Tx K mg) : OkF P w K mg base CX0 1 (He.fAd K ("_law_names", none)) ["_law_cell"] (sp_law_names (enOf K)) := by
  obtain ⟨fd, F⟩ := c.def_ 14 (d := dd_law_names) rfl
  refine ⟨fd, F.ok sc_law_names (fun vs H Q E h => ?_) (fun cdv A outer s H vs Q E hr h => ⟨t_law_names (enOf K), PSs.nox ?_, ?_⟩), F.bindsN (fun _ _ _ _ _ _ us hl => match us, hl with | [_], _ => rfl), F.kp⟩
  · obtain ⟨a0, rfl, _⟩ := h
    rfl
  · have hu := hr.units; have hu1 := hu_of hr
    exact pss_cons (ps_set (i := 1) sc_law_names.nd rfl (Or.inl rfl) (pe_str))
      (pss_cons (ps_set (i := 2) sc_law_names.nd rfl (Or.inl rfl) (pe_op op_Add (pe_int) (pe_op op_mod (pe_op op_fdiv (pv 0) (pe_int)) (pe_int))))
      (pss_cons (ps_set (i := 3) sc_law_names.nd rfl (Or.inl rfl) (pe_lstN (pa_nil)))
      (pss_cons (ps_for PassesOwn.never rfl (pi_range1 (by rfl) T.n_range (pa_cons (pe_int) (pa_nil))) (pg_name (i := 4) sc_law_names.nd rfl (Or.inl rfl)) (pss_cons (ps_set (i := 5) sc_law_names.nd rfl (Or.inl rfl) (pe_ix (ix_A hu) (pv 1) (pe_op op_mod (pe_op op_Add (pe_op op_fdiv (pv 0) (pe_int)) (pe_op op_Mul (pe_int) (pv 4))) (pe_int)) (fun _ _ => rfl)))
      (pss_one (ps_if (pt_cmpR (op_EqA hu) (pe_op op_mod (pv 0) (pe_int)) (pe_int) (nomark _)) (pss_one (ps_expr (pe_bm PySem.F.plainAttrs_list PySem.F.slot_list_append PySem.F.type_list_append mt_appN (pv 3) (pa_cons (pe_op op_Mul (pe_ix (ix_A hu) (pv 1) (pe_op op_mod (pe_op op_fdiv (pv 0) (pe_int)) (pe_int)) (fun _ _ => rfl)) (pe_op op_Add (pv 4) (pe_int))) pa_nil)))) (pss_cons (ps_set (i := 6) sc_law_names.nd rfl (Or.inl rfl) (pe_op op_mod (pe_op op_fdiv (pv 0) (pe_int)) (pv 2)))
      (pss_cons (ps_set (i := 7) sc_law_names.nd rfl (Or.inl rfl) (pe_op op_Mul (pe_ix (ix_A hu) (pv 1) (pv 2) (fun _ _ => rfl)) (pv 6)))
      (pss_cons (ps_set (i := 8) sc_law_names.nd rfl (Or.inl rfl) (pe_op op_Mul (pe_ix (ix_A hu) (pv 1) (pe_op op_Add (pv 2) (pe_op op_mod (pv 0) (pe_int))) (fun _ _ => rfl)) (pe_op op_sub (pe_op op_sub (pv 2) (pe_int)) (pv 6))))
      (pss_one (ps_expr (pe_bm PySem.F.plainAttrs_list PySem.F.slot_list_append PySem.F.type_list_append mt_appN (pv 3) (pa_cons (pe_op op_Add (pe_op op_Add (pv 7) (pv 5)) (pv 8)) pa_nil)))))))))))
      (pss_one (ps_ret (pv 3))))))
  · obtain ⟨a0, rfl, h⟩ := h
    exact h
def n_law_number : List Str := ["_law_cell"]
theorem sc_law_number : FnScope n_law_number ["_law_cell"] (defScope s_law_number) := ⟨rfl, rfl, rfl, by decide +kernel, rfl, by decide +kernel, by decide +kernel⟩
theorem ok_law_number (c : He.SaysD fa fn K) (T : Tx K mg) : OkF P w K mg base CX0 1 (He.fAd K ("_law_number", none)) ["_law_cell"] (sp_law_number (enOf K)) := by
  obtain ⟨fd, F⟩ := c.def_ 15 (d := dd_law_number) rfl
  refine ⟨fd, F.ok sc_law_number (fun vs H Q E h => ?_) (fun cdv A outer s H vs Q E hr h => ⟨t_law_number (enOf K), PSs.nox ?_, ?_⟩), F.bindsN (fun _ _ _ _ _ _ us hl => match us, hl with | [_], _ => rfl), F.kp⟩
  · obtain ⟨a0, rfl, _⟩ := h
    rfl
  · have hu := hr.units; have hu1 := hu_of hr
    exact pss_cons (ps_if (pt_cmpR (op_EqA hu) (pe_op op_mod (pv 0) (pe_int)) (pe_int) (nomark _)) (pss_one (ps_ret (pe_op op_mod (pe_op op_fdiv (pv 0) (pe_int)) (pe_op op_pow (pe_int) (pe_int))))) (pss_nil))
      (pss_cons (ps_if (pt_cmpR (op_EqA hu) (pe_op op_mod (pv 0) (pe_int)) (pe_int) (nomark _)) (pss_one (ps_ret (pe_op op_sub (pe_op op_sub (pe_op op_pow (pe_int) (pe_int)) (pe_int)) (pe_op op_mod (pe_op op_fdiv (pv 0) (pe_int)) (pe_int))))) (pss_nil))
      (pss_one (ps_ret (pe_op op_mod (pe_op op_fdiv (pv 0) (pe_int)) (pe_int)))))
  · obtain ⟨a0, rfl, h⟩ := h
    exact h
def n_law_pattern : List Str := ["_law_way", "_law_cell", "_law_names_here", "_law_one", "_law_two", "_law_far", "_law_asks", "_law_rows"]
theorem sc_law_pattern : FnScope n_law_pattern ["_law_way", "_law_cell", "_law_names_here"] (defScope s_law_pattern) := ⟨rfl, rfl, rfl, by decide +kernel, rfl, by decide +kernel, by decide +kernel⟩
theorem ok_law_pattern (c : He.SaysD fa fn K) (T : Tx K mg) : OkF P w K mg base CX0 1 (He.fAd K ("_law_pattern", none)) ["_law_way", "_law_cell", "_law_names_here"] (sp_law_pattern (enOf K)) := by
  obtain ⟨fd, F⟩ := c.def_ 18 (d := dd_law_pattern) rfl
  refine ⟨fd, F.ok sc_law_pattern (fun vs H Q E h => ?_) (fun cdv A outer s H vs Q E hr h => ⟨t_law_pattern (enOf K), PSs.nox ?_, ?_⟩), F.bindsN (fun _ _ _ _ _ _ us hl => match us, hl with | [_, _, _], _ => rfl), F.kp⟩
  · obtain ⟨a0, a1, a2, rfl, _⟩ := h
    rfl
  · have hu := hr.units; have hu1 := hu_of hr
    exact pss_cons (ps_set (i := 3) sc_law_pattern.nd rfl (Or.inl rfl) (pe_ix (ix_A hu) (pv 2) (pe_op op_mod (pv 1) (pe_int)) (fun _ _ => rfl)))
      (pss_cons (ps_set (i := 4) sc_law_pattern.nd rfl (Or.inl rfl) (pe_ix (ix_A hu) (pv 2) (pe_op op_mod (pe_op op_Add (pv 1) (pe_int)) (pe_int)) (fun _ _ => rfl)))
      (pss_cons (ps_set (i := 5) sc_law_pattern.nd rfl (Or.inl rfl) (pe_ix (ix_A hu) (pv 2) (pe_op op_mod (pe_op op_Add (pv 1) (pe_int)) (pe_int)) (fun _ _ => rfl)))
      (pss_cons (ps_set (i := 6) sc_law_pattern.nd rfl (Or.inl rfl) (pe_tupN (pa_cons (pe_str) (pa_cons (pv 3) (pa_cons (pe_bl) (pa_cons (pe_op op_mod (pv 1) (pe_int)) (pa_cons (pe_op op_Add (pe_int) (pe_op op_mod (pv 1) (pe_int))) (pa_cons (pe_tupF (pa_nil)) (pa_nil)))))))))
      (pss_cons (ps_if (pt_cmpR (op_EqA hu) (pv 0) (pe_int) (nomark _)) (pss_one (ps_ret (pe_lstN (pa_cons (pv 6) (pa_cons (pe_tupN (pa_cons (pe_ix (ix_A hu) (pe_lstN (pa_cons (pe_str) (pa_cons (pe_str) (pa_nil)))) (pe_op op_mod (pe_op op_fdiv (pv 1) (pe_int)) (pe_int)) (fun _ _ => rfl)) (pa_cons (pv 3) (pa_cons (pv 4) (pa_cons (pv 5) (pa_nil)))))) (pa_cons (pe_tupN (pa_cons (pe_str) (pa_cons (pv 3) (pa_cons (pe_bl) (pa_cons (pe_int) (pa_cons (pe_int) (pa_cons (pe_tupF (pa_nil)) (pa_nil)))))))) (pa_cons (pe_tupN (pa_cons (pe_str) (pa_cons (pv 3) (pa_nil)))) (pa_nil)))))))) (pss_nil))
      (pss_cons (ps_if (pt_cmpR (op_EqA hu) (pv 0) (pe_int) (nomark _)) (pss_one (ps_ret (pe_lstN (pa_cons (pe_tupN (pa_cons (pe_str) (pa_cons (pv 4) (pa_cons (pv 3) (pa_nil))))) (pa_cons (pe_tupN (pa_cons (pe_str) (pa_cons (pv 3) (pa_cons (pv 3) (pa_cons (pv 5) (pa_nil)))))) (pa_cons (pe_tupN (pa_cons (pe_str) (pa_cons (pv 4) (pa_nil)))) (pa_cons (pe_tupN (pa_cons (pe_str) (pa_cons (pv 4) (pa_cons (pe_bl) (pa_cons (pe_int) (pa_cons (pe_int) (pa_cons (pe_tupF (pa_nil)) (pa_nil)))))))) (pa_nil)))))))) (pss_nil))
      (pss_cons (ps_set (i := 7) sc_law_pattern.nd rfl (Or.inl rfl) (pe_lstN (pa_cons (pe_tupN (pa_cons (pe_str) (pa_cons (pv 5) (pa_cons (pe_cmpR (op_EqA hu) (pe_op op_mod (pe_op op_fdiv (pv 1) (pe_int)) (pe_int)) (pe_int) (nomark _)) (pa_cons (pe_int) (pa_cons (pe_int) (pa_cons (pe_tupF (pa_nil)) (pa_nil)))))))) (pa_cons (pe_tupN (pa_cons (pe_str) (pa_cons (pv 4) (pa_cons (pe_int) (pa_nil))))) (pa_cons (pe_tupN (pa_cons (pe_str) (pa_cons (pv 3) (pa_cons (pe_int) (pa_nil))))) (pa_nil))))))
      (pss_cons (ps_if (pt_cmpR (op_EqA hu) (pv 0) (pe_int) (nomark _)) (pss_one (ps_ret (pe_op op_Add (pe_lstN (pa_cons (pe_tupN (pa_cons (pe_str) (pa_cons (pv 3) (pa_cons (pv 4) (pa_nil))))) (pa_cons (pe_tupN (pa_cons (pe_ix (ix_A hu) (pe_lstN (pa_cons (pe_str) (pa_cons (pe_str) (pa_nil)))) (pe_op op_mod (pe_op op_fdiv (pv 1) (pe_int)) (pe_int)) (fun _ _ => rfl)) (pa_cons (pv 4) (pa_cons (pv 5) (pa_cons (pv 5) (pa_nil)))))) (pa_nil)))) (pv 7)))) (pss_nil))
      (pss_cons (ps_if (pt_cmpR (op_EqA hu) (pv 0) (pe_int) (nomark _)) (pss_one (ps_ret (pe_op op_Add (pe_lstN (pa_cons (pe_tupN (pa_cons (pe_str) (pa_cons (pv 4) (pa_cons (pe_int) (pa_nil))))) (pa_cons (pe_tupN (pa_cons (pe_str) (pa_cons (pv 3) (pa_cons (pv 4) (pa_nil))))) (pa_nil)))) (pv 7)))) (pss_nil))
      (pss_cons (ps_if (pt_cmpR (op_EqA hu) (pv 0) (pe_int) (nomark _)) (pss_one (ps_ret (pe_lstN (pa_cons (pe_tupN (pa_cons (pe_str) (pa_cons (pv 4) (pa_cons (pv 3) (pa_cons (pv 3) (pa_nil)))))) (pa_cons (pe_tupN (pa_cons (pe_ix (ix_A hu) (pe_lstN (pa_cons (pe_str) (pa_cons (pe_str) (pa_nil)))) (pe_op op_mod (pe_op op_fdiv (pv 1) (pe_int)) (pe_int)) (fun _ _ => rfl)) (pa_cons (pv 5) (pa_cons (pv 3) (pa_cons (pv 3) (pa_nil)))))) (pa_cons (pe_tupN (pa_cons (pe_str) (pa_cons (pv 4) (pa_nil)))) (pa_nil))))))) (pss_nil))
      (pss_one (ps_ret (pe_op op_Add (pe_lstN (pa_cons (pe_tupN (pa_cons (pe_str) (pa_cons (pv 3) (pa_cons (pe_int) (pa_nil))))) (pa_cons (pe_tupN (pa_cons (pe_str) (pa_cons (pv 4) (pa_cons (pv 3) (pa_cons (pv 5) (pa_nil)))))) (pa_cons (pe_tupN (pa_cons (pe_str) (pa_cons (pv 5) (pa_cons (pv 4) (pa_nil))))) (pa_cons (pe_tupN (pa_cons (pe_str) (pa_cons (pv 4) (pa_cons (pe_bl) (pa_cons (pe_int) (pa_cons (pe_int) (pa_cons (pe_tupF (pa_nil)) (pa_nil)))))))) (pa_nil)))))) (pv 7)))))))))))))
  · obtain ⟨a0, a1, a2, rfl, h⟩ := h
    exact h
def n_law_value : List Str := ["_law_names_here", "_law_source_here"]
theorem sc_law_value : FnScope n_law_value ["_law_names_here", "_law_source_here"] (defScope s_law_value) := ⟨rfl, rfl, rfl, by decide +kernel, rfl, by decide +kernel, by decide +kernel⟩
theorem ok_law_value (c : He.SaysD fa fn K) (T : Tx K mg) : OkF P w K mg base CX0 1 (He.fAd K ("_law_value", none)) ["_law_names_here", "_law_source_here"] (sp_law_value (enOf K)) := by
  obtain ⟨fd, F⟩ := c.def_ 21 (d := dd_law_value) rfl
  refine ⟨fd, F.ok sc_law_value (fun vs H Q E h => ?_) (fun cdv A outer s H vs Q E hr h => ⟨t_law_value (enOf K), PSs.nox ?_, ?_⟩), F.bindsN (fun _ _ _ _ _ _ us hl => match us, hl with | [_, _], _ => rfl), F.kp⟩
  · obtain ⟨a0, a1, rfl, _⟩ := h
    rfl
  · have hu := hr.units; have hu1 := hu_of hr
    exact pss_cons (ps_if (pt_val (pe_callB c_isi (by rfl) T.n_isinstance (by decide +kernel) (pa_cons (pv 1) (pa_cons (pe_ty (by rfl) T.n_int (by decide +kernel)) (pa_nil))))) (pss_one (ps_ret (pv 1))) (pss_nil))
      (pss_one (ps_ret (pe_ix (ix_A hu) (pv 0) (pv 1) (fun _ _ => rfl))))
  · obtain ⟨a0, a1, rfl, h⟩ := h
    exact h
def n_law_give : List Str := ["_law_source_here", "_law_kept", "_law_alike", "_law_other"]
theorem sc_law_give : FnScope n_law_give ["_law_source_here", "_law_kept", "_law_alike"] (defScope s_law_give) := ⟨rfl, rfl, rfl, by decide +kernel, rfl, by decide +kernel, by decide +kernel⟩
theorem ok_law_give (c : He.SaysD fa fn K) (T : Tx K mg) : OkF P w K mg base CX0 1 (He.fAd K ("_law_give", none)) ["_law_source_here", "_law_kept", "_law_alike"] (sp_law_give (enOf K)) := by
  obtain ⟨fd, F⟩ := c.def_ 28 (d := dd_law_give) rfl
  refine ⟨fd, F.ok sc_law_give (fun vs H Q E h => ?_) (fun cdv A outer s H vs Q E hr h => ⟨t_law_give (enOf K), PSs.nox ?_, ?_⟩), F.bindsN (fun _ _ _ _ _ _ us hl => match us, hl with | [_, _, _], _ => rfl), F.kp⟩
  · obtain ⟨a0, a1, a2, rfl, _⟩ := h
    rfl
  · have hu := hr.units; have hu1 := hu_of hr
    exact pss_cons (ps_if (pt_val (pe_callB c_isi (by rfl) T.n_isinstance (by decide +kernel) (pa_cons (pv 0) (pa_cons (pe_ty (by rfl) T.n_int (by decide +kernel)) (pa_nil))))) (pss_one (ps_ret (pv 0))) (pss_nil))
      (pss_cons (ps_set (i := 3) sc_law_give.nd rfl (Or.inl rfl) (pe_dg2 hu1 (pv 2) (pv 0) (pv 0) ⟨rfl, by rfl, by rfl, by rfl⟩))
      (pss_cons (ps_if (pt_cmpR op_ge (pe_dg2 hu1 (pv 1) (pv 0) (pe_un un_neg (pe_int)) ⟨rfl, by rfl, by rfl, by rfl⟩) (pe_int) (nomark _)) (pss_one (ps_ret (pe_ix (ix_A hu) (pv 1) (pv 0) (fun _ _ => rfl)))) (pss_nil))
      (pss_cons (ps_if (pt_cmpR op_ge (pe_dg2 hu1 (pv 1) (pv 3) (pe_un un_neg (pe_int)) ⟨rfl, by rfl, by rfl, by rfl⟩) (pe_int) (nomark _)) (pss_one (ps_ret (pe_ix (ix_A hu) (pv 1) (pv 3) (fun _ _ => rfl)))) (pss_nil))
      (pss_one (ps_ret (pv 3))))))
  · obtain ⟨a0, a1, a2, rfl, h⟩ := h
    exact h
def n_law_put_anew : List Str := ["_law_name", "_law_kept", "_law_alike", "_law_other"]
theorem sc_law_put_anew : FnScope n_law_put_anew ["_law_name", "_law_kept", "_law_alike"] (defScope s_law_put_anew) := ⟨rfl, rfl, rfl, by decide +kernel, rfl, by decide +kernel, by decide +kernel⟩
theorem ok_law_put_anew (c : He.SaysD fa fn K) (T : Tx K mg) : OkF P w K mg base CX0 1 (He.fAd K ("_law_put_anew", none)) ["_law_name", "_law_kept", "_law_alike"] (sp_law_put_anew (enOf K)) := by
  obtain ⟨fd, F⟩ := c.def_ 30 (d := dd_law_put_anew) rfl
  refine ⟨fd, F.ok sc_law_put_anew (fun vs H Q E h => ?_) (fun cdv A outer s H vs Q E hr h => ⟨t_law_put_anew (enOf K), PSs.nox ?_, ?_⟩), F.bindsN (fun _ _ _ _ _ _ us hl => match us, hl with | [_, _, _], _ => rfl), F.kp⟩
  · obtain ⟨a0, a1, a2, rfl, _⟩ := h
    rfl
  · have hu := hr.units; have hu1 := hu_of hr
    exact pss_cons (ps_expr (pe_dp2 (pv 1) (pv 0) (pe_non) ⟨rfl, by rfl, by rfl, by rfl⟩))
      (pss_cons (ps_expr (pe_dp2 (pv 2) (pv 0) (pe_non) ⟨rfl, by rfl, by rfl, by rfl⟩))
      (pss_one (ps_for PassesOwn.never rfl (pi_list (pe_callTy (c_list rfl) (by rfl) T.n_list (by decide +kernel) (pa_cons (pv 2) (pa_nil)))) (pg_name (i := 3) sc_law_put_anew.nd rfl (Or.inl rfl)) (pss_one (ps_if (pt_cmpR (op_EqA hu) (pe_ix (ix_A hu) (pv 2) (pv 3) (fun _ _ => rfl)) (pv 0) (nomark _)) (pss_one (ps_expr (pe_dp1 (pv 2) (pv 3) ⟨rfl, by rfl, by rfl, by rfl⟩))) (pss_nil))))))
  · obtain ⟨a0, a1, a2, rfl, h⟩ := h
    exact h
def n_Facts_note : List Str := ["self", "name", "source"]
theorem sc_Facts_note : FnScope n_Facts_note ["self", "name", "source"] (defScope s_Facts_note) := ⟨rfl, rfl, rfl, by decide +kernel, rfl, by decide +kernel, by decide +kernel⟩
theorem ok_Facts_note (c : He.SaysD fa fn K) (T : Tx K mg) (O_Facts_forget : OkF P w K mg base CX0 1 (He.fAd K ("Facts", some "forget")) ["self", "name"] (sp_Facts_forget (enOf K))) : OkF P w K mg base CX0 2 (He.fAd K ("Facts", some "note")) ["self", "name", "source"] (sp_Facts_note (enOf K)) := by
  obtain ⟨fd, F⟩ := c.def_ 4 (d := dd_Facts_note) rfl
  obtain ⟨fd_Facts_forget, F_Facts_forget, b_Facts_forget, _⟩ := O_Facts_forget
  refine ⟨fd, F.ok sc_Facts_note (fun vs H Q E h => ?_) (fun cdv A outer s H vs Q E hr h => ⟨t_Facts_note (enOf K), PSs.nox ?_, ?_⟩), F.bindsN (fun _ _ _ _ _ _ us hl => match us, hl with | [_, _, _], _ => rfl), F.kp⟩
  · obtain ⟨a0, a1, a2, rfl, _⟩ := h
    rfl
  · have hu := hr.units; have hu1 := hu_of hr
    exact pss_cons (ps_expr (pe_meth (pv 0) T.cl_Facts T.m_Facts_forget F_Facts_forget (hr.mono (by decide)) b_Facts_forget .nil pass0 (pa_cons (pv 1) (pa_nil))))
      (pss_one (ps_dputN hu1 (pe_fld (pv 0) rfl) (pv 1) (pv 2) rfl))
  · obtain ⟨a0, a1, a2, rfl, h⟩ := h
    exact h
def n_simple : List Str := ["word", "one", "other"]
theorem sc_simple : FnScope n_simple ["word", "one", "other"] (defScope s_simple) := ⟨rfl, rfl, rfl, by decide +kernel, rfl, by decide +kernel, by decide +kernel⟩
theorem ok_simple (c : He.SaysD fa fn K) (T : Tx K mg) (O_worked : OkF P w K mg base CX0 1 (He.fAd K ("worked", none)) ["word", "one", "other"] (sp_worked (enOf K))) : OkF P w K mg base CX0 2 (He.fAd K ("simple", none)) ["word", "one", "other"] (sp_simple (enOf K)) := by
  obtain ⟨fd, F⟩ := c.def_ 7 (d := dd_simple) rfl
  refine ⟨fd, F.ok sc_simple (fun vs H Q E h => ?_) (fun cdv A outer s H vs Q E hr h => ⟨t_simple (enOf K), PSs.nox ?_, ?_⟩), F.bindsN (fun _ _ _ _ _ _ us hl => match us, hl with | [_, _, _], _ => rfl), F.kp⟩
  · obtain ⟨a0, a1, a2, rfl, _⟩ := h
    rfl
  · have hu := hr.units; have hu1 := hu_of hr
    exact pss_cons (ps_if (PW.pt (pw_and (pt_val (pe_callB c_isi (by rfl) T.n_isinstance (by decide +kernel) (pa_cons (pv 1) (pa_cons (pe_ty (by rfl) T.n_int (by decide +kernel)) (pa_nil))))) (pw_and1 (pt_val (pe_callB c_isi (by rfl) T.n_isinstance (by decide +kernel) (pa_cons (pv 2) (pa_cons (pe_ty (by rfl) T.n_int (by decide +kernel)) (pa_nil)))))))) (pss_one (ps_ret (pe_callO O_worked (hr.mono (by decide)) (by rfl) T.g_worked pass0 (pa_cons (pv 0) (pa_cons (pv 1) (pa_cons (pv 2) (pa_nil))))))) (pss_nil))
      (pss_cons (ps_if (PW.pt (pw_and (pt_cmpR (op_InA hu) (pv 0) (pe_tupN (pa_cons (pe_str) (pa_cons (pe_str) (pa_nil)))) (by rfl)) (pw_and1 (pt_cmpR (op_EqA hu) (pv 1) (pv 2) (nomark _))))) (pss_one (ps_ret (pe_int))) (pss_nil))
      (pss_cons (ps_if (PW.pt (pw_and (pt_cmpR (op_InA hu) (pv 0) (pe_tupN (pa_cons (pe_str) (pa_cons (pe_str) (pa_nil)))) (by rfl)) (pw_and1 (pt_cmpR (op_EqA hu) (pv 2) (pe_int) (nomark _))))) (pss_one (ps_ret (pv 1))) (pss_nil))
      (pss_cons (ps_if (PW.pt (pw_and (pt_cmpR (op_EqA hu) (pv 0) (pe_str) (nomark _)) (pw_and1 (pt_cmpR (op_EqA hu) (pv 1) (pe_int) (nomark _))))) (pss_one (ps_ret (pv 2))) (pss_nil))
      (pss_cons (ps_if (PW.pt (pw_or (PW.pt (pw_and (pt_cmpR (op_EqA hu) (pv 0) (pe_str) (nomark _)) (pw_and1 (pt_cmpR (op_EqA hu) (pv 2) (pe_int) (nomark _))))) (pw_or1 (PW.pt (pw_and (pt_cmpR (op_EqA hu) (pv 0) (pe_str) (nomark _)) (pw_and1 (pt_cmpR (op_InA hu) (pe_int) (pe_tupN (pa_cons (pv 1) (pa_cons (pv 2) (pa_nil)))) (by rfl)))))))) (pss_one (ps_ret (pe_int))) (pss_nil))
      (pss_cons (ps_if (PW.pt (pw_and (pt_cmpR (op_EqA hu) (pv 0) (pe_str) (nomark _)) (pw_and1 (pt_cmpR (op_EqA hu) (pv 2) (pe_int) (nomark _))))) (pss_one (ps_ret (pv 1))) (pss_nil))
      (pss_cons (ps_if (PW.pt (pw_and (pt_cmpR (op_EqA hu) (pv 0) (pe_str) (nomark _)) (pw_and1 (pt_cmpR (op_EqA hu) (pv 1) (pe_int) (nomark _))))) (pss_one (ps_ret (pv 2))) (pss_nil))
      (pss_one (ps_ret (pe_non)))))))))
  · obtain ⟨a0, a1, a2, rfl, h⟩ := h
    exact h
def n_guard_row : List Str := ["facts", "row", "source"]
theorem sc_guard_row : FnScope n_guard_row ["facts", "row"] (defScope s_guard_row) := ⟨rfl, rfl, rfl, by decide +kernel, rfl, by decide +kernel, by decide +kernel⟩
theorem ok_guard_row (c : He.SaysD fa fn K) (T : Tx K mg) (O_Facts_holds : OkF P w K mg base CX0 1 (He.fAd K ("Facts", some "holds")) ["self", "source", "is_nought"] (sp_Facts_holds (enOf K))) (O_Facts_passed : OkF P w K mg base CX0 1 (He.fAd K ("Facts", some "passed")) ["self", "name", "is_nought"] (sp_Facts_passed (enOf K))) (O_Facts_root : OkF P w K mg base CX0 1 (He.fAd K ("Facts", some "root")) ["self", "source"] (sp_Facts_root (enOf K))) : OkF P w K mg base CX0 2 (He.fAd K ("guard_row", none)) ["facts", "row"] (sp_guard_row (enOf K)) := by
  obtain ⟨fd, F⟩ := c.def_ 10 (d := dd_guard_row) rfl
  obtain ⟨fd_Facts_holds, F_Facts_holds, b_Facts_holds, _⟩ := O_Facts_holds
  obtain ⟨fd_Facts_passed, F_Facts_passed, b_Facts_passed, _⟩ := O_Facts_passed
  obtain ⟨fd_Facts_root, F_Facts_root, b_Facts_root, _⟩ := O_Facts_root
  refine ⟨fd, F.ok sc_guard_row (fun vs H Q E h => ?_) (fun cdv A outer s H vs Q E hr h => ⟨t_guard_row (enOf K), PSs.nox ?_, ?_⟩), F.bindsN (fun _ _ _ _ _ _ us hl => match us, hl with | [_, _], _ => rfl), F.kp⟩
  · obtain ⟨a0, a1, rfl, _⟩ := h
    rfl
  · have hu := hr.units; have hu1 := hu_of hr
    exact pss_cons (ps_set (i := 2) sc_guard_row.nd rfl (Or.inl rfl) (pe_meth (pv 0) T.cl_Facts T.m_Facts_root F_Facts_root (hr.mono (by decide)) b_Facts_root .nil pass0 (pa_cons (pe_ix (ix_A hu) (pv 1) (pe_int) (fun _ _ => rfl)) (pa_nil))))
      (pss_cons (ps_if (pt_val (pe_meth (pv 0) T.cl_Facts T.m_Facts_holds F_Facts_holds (hr.mono (by decide)) b_Facts_holds .nil pass0 (pa_cons (pv 2) (pa_cons (pe_ix (ix_A hu) (pv 1) (pe_int) (fun _ _ => rfl)) (pa_nil))))) (pss_one (ps_ret (pe_lstN (pa_nil)))) (pss_nil))
      (pss_cons (ps_if (pt_not (pt_val (pe_callB c_isi (by rfl) T.n_isinstance (by decide +kernel) (pa_cons (pv 2) (pa_cons (pe_ty (by rfl) T.n_int (by decide +kernel)) (pa_nil)))))) (pss_one (ps_expr (pe_meth (pv 0) T.cl_Facts T.m_Facts_passed F_Facts_passed (hr.mono (by decide)) b_Facts_passed .nil pass0 (pa_cons (pv 2) (pa_cons (pe_ix (ix_A hu) (pv 1) (pe_int) (fun _ _ => rfl)) (pa_nil)))))) (pss_nil))
      (pss_one (ps_ret (pe_lstN (pa_cons (pe_tupN (pa_cons (pe_str) (pa_cons (pv 2) (pa_cons (pe_ix (ix_A hu) (pv 1) (pe_int) (fun _ _ => rfl)) (pa_cons (pe_ix (ix_A hu) (pv 1) (pe_int) (fun _ _ => rfl)) (pa_cons (pe_ix (ix_A hu) (pv 1) (pe_int) (fun _ _ => rfl)) (pa_cons (pe_ix (ix_A hu) (pv 1) (pe_int) (fun _ _ => rfl)) (pa_nil)))))))) (pa_nil)))))))
  · obtain ⟨a0, a1, rfl, h⟩ := h
    exact h
def n_law_mixed : List Str := ["_law_cell", "_law_names_here"]
theorem sc_law_mixed : FnScope n_law_mixed ["_law_cell", "_law_names_here"] (defScope s_law_mixed) := ⟨rfl, rfl, rfl, by decide +kernel, rfl, by decide +kernel, by decide +kernel⟩
theorem ok_law_mixed (c : He.SaysD fa fn K) (T : Tx K mg) (O_law_number : OkF P w K mg base CX0 1 (He.fAd K ("_law_number", none)) ["_law_cell"] (sp_law_number (enOf K))) : OkF P w K mg base CX0 2 (He.fAd K ("_law_mixed", none)) ["_law_cell", "_law_names_here"] (sp_law_mixed (enOf K)) := by
  obtain ⟨fd, F⟩ := c.def_ 16 (d := dd_law_mixed) rfl
  refine ⟨fd, F.ok sc_law_mixed (fun vs H Q E h => ?_) (fun cdv A outer s H vs Q E hr h => ⟨t_law_mixed (enOf K), PSs.nox ?_, ?_⟩), F.bindsN (fun _ _ _ _ _ _ us hl => match us, hl with | [_, _], _ => rfl), F.kp⟩
  · obtain ⟨a0, a1, rfl, _⟩ := h
    rfl
  · have hu := hr.units; have hu1 := hu_of hr
    exact pss_cons (ps_if (pt_cmpR (op_EqA hu) (pe_op op_mod (pv 0) (pe_int)) (pe_int) (nomark _)) (pss_one (ps_ret (pe_callO O_law_number (hr.mono (by decide)) (by rfl) T.g_law_number pass0 (pa_cons (pe_op op_fdiv (pv 0) (pe_int)) (pa_nil))))) (pss_nil))
      (pss_one (ps_ret (pe_ix (ix_A hu) (pv 1) (pe_op op_mod (pe_op op_fdiv (pv 0) (pe_int)) (pe_int)) (fun _ _ => rfl))))
  · obtain ⟨a0, a1, rfl, h⟩ := h
    exact h
def n_law_drawn_values : List Str := ["_law_script", "_law_names_here", "_law_turn", "_law_found", "_law_k", "_law_cell"]
theorem sc_law_drawn_values : FnScope n_law_drawn_values ["_law_script", "_law_names_here", "_law_turn"] (defScope s_law_drawn_values) := ⟨rfl, rfl, rfl, by decide +kernel, rfl, by decide +kernel, by decide +kernel⟩
theorem ok_law_drawn_values (c : He.SaysD fa fn K) (T : Tx K mg) (O_law_cell_at : OkF P w K mg base CX0 1 (He.fAd K ("_law_cell_at", none)) ["_law_script", "_law_k"] (sp_law_cell_at (enOf K))) (O_law_number : OkF P w K mg base CX0 1 (He.fAd K ("_law_number", none)) ["_law_cell"] (sp_law_number (enOf K))) : OkF P w K mg base CX0 2 (He.fAd K ("_law_drawn_values", none)) ["_law_script", "_law_names_here", "_law_turn"] (sp_law_drawn_values (enOf K)) := by
  obtain ⟨fd, F⟩ := c.def_ 20 (d := dd_law_drawn_values) rfl
  refine ⟨fd, F.ok sc_law_drawn_values (fun vs H Q E h => ?_) (fun cdv A outer s H vs Q E hr h => ⟨t_law_drawn_values (enOf K), PSs.nox ?_, ?_⟩), F.bindsN (fun _ _ _ _ _ _ us hl => match us, hl with | [_, _, _], _ => rfl), F.kp⟩
  · obtain ⟨a0, a1, a2, rfl, _⟩ := h
    rfl
  · have hu := hr.units; have hu1 := hu_of hr
    exact pss_cons (ps_set (i := 3) sc_law_drawn_values.nd rfl (Or.inl rfl) (pe_dnewN))
      (pss_cons (ps_for PassesOwn.never rfl (pi_range1 (by rfl) T.n_range (pa_cons (pe_int) (pa_nil))) (pg_name (i := 4) sc_law_drawn_values.nd rfl (Or.inl rfl)) (pss_cons (ps_set (i := 5) sc_law_drawn_values.nd rfl (Or.inl rfl) (pe_callO O_law_cell_at (hr.mono (by decide)) (by rfl) T.g_law_cell_at pass0 (pa_cons (pv 0) (pa_cons (pe_op op_Add (pe_int) (pe_op op_mod (pe_op op_Add (pv 4) (pe_op op_Mul (pe_int) (pv 2))) (pe_callB (c_max2 rfl) (by rfl) T.n_max (by decide +kernel) (pa_cons (pe_int) (pa_cons (pe_callB c_len (by rfl) T.n_len (by decide +kernel) (pa_cons (pv 0) (pa_nil))) (pa_nil)))))) (pa_nil)))))
      (pss_one (ps_dputN hu1 (pv 3) (pe_ix (ix_A hu) (pv 1) (pv 4) (fun _ _ => rfl)) (pe_ix (ix_A hu) (pe_lstN (pa_cons (pe_op op_mod (pe_op op_fdiv (pv 5) (pe_int)) (pe_int)) (pa_cons (pe_op op_mod (pe_op op_fdiv (pv 5) (pe_int)) (pe_int)) (pa_cons (pe_callO O_law_number (hr.mono (by decide)) (by rfl) T.g_law_number pass0 (pa_cons (pe_op op_fdiv (pv 5) (pe_int)) (pa_nil))) (pa_nil))))) (pe_op op_mod (pv 5) (pe_int)) (fun _ _ => rfl)) rfl))))
      (pss_one (ps_ret (pv 3))))
  · obtain ⟨a0, a1, a2, rfl, h⟩ := h
    exact h
def n_law_done : List Str := ["_law_row", "_law_names_here", "_law_found", "_law_one", "_law_other", "_law_come"]
theorem sc_law_done : FnScope n_law_done ["_law_row", "_law_names_here"] (defScope s_law_done) := ⟨rfl, rfl, rfl, by decide +kernel, rfl, by decide +kernel, by decide +kernel⟩
theorem ok_law_done (c : He.SaysD fa fn K) (T : Tx K mg) (O_law_value : OkF P w K mg base CX0 1 (He.fAd K ("_law_value", none)) ["_law_names_here", "_law_source_here"] (sp_law_value (enOf K))) : OkF P w K mg base CX0 2 (He.fAd K ("_law_done", none)) ["_law_row", "_law_names_here"] (sp_law_done (enOf K)) := by
  obtain ⟨fd, F⟩ := c.def_ 22 (d := dd_law_done) rfl
  refine ⟨fd, F.ok sc_law_done (fun vs H Q E h => ?_) (fun cdv A outer s H vs Q E hr h => ⟨t_law_done (enOf K), PSs.nox ?_, ?_⟩), F.bindsN (fun _ _ _ _ _ _ us hl => match us, hl with | [_, _], _ => rfl), F.kp⟩
  · obtain ⟨a0, a1, rfl, _⟩ := h
    rfl
  · have hu := hr.units; have hu1 := hu_of hr
    exact pss_cons (ps_set (i := 2) sc_law_done.nd rfl (Or.inl rfl) (pe_callTy c_dict (by rfl) T.n_dict (by decide +kernel) (pa_cons (pv 1) (pa_nil))))
      (pss_cons (ps_if (pt_cmpR (op_EqA hu) (pe_ix (ix_A hu) (pv 0) (pe_int) (fun _ _ => rfl)) (pe_str) (nomark _)) (pss_one (ps_ret (pv 2))) (pss_nil))
      (pss_cons (ps_set (i := 3) sc_law_done.nd rfl (Or.inl rfl) (pe_callO O_law_value (hr.mono (by decide)) (by rfl) T.g_law_value pass0 (pa_cons (pv 1) (pa_cons (pe_ix (ix_A hu) (pv 0) (pe_int) (fun _ _ => rfl)) (pa_nil)))))
      (pss_cons (ps_if (pt_cmpR (op_InA hu) (pe_ix (ix_A hu) (pv 0) (pe_int) (fun _ _ => rfl)) (pe_lstN (pa_cons (pe_str) (pa_cons (pe_str) (pa_nil)))) (by rfl)) (pss_cons (ps_dputN hu1 (pv 2) (pe_ix (ix_A hu) (pv 0) (pe_int) (fun _ _ => rfl)) (pv 3) rfl)
      (pss_one (ps_ret (pv 2)))) (pss_nil))
      (pss_cons (ps_set (i := 4) sc_law_done.nd rfl (Or.inl rfl) (pe_callO O_law_value (hr.mono (by decide)) (by rfl) T.g_law_value pass0 (pa_cons (pv 1) (pa_cons (pe_ix (ix_A hu) (pv 0) (pe_int) (fun _ _ => rfl)) (pa_nil)))))
      (pss_cons (ps_if (pt_cmpR (op_EqA hu) (pe_ix (ix_A hu) (pv 0) (pe_int) (fun _ _ => rfl)) (pe_str) (nomark _)) (pss_one (ps_dputN hu1 (pv 2) (pe_ix (ix_A hu) (pv 0) (pe_int) (fun _ _ => rfl)) (pe_callTy c_int (by rfl) T.n_int (by decide +kernel) (pa_cons (pe_cmpR op_lt (pv 3) (pv 4) (nomark _)) (pa_nil))) rfl)) (pss_cons (ps_set (i := 5) sc_law_done.nd rfl (Or.inl rfl) (pe_dispN (pps_cons (pe_m (pe_str)) (pe_m (pe_op op_Add (pv 3) (pv 4))) (pps_cons (pe_m (pe_str)) (pe_m (pe_op op_sub (pv 3) (pv 4))) (pps_cons (pe_m (pe_str)) (pe_m (pe_op op_Mul (pv 3) (pv 4))) (pps_nil)))) (by rfl) (by rfl) (fun z => by cases z) (by decide)))
      (pss_one (ps_dputN hu1 (pv 2) (pe_ix (ix_A hu) (pv 0) (pe_int) (fun _ _ => rfl)) (pe_op op_mod (pe_ix (ix_A hu) (pv 5) (pe_ix (ix_A hu) (pv 0) (pe_int) (fun _ _ => rfl)) (fun _ _ => rfl)) (pe_op op_pow (pe_int) (pe_int))) rfl))))
      (pss_one (ps_ret (pv 2))))))))
  · obtain ⟨a0, a1, rfl, h⟩ := h
    exact h
def n_law_told : List Str := ["_law_row", "_law_names_here"]
theorem sc_law_told : FnScope n_law_told ["_law_row", "_law_names_here"] (defScope s_law_told) := ⟨rfl, rfl, rfl, by decide +kernel, rfl, by decide +kernel, by decide +kernel⟩
theorem ok_law_told (c : He.SaysD fa fn K) (T : Tx K mg) (O_law_value : OkF P w K mg base CX0 1 (He.fAd K ("_law_value", none)) ["_law_names_here", "_law_source_here"] (sp_law_value (enOf K))) : OkF P w K mg base CX0 2 (He.fAd K ("_law_told", none)) ["_law_row", "_law_names_here"] (sp_law_told (enOf K)) := by
  obtain ⟨fd, F⟩ := c.def_ 23 (d := dd_law_told) rfl
  refine ⟨fd, F.ok sc_law_told (fun vs H Q E h => ?_) (fun cdv A outer s H vs Q E hr h => ⟨t_law_told (enOf K), PSs.nox ?_, ?_⟩), F.bindsN (fun _ _ _ _ _ _ us hl => match us, hl with | [_, _], _ => rfl), F.kp⟩
  · obtain ⟨a0, a1, rfl, _⟩ := h
    rfl
  · have hu := hr.units; have hu1 := hu_of hr
    exact pss_cons (ps_if (pt_cmpR (op_EqA hu) (pe_ix (ix_A hu) (pv 0) (pe_int) (fun _ _ => rfl)) (pe_str) (nomark _)) (pss_one (ps_ret (pe_lstN (pa_cons (pe_callO O_law_value (hr.mono (by decide)) (by rfl) T.g_law_value pass0 (pa_cons (pv 1) (pa_cons (pe_ix (ix_A hu) (pv 0) (pe_int) (fun _ _ => rfl)) (pa_nil)))) (pa_nil))))) (pss_nil))
      (pss_one (ps_ret (pe_lstN (pa_nil))))
  · obtain ⟨a0, a1, rfl, h⟩ := h
    exact h
def n_law_source : List Str := ["_law_found"]
theorem sc_law_source : FnScope n_law_source ["_law_found"] (defScope s_law_source) := ⟨rfl, rfl, rfl, by decide +kernel, rfl, by decide +kernel, by decide +kernel⟩
theorem ok_law_source (c : He.SaysD fa fn K) (T : Tx K mg) (O_law_whole : OkF P w K mg base CX0 1 (He.fAd K ("_law_whole", none)) ["_law_found"] (sp_law_whole (enOf K))) : OkF P w K mg base CX0 2 (He.fAd K ("_law_source", none)) ["_law_found"] (sp_law_source (enOf K)) := by
  obtain ⟨fd, F⟩ := c.def_ 25 (d := dd_law_source) rfl
  refine ⟨fd, F.ok sc_law_source (fun vs H Q E h => ?_) (fun cdv A outer s H vs Q E hr h => ⟨t_law_source (enOf K), PSs.nox ?_, ?_⟩), F.bindsN (fun _ _ _ _ _ _ us hl => match us, hl with | [_], _ => rfl), F.kp⟩
  · obtain ⟨a0, rfl, _⟩ := h
    rfl
  · have hu := hr.units; have hu1 := hu_of hr
    exact pss_one (ps_ret (pe_or (pe_callB c_isi (by rfl) T.n_isinstance (by decide +kernel) (pa_cons (pv 0) (pa_cons (pe_ty (by rfl) T.n_str (by decide +kernel)) (pa_nil)))) (pe_one (pe_and (pe_callO O_law_whole (hr.mono (by decide)) (by rfl) T.g_law_whole pass0 (pa_cons (pv 0) (pa_nil))) (pe_one (pe_chain op_le op_lt (pe_int) (pv 0) (pe_op op_pow (pe_int) (pe_int))))))))
  · obtain ⟨a0, rfl, h⟩ := h
    exact h
def n_law_set : List Str := ["_law_name", "_law_source_here", "_law_kept", "_law_alike"]
theorem sc_law_set : FnScope n_law_set ["_law_name", "_law_source_here", "_law_kept", "_law_alike"] (defScope s_law_set) := ⟨rfl, rfl, rfl, by decide +kernel, rfl, by decide +kernel, by decide +kernel⟩
theorem ok_law_set (c : He.SaysD fa fn K) (T : Tx K mg) (O_law_give : OkF P w K mg base CX0 1 (He.fAd K ("_law_give", none)) ["_law_source_here", "_law_kept", "_law_alike"] (sp_law_give (enOf K))) (O_law_put_anew : OkF P w K mg base CX0 1 (He.fAd K ("_law_put_anew", none)) ["_law_name", "_law_kept", "_law_alike"] (sp_law_put_anew (enOf K))) : OkF P w K mg base CX0 2 (He.fAd K ("_law_set", none)) ["_law_name", "_law_source_here", "_law_kept", "_law_alike"] (sp_law_set (enOf K)) := by
  obtain ⟨fd, F⟩ := c.def_ 31 (d := dd_law_set) rfl
  refine ⟨fd, F.ok sc_law_set (fun vs H Q E h => ?_) (fun cdv A outer s H vs Q E hr h => ⟨t_law_set (enOf K), PSs.nox ?_, ?_⟩), F.bindsN (fun _ _ _ _ _ _ us hl => match us, hl with | [_, _, _, _], _ => rfl), F.kp⟩
  · obtain ⟨a0, a1, a2, a3, rfl, _⟩ := h
    rfl
  · have hu := hr.units; have hu1 := hu_of hr
    exact pss_cons (ps_if (pt_cmpR (op_EqA hu) (pe_callO O_law_give (hr.mono (by decide)) (by rfl) T.g_law_give pass0 (pa_cons (pv 0) (pa_cons (pv 2) (pa_cons (pv 3) (pa_nil))))) (pv 1) (nomark _)) (pss_one (ps_ret (pe_lstN (pa_nil)))) (pss_nil))
      (pss_cons (ps_expr (pe_callO O_law_put_anew (hr.mono (by decide)) (by rfl) T.g_law_put_anew pass0 (pa_cons (pv 0) (pa_cons (pv 2) (pa_cons (pv 3) (pa_nil))))))
      (pss_cons (ps_if (pt_val (pe_callB c_isi (by rfl) T.n_isinstance (by decide +kernel) (pa_cons (pv 1) (pa_cons (pe_ty (by rfl) T.n_int (by decide +kernel)) (pa_nil))))) (pss_cons (ps_dputN hu1 (pv 2) (pv 0) (pv 1) rfl)
      (pss_one (ps_ret (pe_lstN (pa_cons (pe_tupN (pa_cons (pe_str) (pa_cons (pv 0) (pa_cons (pv 1) (pa_nil))))) (pa_nil)))))) (pss_nil))
      (pss_cons (ps_dputN hu1 (pv 3) (pv 0) (pv 1) rfl)
      (pss_one (ps_ret (pe_lstN (pa_cons (pe_tupN (pa_cons (pe_str) (pa_cons (pv 0) (pa_cons (pv 1) (pa_nil))))) (pa_nil))))))))
  · obtain ⟨a0, a1, a2, a3, rfl, h⟩ := h
    exact h
def n_law_asked : List Str := ["_law_row", "_law_kept", "_law_alike", "_law_source_here", "_law_told_here"]
theorem sc_law_asked : FnScope n_law_asked ["_law_row", "_law_kept", "_law_alike"] (defScope s_law_asked) := ⟨rfl, rfl, rfl, by decide +kernel, rfl, by decide +kernel, by decide +kernel⟩
theorem ok_law_asked (c : He.SaysD fa fn K) (T : Tx K mg) (O_law_give : OkF P w K mg base CX0 1 (He.fAd K ("_law_give", none)) ["_law_source_here", "_law_kept", "_law_alike"] (sp_law_give (enOf K))) : OkF P w K mg base CX0 2 (He.fAd K ("_law_asked", none)) ["_law_row", "_law_kept", "_law_alike"] (sp_law_asked (enOf K)) := by
  obtain ⟨fd, F⟩ := c.def_ 32 (d := dd_law_asked) rfl
  refine ⟨fd, F.ok sc_law_asked (fun vs H Q E h => ?_) (fun cdv A outer s H vs Q E hr h => ⟨t_law_asked (enOf K), PSs.nox ?_, ?_⟩), F.bindsN (fun _ _ _ _ _ _ us hl => match us, hl with | [_, _, _], _ => rfl), F.kp⟩
  · obtain ⟨a0, a1, a2, rfl, _⟩ := h
    rfl
  · have hu := hr.units; have hu1 := hu_of hr
    exact pss_cons (ps_set (i := 3) sc_law_asked.nd rfl (Or.inl rfl) (pe_callO O_law_give (hr.mono (by decide)) (by rfl) T.g_law_give pass0 (pa_cons (pe_ix (ix_A hu) (pv 0) (pe_int) (fun _ _ => rfl)) (pa_cons (pv 1) (pa_cons (pv 2) (pa_nil))))))
      (pss_cons (ps_set (i := 4) sc_law_asked.nd rfl (Or.inl rfl) (pv 3))
      (pss_cons (ps_if (pt_val (pe_callB c_isi (by rfl) T.n_isinstance (by decide +kernel) (pa_cons (pv 3) (pa_cons (pe_ty (by rfl) T.n_str (by decide +kernel)) (pa_nil))))) (pss_one (ps_set (i := 4) sc_law_asked.nd rfl (Or.inl rfl) (pe_dg2 hu1 (pv 1) (pv 3) (pe_un un_neg (pe_int)) ⟨rfl, by rfl, by rfl, by rfl⟩))) (pss_nil))
      (pss_cons (ps_if (PW.pt (pw_and (pt_cmpR (op_NeA hu) (pv 4) (pe_un un_neg (pe_int)) (nomark _)) (pw_and1 (pt_cmpR (op_EqA hu) (pe_cmpR (op_EqA hu) (pv 4) (pe_int) (nomark _)) (pe_ix (ix_A hu) (pv 0) (pe_int) (fun _ _ => rfl)) (nomark _))))) (pss_one (ps_ret (pe_lstN (pa_nil)))) (pss_nil))
      (pss_cons (ps_if (pt_val (pe_callB c_isi (by rfl) T.n_isinstance (by decide +kernel) (pa_cons (pv 3) (pa_cons (pe_ty (by rfl) T.n_str (by decide +kernel)) (pa_nil))))) (pss_one (ps_dputN hu1 (pv 1) (pv 3) (pe_ix (ix_A hu) (pe_lstN (pa_cons (pe_un un_neg (pe_int)) (pa_cons (pe_int) (pa_nil)))) (pe_callTy c_int (by rfl) T.n_int (by decide +kernel) (pa_cons (pe_ix (ix_A hu) (pv 0) (pe_int) (fun _ _ => rfl)) (pa_nil))) (fun _ _ => rfl)) rfl)) (pss_nil))
      (pss_one (ps_ret (pe_lstN (pa_cons (pe_op op_Add (pe_tupN (pa_cons (pe_str) (pa_cons (pv 3) (pa_nil)))) (pe_slice sl_X (pv 0) (po_some (pe_int)) (po_none))) (pa_nil)))))))))
  · obtain ⟨a0, a1, a2, rfl, h⟩ := h
    exact h
def n_set_row : List Str := ["facts", "name", "source"]
theorem sc_set_row : FnScope n_set_row ["facts", "name", "source"] (defScope s_set_row) := ⟨rfl, rfl, rfl, by decide +kernel, rfl, by decide +kernel, by decide +kernel⟩
theorem ok_set_row (c : He.SaysD fa fn K) (T : Tx K mg) (O_Facts_note : OkF P w K mg base CX0 2 (He.fAd K ("Facts", some "note")) ["self", "name", "source"] (sp_Facts_note (enOf K))) (O_Facts_root : OkF P w K mg base CX0 1 (He.fAd K ("Facts", some "root")) ["self", "source"] (sp_Facts_root (enOf K))) : OkF P w K mg base CX0 3 (He.fAd K ("set_row", none)) ["facts", "name", "source"] (sp_set_row (enOf K)) := by
  obtain ⟨fd, F⟩ := c.def_ 8 (d := dd_set_row) rfl
  obtain ⟨fd_Facts_note, F_Facts_note, b_Facts_note, _⟩ := O_Facts_note
  obtain ⟨fd_Facts_root, F_Facts_root, b_Facts_root, _⟩ := O_Facts_root
  refine ⟨fd, F.ok sc_set_row (fun vs H Q E h => ?_) (fun cdv A outer s H vs Q E hr h => ⟨t_set_row (enOf K), PSs.nox ?_, ?_⟩), F.bindsN (fun _ _ _ _ _ _ us hl => match us, hl with | [_, _, _], _ => rfl), F.kp⟩
  · obtain ⟨a0, a1, a2, rfl, _⟩ := h
    rfl
  · have hu := hr.units; have hu1 := hu_of hr
    exact pss_cons (ps_if (pt_cmpR (op_EqA hu) (pe_meth (pv 0) T.cl_Facts T.m_Facts_root F_Facts_root (hr.mono (by decide)) b_Facts_root .nil pass0 (pa_cons (pv 1) (pa_nil))) (pv 2) (nomark _)) (pss_one (ps_ret (pe_lstN (pa_nil)))) (pss_nil))
      (pss_cons (ps_expr (pe_meth (pv 0) T.cl_Facts T.m_Facts_note F_Facts_note (hr.mono (by decide)) b_Facts_note .nil pass0 (pa_cons (pv 1) (pa_cons (pv 2) (pa_nil)))))
      (pss_cons (ps_if (pt_val (pe_callB c_isi (by rfl) T.n_isinstance (by decide +kernel) (pa_cons (pv 2) (pa_cons (pe_ty (by rfl) T.n_int (by decide +kernel)) (pa_nil))))) (pss_one (ps_ret (pe_lstN (pa_cons (pe_tupN (pa_cons (pe_str) (pa_cons (pv 1) (pa_cons (pv 2) (pa_nil))))) (pa_nil))))) (pss_nil))
      (pss_one (ps_ret (pe_lstN (pa_cons (pe_tupN (pa_cons (pe_str) (pa_cons (pv 1) (pa_cons (pv 2) (pa_nil))))) (pa_nil)))))))
  · obtain ⟨a0, a1, a2, rfl, h⟩ := h
    exact h
def n_law_drawn_row : List Str := ["_law_way", "_law_one", "_law_two", "_law_names_here", "_law_k", "_law_name", "_law_repairs", "_law_word"]
theorem sc_law_drawn_row : FnScope n_law_drawn_row ["_law_way", "_law_one", "_law_two", "_law_names_here", "_law_k"] (defScope s_law_drawn_row) := ⟨rfl, rfl, rfl, by decide +kernel, rfl, by decide +kernel, by decide +kernel⟩
theorem ok_law_drawn_row (c : He.SaysD fa fn K) (T : Tx K mg) (O_law_mixed : OkF P w K mg base CX0 2 (He.fAd K ("_law_mixed", none)) ["_law_cell", "_law_names_here"] (sp_law_mixed (enOf K))) (O_law_number : OkF P w K mg base CX0 1 (He.fAd K ("_law_number", none)) ["_law_cell"] (sp_law_number (enOf K))) : OkF P w K mg base CX0 3 (He.fAd K ("_law_drawn_row", none)) ["_law_way", "_law_one", "_law_two", "_law_names_here", "_law_k"] (sp_law_drawn_row (enOf K)) := by
  obtain ⟨fd, F⟩ := c.def_ 17 (d := dd_law_drawn_row) rfl
  refine ⟨fd, F.ok sc_law_drawn_row (fun vs H Q E h => ?_) (fun cdv A outer s H vs Q E hr h => ⟨t_law_drawn_row (enOf K), PSs.nox ?_, ?_⟩), F.bindsN (fun _ _ _ _ _ _ us hl => match us, hl with | [_, _, _, _, _], _ => rfl), F.kp⟩
  · obtain ⟨a0, a1, a2, a3, a4, rfl, _⟩ := h
    rfl
  · have hu := hr.units; have hu1 := hu_of hr
    exact pss_cons (ps_set (i := 5) sc_law_drawn_row.nd rfl (Or.inl rfl) (pe_ix (ix_A hu) (pv 3) (pe_op op_mod (pe_op op_Add (pv 1) (pv 2)) (pe_int)) (fun _ _ => rfl)))
      (pss_cons (ps_if (pt_cmpR op_gt (pe_op op_mod (pv 0) (pe_int)) (pe_int) (nomark _)) (pss_cons (ps_set (i := 6) sc_law_drawn_row.nd rfl (Or.inl rfl) (pe_tupF (pa_cons (pe_tupN (pa_cons (pv 5) (pa_cons (pe_callO O_law_mixed (hr.mono (by decide)) (by rfl) T.g_law_mixed pass0 (pa_cons (pe_op op_fdiv (pv 2) (pe_int)) (pa_cons (pv 3) (pa_nil)))) (pa_nil)))) (pa_cons (pe_tupN (pa_cons (pe_ix (ix_A hu) (pv 3) (pe_op op_mod (pe_op op_Add (pe_op op_Add (pv 1) (pv 2)) (pe_int)) (pe_int)) (fun _ _ => rfl)) (pa_cons (pe_callO O_law_mixed (hr.mono (by decide)) (by rfl) T.g_law_mixed pass0 (pa_cons (pv 1) (pa_cons (pv 3) (pa_nil)))) (pa_nil)))) (pa_nil)))))
      (pss_one (ps_ret (pe_tupN (pa_cons (pe_str) (pa_cons (pe_callO O_law_mixed (hr.mono (by decide)) (by rfl) T.g_law_mixed pass0 (pa_cons (pv 1) (pa_cons (pv 3) (pa_nil)))) (pa_cons (pe_cmpR (op_EqA hu) (pe_op op_mod (pv 2) (pe_int)) (pe_int) (nomark _)) (pa_cons (pe_op op_mod (pe_op op_fdiv (pv 2) (pe_int)) (pe_int)) (pa_cons (pe_op op_Add (pv 4) (pe_int)) (pa_cons (pe_slice sl_F (pv 6) (po_none) (po_some (pe_op op_mod (pe_op op_fdiv (pv 0) (pe_int)) (pe_int)))) (pa_nil))))))))))) (pss_nil))
      (pss_cons (ps_set (i := 7) sc_law_drawn_row.nd rfl (Or.inl rfl) (pe_ix (ix_A hu) (pe_lstN (pa_cons (pe_str) (pa_cons (pe_str) (pa_cons (pe_str) (pa_cons (pe_str) (pa_cons (pe_str) (pa_cons (pe_str) (pa_cons (pe_str) (pa_nil))))))))) (pe_op op_mod (pv 0) (pe_int)) (fun _ _ => rfl)))
      (pss_cons (ps_if (pt_cmpR (op_EqA hu) (pv 7) (pe_str) (nomark _)) (pss_one (ps_ret (pe_tupN (pa_cons (pv 7) (pa_cons (pv 5) (pa_cons (pe_callO O_law_number (hr.mono (by decide)) (by rfl) T.g_law_number pass0 (pa_cons (pv 2) (pa_nil))) (pa_nil))))))) (pss_nil))
      (pss_cons (ps_if (pt_cmpR (op_EqA hu) (pv 7) (pe_str) (nomark _)) (pss_one (ps_ret (pe_tupN (pa_cons (pv 7) (pa_cons (pe_callO O_law_mixed (hr.mono (by decide)) (by rfl) T.g_law_mixed pass0 (pa_cons (pv 2) (pa_cons (pv 3) (pa_nil)))) (pa_nil)))))) (pss_nil))
      (pss_cons (ps_if (pt_cmpR (op_EqA hu) (pv 7) (pe_str) (nomark _)) (pss_one (ps_ret (pe_tupN (pa_cons (pv 7) (pa_cons (pv 5) (pa_cons (pe_callO O_law_mixed (hr.mono (by decide)) (by rfl) T.g_law_mixed pass0 (pa_cons (pv 2) (pa_cons (pv 3) (pa_nil)))) (pa_nil))))))) (pss_nil))
      (pss_one (ps_ret (pe_tupN (pa_cons (pv 7) (pa_cons (pv 5) (pa_cons (pe_callO O_law_mixed (hr.mono (by decide)) (by rfl) T.g_law_mixed pass0 (pa_cons (pv 1) (pa_cons (pv 3) (pa_nil)))) (pa_cons (pe_callO O_law_mixed (hr.mono (by decide)) (by rfl) T.g_law_mixed pass0 (pa_cons (pv 2) (pa_cons (pv 3) (pa_nil)))) (pa_nil)))))))))))))
  · obtain ⟨a0, a1, a2, a3, a4, rfl, h⟩ := h
    exact h
def n_law_round : List Str := ["_law_trace_here", "_law_names_here", "_law_told_here", "_law_row", "_law_behind", "_law_name", "_law_source_here"]
theorem sc_law_round : FnScope n_law_round ["_law_trace_here", "_law_names_here"] (defScope s_law_round) := ⟨rfl, rfl, rfl, by decide +kernel, rfl, by decide +kernel, by decide +kernel⟩
theorem ok_law_round (c : He.SaysD fa fn K) (T : Tx K mg) (O_law_done : OkF P w K mg base CX0 2 (He.fAd K ("_law_done", none)) ["_law_row", "_law_names_here"] (sp_law_done (enOf K))) (O_law_told : OkF P w K mg base CX0 2 (He.fAd K ("_law_told", none)) ["_law_row", "_law_names_here"] (sp_law_told (enOf K))) (O_law_value : OkF P w K mg base CX0 1 (He.fAd K ("_law_value", none)) ["_law_names_here", "_law_source_here"] (sp_law_value (enOf K))) : OkF P w K mg base CX0 3 (He.fAd K ("_law_round", none)) ["_law_trace_here", "_law_names_here"] (sp_law_round (enOf K)) := by
  obtain ⟨fd, F⟩ := c.def_ 24 (d := dd_law_round) rfl
  refine ⟨fd, F.ok sc_law_round (fun vs H Q E h => ?_) (fun cdv A outer s H vs Q E hr h => ⟨t_law_round (enOf K), PSs.nox ?_, ?_⟩), F.bindsN (fun _ _ _ _ _ _ us hl => match us, hl with | [_, _], _ => rfl), F.kp⟩
  · obtain ⟨a0, a1, rfl, _⟩ := h
    rfl
  · have hu := hr.units; have hu1 := hu_of hr
    exact pss_cons (ps_set (i := 2) sc_law_round.nd rfl (Or.inl rfl) (pe_lstN (pa_nil)))
      (pss_cons (ps_for PassesOwn.never rfl (pi_list (pe_ix (ix_A hu) (pv 0) (pe_int) (fun _ _ => rfl))) (pg_name (i := 3) sc_law_round.nd rfl (Or.inl rfl)) (pss_one (ps_if (pt_cmpR (op_NeA hu) (pe_ix (ix_A hu) (pv 3) (pe_int) (fun _ _ => rfl)) (pe_str) (nomark _)) (pss_cons (ps_set (i := 2) sc_law_round.nd rfl (Or.inl rfl) (pe_op op_Add (pv 2) (pe_callO O_law_told (hr.mono (by decide)) (by rfl) T.g_law_told pass0 (pa_cons (pv 3) (pa_cons (pv 1) (pa_nil))))))
      (pss_one (ps_set (i := 1) sc_law_round.nd rfl (Or.inl rfl) (pe_callO O_law_done (hr.mono (by decide)) (by rfl) T.g_law_done pass0 (pa_cons (pv 3) (pa_cons (pv 1) (pa_nil))))))) (pss_one (ps_if (pt_cmpR (op_NeA hu) (pe_cmpR (op_EqA hu) (pe_callO O_law_value (hr.mono (by decide)) (by rfl) T.g_law_value pass0 (pa_cons (pv 1) (pa_cons (pe_ix (ix_A hu) (pv 3) (pe_int) (fun _ _ => rfl)) (pa_nil)))) (pe_int) (nomark _)) (pe_ix (ix_A hu) (pv 3) (pe_int) (fun _ _ => rfl)) (nomark _)) (pss_cons (ps_set (i := 4) sc_law_round.nd rfl (Or.inl rfl) (pe_callTy c_dict (by rfl) T.n_dict (by decide +kernel) (pa_cons (pv 1) (pa_nil))))
      (pss_cons (ps_for PassesOwn.never rfl (pi_tup (pe_ix (ix_A hu) (pv 3) (pe_int) (fun _ _ => rfl))) (pg_tup rfl (pgs_cons (pg_name (i := 5) sc_law_round.nd rfl (Or.inl rfl)) (pgs_cons (pg_name (i := 6) sc_law_round.nd rfl (Or.inl rfl)) (pgs_nil)))) (pss_one (ps_dputN hu1 (pv 4) (pv 5) (pe_callO O_law_value (hr.mono (by decide)) (by rfl) T.g_law_value pass0 (pa_cons (pv 1) (pa_cons (pv 6) (pa_nil)))) rfl)))
      (pss_one (ps_ret (pe_tupN (pa_cons (pe_bl) (pa_cons (pe_ix (ix_A hu) (pv 3) (pe_int) (fun _ _ => rfl)) (pa_cons (pv 4) (pa_cons (pv 2) (pa_cons (pe_ix (ix_A hu) (pv 3) (pe_int) (fun _ _ => rfl)) (pa_nil))))))))))) (pss_nil))))))
      (pss_one (ps_ret (pe_tupN (pa_cons (pe_bl) (pa_cons (pe_ix (ix_A hu) (pv 0) (pe_int) (fun _ _ => rfl)) (pa_cons (pv 1) (pa_cons (pv 2) (pa_cons (pe_ix (ix_A hu) (pv 0) (pe_int) (fun _ _ => rfl)) (pa_nil))))))))))
  · obtain ⟨a0, a1, rfl, h⟩ := h
    exact h
def n_law_guard : List Str := ["_law_row", "_law_pair"]
theorem sc_law_guard : FnScope n_law_guard ["_law_row"] (defScope s_law_guard) := ⟨rfl, rfl, rfl, by decide +kernel, rfl, by decide +kernel, by decide +kernel⟩
theorem ok_law_guard (c : He.SaysD fa fn K) (T : Tx K mg) (O_law_source : OkF P w K mg base CX0 2 (He.fAd K ("_law_source", none)) ["_law_found"] (sp_law_source (enOf K))) (O_law_whole : OkF P w K mg base CX0 1 (He.fAd K ("_law_whole", none)) ["_law_found"] (sp_law_whole (enOf K))) : OkF P w K mg base CX0 3 (He.fAd K ("_law_guard", none)) ["_law_row"] (sp_law_guard (enOf K)) := by
  obtain ⟨fd, F⟩ := c.def_ 26 (d := dd_law_guard) rfl
  refine ⟨fd, F.ok sc_law_guard (fun vs H Q E h => ?_) (fun cdv A outer s H vs Q E hr h => ⟨t_law_guard (enOf K), PSs.nox ?_, ?_⟩), F.bindsN (fun _ _ _ _ _ _ us hl => match us, hl with | [_], _ => rfl), F.kp⟩
  · obtain ⟨a0, rfl, _⟩ := h
    rfl
  · have hu := hr.units; have hu1 := hu_of hr
    exact pss_cons (ps_if (PW.pt (pw_or (pt_cmpR (op_NeA hu) (pe_callB c_len (by rfl) T.n_len (by decide +kernel) (pa_cons (pv 0) (pa_nil))) (pe_int) (nomark _)) (pw_or (pt_not (pt_val (pe_callO O_law_source (hr.mono (by decide)) (by rfl) T.g_law_source pass0 (pa_cons (pe_ix (ix_A hu) (pv 0) (pe_int) (fun _ _ => rfl)) (pa_nil))))) (pw_or (pt_not (pt_val (pe_callB c_isi (by rfl) T.n_isinstance (by decide +kernel) (pa_cons (pe_ix (ix_A hu) (pv 0) (pe_int) (fun _ _ => rfl)) (pa_cons (pe_ty (by rfl) T.n_bool (by decide +kernel)) (pa_nil)))))) (pw_or1 (pt_not (pt_val (pe_callB c_isi (by rfl) T.n_isinstance (by decide +kernel) (pa_cons (pe_ix (ix_A hu) (pv 0) (pe_int) (fun _ _ => rfl)) (pa_cons (pe_ty (by rfl) T.n_tuple (by decide +kernel)) (pa_nil))))))))))) (pss_one (ps_ret (pe_bl))) (pss_nil))
      (pss_cons (ps_if (PW.pt (pw_or (pt_not (pt_val (pe_callO O_law_whole (hr.mono (by decide)) (by rfl) T.g_law_whole pass0 (pa_cons (pe_ix (ix_A hu) (pv 0) (pe_int) (fun _ _ => rfl)) (pa_nil))))) (pw_or1 (pt_not (pt_val (pe_callO O_law_whole (hr.mono (by decide)) (by rfl) T.g_law_whole pass0 (pa_cons (pe_ix (ix_A hu) (pv 0) (pe_int) (fun _ _ => rfl)) (pa_nil)))))))) (pss_one (ps_ret (pe_bl))) (pss_nil))
      (pss_cons (ps_for PassesOwn.never rfl (pi_tup (pe_ix (ix_A hu) (pv 0) (pe_int) (fun _ _ => rfl))) (pg_name (i := 1) sc_law_guard.nd rfl (Or.inl rfl)) (pss_one (ps_if (PW.pt (pw_or (pt_not (pt_val (pe_callB c_isi (by rfl) T.n_isinstance (by decide +kernel) (pa_cons (pv 1) (pa_cons (pe_ty (by rfl) T.n_tuple (by decide +kernel)) (pa_nil)))))) (pw_or (pt_cmpR (op_NeA hu) (pe_callB c_len (by rfl) T.n_len (by decide +kernel) (pa_cons (pv 1) (pa_nil))) (pe_int) (nomark _)) (pw_or (pt_not (pt_val (pe_callB c_isi (by rfl) T.n_isinstance (by decide +kernel) (pa_cons (pe_ix (ix_A hu) (pv 1) (pe_int) (fun _ _ => rfl)) (pa_cons (pe_ty (by rfl) T.n_str (by decide +kernel)) (pa_nil)))))) (pw_or1 (pt_not (pt_val (pe_callO O_law_source (hr.mono (by decide)) (by rfl) T.g_law_source pass0 (pa_cons (pe_ix (ix_A hu) (pv 1) (pe_int) (fun _ _ => rfl)) (pa_nil)))))))))) (pss_one (ps_ret (pe_bl))) (pss_nil))))
      (pss_one (ps_ret (pe_cmpR (op_EqA hu) (pe_callB c_len (by rfl) T.n_len (by decide +kernel) (pa_cons (pe_callTy (c_dictP rfl) (by rfl) T.n_dict (by decide +kernel) (pa_cons (pe_ix (ix_A hu) (pv 0) (pe_int) (fun _ _ => rfl)) (pa_nil))) (pa_nil))) (pe_callB c_len (by rfl) T.n_len (by decide +kernel) (pa_cons (pe_ix (ix_A hu) (pv 0) (pe_int) (fun _ _ => rfl)) (pa_nil))) (nomark _))))))
  · obtain ⟨a0, rfl, h⟩ := h
    exact h
def n_law_easy : List Str := ["_law_word", "_law_one", "_law_other"]
theorem sc_law_easy : FnScope n_law_easy ["_law_word", "_law_one", "_law_other"] (defScope s_law_easy) := ⟨rfl, rfl, rfl, by decide +kernel, rfl, by decide +kernel, by decide +kernel⟩
theorem ok_law_easy (c : He.SaysD fa fn K) (T : Tx K mg) (O_law_done : OkF P w K mg base CX0 2 (He.fAd K ("_law_done", none)) ["_law_row", "_law_names_here"] (sp_law_done (enOf K))) : OkF P w K mg base CX0 3 (He.fAd K ("_law_easy", none)) ["_law_word", "_law_one", "_law_other"] (sp_law_easy (enOf K)) := by
  obtain ⟨fd, F⟩ := c.def_ 29 (d := dd_law_easy) rfl
  refine ⟨fd, F.ok sc_law_easy (fun vs H Q E h => ?_) (fun cdv A outer s H vs Q E hr h => ⟨t_law_easy (enOf K), PSs.nox ?_, ?_⟩), F.bindsN (fun _ _ _ _ _ _ us hl => match us, hl with | [_, _, _], _ => rfl), F.kp⟩
  · obtain ⟨a0, a1, a2, rfl, _⟩ := h
    rfl
  · have hu := hr.units; have hu1 := hu_of hr
    exact pss_cons (ps_if (PW.pt (pw_and (pt_val (pe_callB c_isi (by rfl) T.n_isinstance (by decide +kernel) (pa_cons (pv 1) (pa_cons (pe_ty (by rfl) T.n_int (by decide +kernel)) (pa_nil))))) (pw_and1 (pt_val (pe_callB c_isi (by rfl) T.n_isinstance (by decide +kernel) (pa_cons (pv 2) (pa_cons (pe_ty (by rfl) T.n_int (by decide +kernel)) (pa_nil)))))))) (pss_one (ps_ret (pe_ix (ix_A hu) (pe_callO O_law_done (hr.mono (by decide)) (by rfl) T.g_law_done pass0 (pa_cons (pe_tupN (pa_cons (pv 0) (pa_cons (pe_str) (pa_cons (pv 1) (pa_cons (pv 2) (pa_nil)))))) (pa_cons (pe_dnewN) (pa_nil)))) (pe_str) (fun _ _ => rfl)))) (pss_nil))
      (pss_cons (ps_if (PW.pt (pw_or (PW.pt (pw_and (pt_cmpR (op_InA hu) (pv 0) (pe_lstN (pa_cons (pe_str) (pa_cons (pe_str) (pa_nil)))) (by rfl)) (pw_and1 (pt_cmpR (op_EqA hu) (pv 1) (pv 2) (nomark _))))) (pw_or1 (PW.pt (pw_and (pt_cmpR (op_EqA hu) (pv 0) (pe_str) (nomark _)) (pw_and1 (pt_cmpR (op_EqA hu) (pv 2) (pe_int) (nomark _)))))))) (pss_one (ps_ret (pe_int))) (pss_nil))
      (pss_cons (ps_if (PW.pt (pw_and (pt_cmpR (op_InA hu) (pv 0) (pe_lstN (pa_cons (pe_str) (pa_cons (pe_str) (pa_nil)))) (by rfl)) (pw_and1 (pt_cmpR (op_EqA hu) (pv 2) (pe_int) (nomark _))))) (pss_one (ps_ret (pv 1))) (pss_nil))
      (pss_cons (ps_if (PW.pt (pw_and (pt_cmpR (op_EqA hu) (pv 0) (pe_str) (nomark _)) (pw_and1 (pt_cmpR (op_EqA hu) (pv 1) (pe_int) (nomark _))))) (pss_one (ps_ret (pv 2))) (pss_nil))
      (pss_cons (ps_if (PW.pt (pw_and (pt_cmpR (op_EqA hu) (pv 0) (pe_str) (nomark _)) (pw_and1 (pt_cmpR (op_InA hu) (pe_int) (pe_lstN (pa_cons (pv 1) (pa_cons (pv 2) (pa_nil)))) (by rfl))))) (pss_one (ps_ret (pe_int))) (pss_nil))
      (pss_cons (ps_if (PW.pt (pw_and (pt_cmpR (op_EqA hu) (pv 0) (pe_str) (nomark _)) (pw_and1 (pt_cmpR (op_InA hu) (pe_int) (pe_lstN (pa_cons (pv 1) (pa_cons (pv 2) (pa_nil)))) (by rfl))))) (pss_one (ps_ret (pe_ix (ix_A hu) (pe_lstN (pa_cons (pv 1) (pa_cons (pv 2) (pa_nil)))) (pe_callTy c_int (by rfl) T.n_int (by decide +kernel) (pa_cons (pe_cmpR (op_EqA hu) (pv 1) (pe_int) (nomark _)) (pa_nil))) (fun _ _ => rfl)))) (pss_nil))
      (pss_one (ps_ret (pe_non))))))))
  · obtain ⟨a0, a1, a2, rfl, h⟩ := h
    exact h
def n_work_row : List Str := ["facts", "row", "one", "other", "source"]
theorem sc_work_row : FnScope n_work_row ["facts", "row"] (defScope s_work_row) := ⟨rfl, rfl, rfl, by decide +kernel, rfl, by decide +kernel, by decide +kernel⟩
theorem ok_work_row (c : He.SaysD fa fn K) (T : Tx K mg) (O_Facts_forget : OkF P w K mg base CX0 1 (He.fAd K ("Facts", some "forget")) ["self", "name"] (sp_Facts_forget (enOf K))) (O_Facts_root : OkF P w K mg base CX0 1 (He.fAd K ("Facts", some "root")) ["self", "source"] (sp_Facts_root (enOf K))) (O_set_row : OkF P w K mg base CX0 3 (He.fAd K ("set_row", none)) ["facts", "name", "source"] (sp_set_row (enOf K))) (O_simple : OkF P w K mg base CX0 2 (He.fAd K ("simple", none)) ["word", "one", "other"] (sp_simple (enOf K))) : OkF P w K mg base CX0 4 (He.fAd K ("work_row", none)) ["facts", "row"] (sp_work_row (enOf K)) := by
  obtain ⟨fd, F⟩ := c.def_ 9 (d := dd_work_row) rfl
  obtain ⟨fd_Facts_forget, F_Facts_forget, b_Facts_forget, _⟩ := O_Facts_forget
  obtain ⟨fd_Facts_root, F_Facts_root, b_Facts_root, _⟩ := O_Facts_root
  refine ⟨fd, F.ok sc_work_row (fun vs H Q E h => ?_) (fun cdv A outer s H vs Q E hr h => ⟨t_work_row (enOf K), PSs.nox ?_, ?_⟩), F.bindsN (fun _ _ _ _ _ _ us hl => match us, hl with | [_, _], _ => rfl), F.kp⟩
  · obtain ⟨a0, a1, rfl, _⟩ := h
    rfl
  · have hu := hr.units; have hu1 := hu_of hr
    exact pss_cons (ps_set (i := 2) sc_work_row.nd rfl (Or.inl rfl) (pe_meth (pv 0) T.cl_Facts T.m_Facts_root F_Facts_root (hr.mono (by decide)) b_Facts_root .nil pass0 (pa_cons (pe_ix (ix_A hu) (pv 1) (pe_int) (fun _ _ => rfl)) (pa_nil))))
      (pss_cons (ps_set (i := 3) sc_work_row.nd rfl (Or.inl rfl) (pe_meth (pv 0) T.cl_Facts T.m_Facts_root F_Facts_root (hr.mono (by decide)) b_Facts_root .nil pass0 (pa_cons (pe_ix (ix_A hu) (pv 1) (pe_int) (fun _ _ => rfl)) (pa_nil))))
      (pss_cons (ps_set (i := 4) sc_work_row.nd rfl (Or.inl rfl) (pe_callO O_simple (hr.mono (by decide)) (by rfl) T.g_simple pass0 (pa_cons (pe_ix (ix_A hu) (pv 1) (pe_int) (fun _ _ => rfl)) (pa_cons (pv 2) (pa_cons (pv 3) (pa_nil))))))
      (pss_cons (ps_if (pt_cmpR op_notN (pv 4) (pe_non) (nomark _)) (pss_one (ps_ret (pe_callO O_set_row (hr.mono (by decide)) (by rfl) T.g_set_row pass0 (pa_cons (pv 0) (pa_cons (pe_ix (ix_A hu) (pv 1) (pe_int) (fun _ _ => rfl)) (pa_cons (pv 4) (pa_nil))))))) (pss_nil))
      (pss_cons (ps_expr (pe_meth (pv 0) T.cl_Facts T.m_Facts_forget F_Facts_forget (hr.mono (by decide)) b_Facts_forget .nil pass0 (pa_cons (pe_ix (ix_A hu) (pv 1) (pe_int) (fun _ _ => rfl)) (pa_nil))))
      (pss_one (ps_ret (pe_lstN (pa_cons (pe_tupN (pa_cons (pe_ix (ix_A hu) (pv 1) (pe_int) (fun _ _ => rfl)) (pa_cons (pe_ix (ix_A hu) (pv 1) (pe_int) (fun _ _ => rfl)) (pa_cons (pv 2) (pa_cons (pv 3) (pa_nil)))))) (pa_nil)))))))))
  · obtain ⟨a0, a1, rfl, h⟩ := h
    exact h
def n_law_drawn_trace : List Str := ["_law_script", "_law_names_here", "_law_size", "_law_rows", "_law_k", "_law_way", "_law_place"]
theorem sc_law_drawn_trace : FnScope n_law_drawn_trace ["_law_script", "_law_names_here"] (defScope s_law_drawn_trace) := ⟨rfl, rfl, rfl, by decide +kernel, rfl, by decide +kernel, by decide +kernel⟩
theorem ok_law_drawn_trace (c : He.SaysD fa fn K) (T : Tx K mg) (O_law_cell_at : OkF P w K mg base CX0 1 (He.fAd K ("_law_cell_at", none)) ["_law_script", "_law_k"] (sp_law_cell_at (enOf K))) (O_law_drawn_row : OkF P w K mg base CX0 3 (He.fAd K ("_law_drawn_row", none)) ["_law_way", "_law_one", "_law_two", "_law_names_here", "_law_k"] (sp_law_drawn_row (enOf K))) (O_law_pattern : OkF P w K mg base CX0 1 (He.fAd K ("_law_pattern", none)) ["_law_way", "_law_cell", "_law_names_here"] (sp_law_pattern (enOf K))) : OkF P w K mg base CX0 4 (He.fAd K ("_law_drawn_trace", none)) ["_law_script", "_law_names_here"] (sp_law_drawn_trace (enOf K)) := by
  obtain ⟨fd, F⟩ := c.def_ 19 (d := dd_law_drawn_trace) rfl
  refine ⟨fd, F.ok sc_law_drawn_trace (fun vs H Q E h => ?_) (fun cdv A outer s H vs Q E hr h => ⟨t_law_drawn_trace (enOf K), PSs.nox ?_, ?_⟩), F.bindsN (fun _ _ _ _ _ _ us hl => match us, hl with | [_, _], _ => rfl), F.kp⟩
  · obtain ⟨a0, a1, rfl, _⟩ := h
    rfl
  · have hu := hr.units; have hu1 := hu_of hr
    exact pss_cons (ps_set (i := 2) sc_law_drawn_trace.nd rfl (Or.inl rfl) (pe_op op_mod (pe_callO O_law_cell_at (hr.mono (by decide)) (by rfl) T.g_law_cell_at pass0 (pa_cons (pv 0) (pa_cons (pe_int) (pa_nil)))) (pe_int)))
      (pss_cons (ps_if (pt_cmpR op_gt (pe_callB c_len (by rfl) T.n_len (by decide +kernel) (pa_cons (pv 0) (pa_nil))) (pe_int) (nomark _)) (pss_one (ps_set (i := 2) sc_law_drawn_trace.nd rfl (Or.inl rfl) (pe_op op_Add (pv 2) (pe_int)))) (pss_nil))
      (pss_cons (ps_set (i := 3) sc_law_drawn_trace.nd rfl (Or.inl rfl) (pe_lstN (pa_nil)))
      (pss_cons (ps_for PassesOwn.never rfl (pi_range1 (by rfl) T.n_range (pa_cons (pv 2) (pa_nil))) (pg_name (i := 4) sc_law_drawn_trace.nd rfl (Or.inl rfl)) (pss_cons (ps_set (i := 5) sc_law_drawn_trace.nd rfl (Or.inl rfl) (pe_callO O_law_cell_at (hr.mono (by decide)) (by rfl) T.g_law_cell_at pass0 (pa_cons (pv 0) (pa_cons (pe_op op_Add (pe_int) (pe_op op_Mul (pe_int) (pv 4))) (pa_nil)))))
      (pss_one (ps_expr (pe_bm PySem.F.plainAttrs_list PySem.F.slot_list_append PySem.F.type_list_append mt_appN (pv 3) (pa_cons (pe_callO O_law_drawn_row (hr.mono (by decide)) (by rfl) T.g_law_drawn_row pass0 (pa_cons (pv 5) (pa_cons (pe_callO O_law_cell_at (hr.mono (by decide)) (by rfl) T.g_law_cell_at pass0 (pa_cons (pv 0) (pa_cons (pe_op op_Add (pe_int) (pe_op op_Mul (pe_int) (pv 4))) (pa_nil)))) (pa_cons (pe_callO O_law_cell_at (hr.mono (by decide)) (by rfl) T.g_law_cell_at pass0 (pa_cons (pv 0) (pa_cons (pe_op op_Add (pe_int) (pe_op op_Mul (pe_int) (pv 4))) (pa_nil)))) (pa_cons (pv 1) (pa_cons (pv 4) (pa_nil))))))) pa_nil))))))
      (pss_cons (ps_set (i := 5) sc_law_drawn_trace.nd rfl (Or.inl rfl) (pe_op op_mod (pe_op op_Add (pe_callO O_law_cell_at (hr.mono (by decide)) (by rfl) T.g_law_cell_at pass0 (pa_cons (pv 0) (pa_cons (pe_int) (pa_nil)))) (pe_callO O_law_cell_at (hr.mono (by decide)) (by rfl) T.g_law_cell_at pass0 (pa_cons (pv 0) (pa_cons (pe_int) (pa_nil))))) (pe_int)))
      (pss_cons (ps_if (pt_cmpR op_lt (pv 5) (pe_int) (nomark _)) (pss_cons (ps_set (i := 6) sc_law_drawn_trace.nd rfl (Or.inl rfl) (pe_op op_mod (pe_callO O_law_cell_at (hr.mono (by decide)) (by rfl) T.g_law_cell_at pass0 (pa_cons (pv 0) (pa_cons (pe_int) (pa_nil)))) (pe_op op_Add (pe_callB c_len (by rfl) T.n_len (by decide +kernel) (pa_cons (pv 3) (pa_nil))) (pe_int))))
      (pss_one (ps_set (i := 3) sc_law_drawn_trace.nd rfl (Or.inl rfl) (pe_op op_Add (pe_op op_Add (pe_slice sl_X (pv 3) (po_none) (po_some (pv 6))) (pe_callO O_law_pattern (hr.mono (by decide)) (by rfl) T.g_law_pattern pass0 (pa_cons (pv 5) (pa_cons (pe_callO O_law_cell_at (hr.mono (by decide)) (by rfl) T.g_law_cell_at pass0 (pa_cons (pv 0) (pa_cons (pe_int) (pa_nil)))) (pa_cons (pv 1) (pa_nil)))))) (pe_slice sl_X (pv 3) (po_some (pv 6)) (po_none)))))) (pss_nil))
      (pss_one (ps_ret (pe_tupN (pa_cons (pe_op op_mod (pe_callO O_law_cell_at (hr.mono (by decide)) (by rfl) T.g_law_cell_at pass0 (pa_cons (pv 0) (pa_cons (pe_int) (pa_nil)))) (pe_int)) (pa_cons (pv 3) (pa_cons (pe_op op_Add (pv 2) (pe_op op_mod (pe_op op_fdiv (pe_callO O_law_cell_at (hr.mono (by decide)) (by rfl) T.g_law_cell_at pass0 (pa_cons (pv 0) (pa_cons (pe_int) (pa_nil)))) (pe_int)) (pe_int))) (pa_nil))))))))))))
  · obtain ⟨a0, a1, rfl, h⟩ := h
    exact h
def n_law_trace : List Str := ["_law_trace_here", "_law_sizes", "_law_row", "_law_part"]
theorem sc_law_trace : FnScope n_law_trace ["_law_trace_here"] (defScope s_law_trace) := ⟨rfl, rfl, rfl, by decide +kernel, rfl, by decide +kernel, by decide +kernel⟩
theorem ok_law_trace (c : He.SaysD fa fn K) (T : Tx K mg) (O_law_guard : OkF P w K mg base CX0 3 (He.fAd K ("_law_guard", none)) ["_law_row"] (sp_law_guard (enOf K))) (O_law_source : OkF P w K mg base CX0 2 (He.fAd K ("_law_source", none)) ["_law_found"] (sp_law_source (enOf K))) (O_law_whole : OkF P w K mg base CX0 1 (He.fAd K ("_law_whole", none)) ["_law_found"] (sp_law_whole (enOf K))) : OkF P w K mg base CX0 4 (He.fAd K ("_law_trace", none)) ["_law_trace_here"] (sp_law_trace (enOf K)) := by
  obtain ⟨fd, F⟩ := c.def_ 27 (d := dd_law_trace) rfl
  refine ⟨fd, F.ok sc_law_trace (fun vs H Q E h => ?_) (fun cdv A outer s H vs Q E hr h => ⟨t_law_trace (enOf K), PSs.nox ?_, ?_⟩), F.bindsN (fun _ _ _ _ _ _ us hl => match us, hl with | [_], _ => rfl), F.kp⟩
  · obtain ⟨a0, rfl, _⟩ := h
    rfl
  · have hu := hr.units; have hu1 := hu_of hr
    exact pss_cons (ps_if (PW.pt (pw_or (pt_not (pt_val (pe_callB c_isi (by rfl) T.n_isinstance (by decide +kernel) (pa_cons (pv 0) (pa_cons (pe_ty (by rfl) T.n_tuple (by decide +kernel)) (pa_nil)))))) (pw_or (pt_cmpR (op_NeA hu) (pe_callB c_len (by rfl) T.n_len (by decide +kernel) (pa_cons (pv 0) (pa_nil))) (pe_int) (nomark _)) (pw_or1 (pt_not (pt_val (pe_callB c_isi (by rfl) T.n_isinstance (by decide +kernel) (pa_cons (pe_ix (ix_A hu) (pv 0) (pe_int) (fun _ _ => rfl)) (pa_cons (pe_ty (by rfl) T.n_list (by decide +kernel)) (pa_nil)))))))))) (pss_one (ps_ret (pe_bl))) (pss_nil))
      (pss_cons (ps_set (i := 1) sc_law_trace.nd rfl (Or.inl rfl) (pe_dispN (pps_cons (pe_m (pe_str)) (pe_m (pe_int)) (pps_cons (pe_m (pe_str)) (pe_m (pe_int)) (pps_cons (pe_m (pe_str)) (pe_m (pe_int)) (pps_cons (pe_m (pe_str)) (pe_m (pe_int)) (pps_cons (pe_m (pe_str)) (pe_m (pe_int)) (pps_cons (pe_m (pe_str)) (pe_m (pe_int)) (pps_cons (pe_m (pe_str)) (pe_m (pe_int)) (pps_nil)))))))) (by rfl) (by rfl) (fun z => by cases z) (by decide)))
      (pss_cons (ps_for PassesOwn.never rfl (pi_list (pe_ix (ix_A hu) (pv 0) (pe_int) (fun _ _ => rfl))) (pg_name (i := 2) sc_law_trace.nd rfl (Or.inl rfl)) (pss_cons (ps_if (PW.pt (pw_or (pt_not (pt_val (pe_callB c_isi (by rfl) T.n_isinstance (by decide +kernel) (pa_cons (pv 2) (pa_cons (pe_ty (by rfl) T.n_tuple (by decide +kernel)) (pa_nil)))))) (pw_or (pt_cmpR op_lt (pe_callB c_len (by rfl) T.n_len (by decide +kernel) (pa_cons (pv 2) (pa_nil))) (pe_int) (nomark _)) (pw_or1 (pt_not (pt_val (pe_callB c_isi (by rfl) T.n_isinstance (by decide +kernel) (pa_cons (pe_ix (ix_A hu) (pv 2) (pe_int) (fun _ _ => rfl)) (pa_cons (pe_ty (by rfl) T.n_str (by decide +kernel)) (pa_nil)))))))))) (pss_one (ps_ret (pe_bl))) (pss_nil))
      (pss_one (ps_if (pt_cmpR (op_EqA hu) (pe_ix (ix_A hu) (pv 2) (pe_int) (fun _ _ => rfl)) (pe_str) (nomark _)) (pss_one (ps_if (pt_not (pt_val (pe_callO O_law_guard (hr.mono (by decide)) (by rfl) T.g_law_guard pass0 (pa_cons (pv 2) (pa_nil))))) (pss_one (ps_ret (pe_bl))) (pss_nil))) (pss_one (ps_if (PW.pt (pw_or (pt_cmpR (op_NeA hu) (pe_callB c_len (by rfl) T.n_len (by decide +kernel) (pa_cons (pv 2) (pa_nil))) (pe_dg2 hu1 (pv 1) (pe_ix (ix_A hu) (pv 2) (pe_int) (fun _ _ => rfl)) (pe_int) ⟨rfl, by rfl, by rfl, by rfl⟩) (nomark _)) (pw_or1 (pt_not (pt_val (pe_callB (cr_all rfl) (by rfl) T.n_all (by decide +kernel) (pa_cons (pe_lc (own := [("_law_part", 3)]) (g := gName 3) (tt := tYes) rfl sc_law_trace.nd (pi_tup (pe_slice sl_X (pv 2) (po_some (pe_int)) (po_none))) (blkOk_by (own := [("_law_part", 3)]) (N := n_law_trace) (sc := defScope s_law_trace) (by decide +kernel)) (fun _ _ _ _ _ => pg_name (i := 3) sc_law_trace.nd rfl (Or.inl rfl)) (fun _ _ _ _ _ => pts_nil) (fun _ _ _ _ _ => pe_callO O_law_source (hr.mono (by decide)) (by rfl) T.g_law_source pass0 (pa_cons (pv 3) (pa_nil)))) (pa_nil)))))))) (pss_one (ps_ret (pe_bl))) (pss_one (ps_if (PW.pt (pw_or (PW.pt (pw_and (pt_cmpR (op_NeA hu) (pe_ix (ix_A hu) (pv 2) (pe_int) (fun _ _ => rfl)) (pe_str) (nomark _)) (pw_and1 (pt_not (pt_val (pe_callB c_isi (by rfl) T.n_isinstance (by decide +kernel) (pa_cons (pe_ix (ix_A hu) (pv 2) (pe_int) (fun _ _ => rfl)) (pa_cons (pe_ty (by rfl) T.n_str (by decide +kernel)) (pa_nil))))))))) (pw_or1 (PW.pt (pw_and (pt_cmpR (op_EqA hu) (pe_ix (ix_A hu) (pv 2) (pe_int) (fun _ _ => rfl)) (pe_str) (nomark _)) (pw_and1 (pt_not (pt_val (pe_callO O_law_whole (hr.mono (by decide)) (by rfl) T.g_law_whole pass0 (pa_cons (pe_ix (ix_A hu) (pv 2) (pe_int) (fun _ _ => rfl)) (pa_nil))))))))))) (pss_one (ps_ret (pe_bl))) (pss_nil)))))))))
      (pss_one (ps_ret (pe_and (pe_callO O_law_whole (hr.mono (by decide)) (by rfl) T.g_law_whole pass0 (pa_cons (pe_ix (ix_A hu) (pv 0) (pe_int) (fun _ _ => rfl)) (pa_nil))) (pe_one (pe_callO O_law_whole (hr.mono (by decide)) (by rfl) T.g_law_whole pass0 (pa_cons (pe_ix (ix_A hu) (pv 0) (pe_int) (fun _ _ => rfl)) (pa_nil)))))))))
  · obtain ⟨a0, rfl, h⟩ := h
    exact h
def n_law_worked : List Str := ["_law_row", "_law_kept", "_law_alike", "_law_one", "_law_other", "_law_source_here"]
theorem sc_law_worked : FnScope n_law_worked ["_law_row", "_law_kept", "_law_alike"] (defScope s_law_worked) := ⟨rfl, rfl, rfl, by decide +kernel, rfl, by decide +kernel, by decide +kernel⟩
theorem ok_law_worked (c : He.SaysD fa fn K) (T : Tx K mg) (O_law_easy : OkF P w K mg base CX0 3 (He.fAd K ("_law_easy", none)) ["_law_word", "_law_one", "_law_other"] (sp_law_easy (enOf K))) (O_law_give : OkF P w K mg base CX0 1 (He.fAd K ("_law_give", none)) ["_law_source_here", "_law_kept", "_law_alike"] (sp_law_give (enOf K))) (O_law_put_anew : OkF P w K mg base CX0 1 (He.fAd K ("_law_put_anew", none)) ["_law_name", "_law_kept", "_law_alike"] (sp_law_put_anew (enOf K))) (O_law_set : OkF P w K mg base CX0 2 (He.fAd K ("_law_set", none)) ["_law_name", "_law_source_here", "_law_kept", "_law_alike"] (sp_law_set (enOf K))) : OkF P w K mg base CX0 4 (He.fAd K ("_law_worked", none)) ["_law_row", "_law_kept", "_law_alike"] (sp_law_worked (enOf K)) := by
  obtain ⟨fd, F⟩ := c.def_ 33 (d := dd_law_worked) rfl
  refine ⟨fd, F.ok sc_law_worked (fun vs H Q E h => ?_) (fun cdv A outer s H vs Q E hr h => ⟨t_law_worked (enOf K), PSs.nox ?_, ?_⟩), F.bindsN (fun _ _ _ _ _ _ us hl => match us, hl with | [_, _, _], _ => rfl), F.kp⟩
  · obtain ⟨a0, a1, a2, rfl, _⟩ := h
    rfl
  · have hu := hr.units; have hu1 := hu_of hr
    exact pss_cons (ps_set (i := 3) sc_law_worked.nd rfl (Or.inl rfl) (pe_callO O_law_give (hr.mono (by decide)) (by rfl) T.g_law_give pass0 (pa_cons (pe_ix (ix_A hu) (pv 0) (pe_int) (fun _ _ => rfl)) (pa_cons (pv 1) (pa_cons (pv 2) (pa_nil))))))
      (pss_cons (ps_if (pt_cmpR (op_InA hu) (pe_ix (ix_A hu) (pv 0) (pe_int) (fun _ _ => rfl)) (pe_lstN (pa_cons (pe_str) (pa_cons (pe_str) (pa_nil)))) (by rfl)) (pss_one (ps_ret (pe_callO O_law_set (hr.mono (by decide)) (by rfl) T.g_law_set pass0 (pa_cons (pe_ix (ix_A hu) (pv 0) (pe_int) (fun _ _ => rfl)) (pa_cons (pv 3) (pa_cons (pv 1) (pa_cons (pv 2) (pa_nil)))))))) (pss_nil))
      (pss_cons (ps_set (i := 4) sc_law_worked.nd rfl (Or.inl rfl) (pe_callO O_law_give (hr.mono (by decide)) (by rfl) T.g_law_give pass0 (pa_cons (pe_ix (ix_A hu) (pv 0) (pe_int) (fun _ _ => rfl)) (pa_cons (pv 1) (pa_cons (pv 2) (pa_nil))))))
      (pss_cons (ps_set (i := 5) sc_law_worked.nd rfl (Or.inl rfl) (pe_callO O_law_easy (hr.mono (by decide)) (by rfl) T.g_law_easy pass0 (pa_cons (pe_ix (ix_A hu) (pv 0) (pe_int) (fun _ _ => rfl)) (pa_cons (pv 3) (pa_cons (pv 4) (pa_nil))))))
      (pss_cons (ps_if (pt_cmpR op_notN (pv 5) (pe_non) (nomark _)) (pss_one (ps_ret (pe_callO O_law_set (hr.mono (by decide)) (by rfl) T.g_law_set pass0 (pa_cons (pe_ix (ix_A hu) (pv 0) (pe_int) (fun _ _ => rfl)) (pa_cons (pv 5) (pa_cons (pv 1) (pa_cons (pv 2) (pa_nil)))))))) (pss_nil))
      (pss_cons (ps_expr (pe_callO O_law_put_anew (hr.mono (by decide)) (by rfl) T.g_law_put_anew pass0 (pa_cons (pe_ix (ix_A hu) (pv 0) (pe_int) (fun _ _ => rfl)) (pa_cons (pv 1) (pa_cons (pv 2) (pa_nil))))))
      (pss_one (ps_ret (pe_lstN (pa_cons (pe_tupN (pa_cons (pe_ix (ix_A hu) (pv 0) (pe_int) (fun _ _ => rfl)) (pa_cons (pe_ix (ix_A hu) (pv 0) (pe_int) (fun _ _ => rfl)) (pa_cons (pv 3) (pa_cons (pv 4) (pa_nil)))))) (pa_nil))))))))))
  · obtain ⟨a0, a1, a2, rfl, h⟩ := h
    exact h
def n_known : List Str := ["trace", "facts", "found", "row"]
theorem sc_known : FnScope n_known ["trace"] (defScope s_known) := ⟨rfl, rfl, rfl, by decide +kernel, rfl, by decide +kernel, by decide +kernel⟩
theorem ok_known (c : He.SaysD fa fn K) (T : Tx K mg) (O_Facts_init : OkF P w K mg base CX0 1 (He.fAd K ("Facts", some "__init__")) ["self"] (sp_Facts_init (enOf K))) (O_Facts_root : OkF P w K mg base CX0 1 (He.fAd K ("Facts", some "root")) ["self", "source"] (sp_Facts_root (enOf K))) (O_guard_row : OkF P w K mg base CX0 2 (He.fAd K ("guard_row", none)) ["facts", "row"] (sp_guard_row (enOf K))) (O_set_row : OkF P w K mg base CX0 3 (He.fAd K ("set_row", none)) ["facts", "name", "source"] (sp_set_row (enOf K))) (O_work_row : OkF P w K mg base CX0 4 (He.fAd K ("work_row", none)) ["facts", "row"] (sp_work_row (enOf K))) : OkF P w K mg base CX0 5 (He.fAd K ("known", none)) ["trace"] (sp_known (enOf K)) := by
  obtain ⟨fd, F⟩ := c.def_ 11 (d := dd_known) rfl
  obtain ⟨fd_Facts_init, F_Facts_init, b_Facts_init, _⟩ := O_Facts_init
  obtain ⟨fd_Facts_root, F_Facts_root, b_Facts_root, _⟩ := O_Facts_root
  refine ⟨fd, F.ok sc_known (fun vs H Q E h => ?_) (fun cdv A outer s H vs Q E hr h => ⟨t_known (enOf K), PSs.nox ?_, ?_⟩), F.bindsN (fun _ _ _ _ _ _ us hl => match us, hl with | [_], _ => rfl), F.kp⟩
  · obtain ⟨a0, rfl, _⟩ := h
    rfl
  · have hu := hr.units; have hu1 := hu_of hr
    exact pss_cons (ps_set (i := 1) sc_known.nd rfl (Or.inl rfl) (pe_make0 T.k_Facts F_Facts_init (hr.mono (by decide)) (by rfl) T.g_Facts b_Facts_init .nil pass0))
      (pss_cons (ps_set (i := 2) sc_known.nd rfl (Or.inl rfl) (pe_lstN (pa_nil)))
      (pss_cons (ps_for PassesOwn.never rfl (pi_list (pe_ix (ix_A hu) (pv 0) (pe_int) (fun _ _ => rfl))) (pg_name (i := 3) sc_known.nd rfl (Or.inl rfl)) (pss_one (ps_if (pt_cmpR (op_InA hu) (pe_ix (ix_A hu) (pv 3) (pe_int) (fun _ _ => rfl)) (pe_tupN (pa_cons (pe_str) (pa_cons (pe_str) (pa_nil)))) (by rfl)) (pss_one (ps_set (i := 2) sc_known.nd rfl (Or.inl rfl) (pe_op op_Add (pv 2) (pe_callO O_set_row (hr.mono (by decide)) (by rfl) T.g_set_row pass0 (pa_cons (pv 1) (pa_cons (pe_ix (ix_A hu) (pv 3) (pe_int) (fun _ _ => rfl)) (pa_cons (pe_meth (pv 1) T.cl_Facts T.m_Facts_root F_Facts_root (hr.mono (by decide)) b_Facts_root .nil pass0 (pa_cons (pe_ix (ix_A hu) (pv 3) (pe_int) (fun _ _ => rfl)) (pa_nil))) (pa_nil)))))))) (pss_one (ps_if (pt_cmpR (op_EqA hu) (pe_ix (ix_A hu) (pv 3) (pe_int) (fun _ _ => rfl)) (pe_str) (nomark _)) (pss_one (ps_expr (pe_bm PySem.F.plainAttrs_list PySem.F.slot_list_append PySem.F.type_list_append mt_appN (pv 2) (pa_cons (pe_tupN (pa_cons (pe_str) (pa_cons (pe_meth (pv 1) T.cl_Facts T.m_Facts_root F_Facts_root (hr.mono (by decide)) b_Facts_root .nil pass0 (pa_cons (pe_ix (ix_A hu) (pv 3) (pe_int) (fun _ _ => rfl)) (pa_nil))) (pa_nil)))) pa_nil)))) (pss_one (ps_if (pt_cmpR (op_EqA hu) (pe_ix (ix_A hu) (pv 3) (pe_int) (fun _ _ => rfl)) (pe_str) (nomark _)) (pss_one (ps_set (i := 2) sc_known.nd rfl (Or.inl rfl) (pe_op op_Add (pv 2) (pe_callO O_guard_row (hr.mono (by decide)) (by rfl) T.g_guard_row pass0 (pa_cons (pv 1) (pa_cons (pv 3) (pa_nil))))))) (pss_one (ps_set (i := 2) sc_known.nd rfl (Or.inl rfl) (pe_op op_Add (pv 2) (pe_callO O_work_row (hr.mono (by decide)) (by rfl) T.g_work_row pass0 (pa_cons (pv 1) (pa_cons (pv 3) (pa_nil))))))))))))))
      (pss_one (ps_ret (pe_tupN (pa_cons (pe_ix (ix_A hu) (pv 0) (pe_int) (fun _ _ => rfl)) (pa_cons (pv 2) (pa_cons (pe_ix (ix_A hu) (pv 0) (pe_int) (fun _ _ => rfl)) (pa_nil)))))))))
  · obtain ⟨a0, rfl, h⟩ := h
    exact h
def n_law_known : List Str := ["_law_rows", "_law_kept", "_law_alike", "_law_found", "_law_row"]
theorem sc_law_known : FnScope n_law_known ["_law_rows"] (defScope s_law_known) := ⟨rfl, rfl, rfl, by decide +kernel, rfl, by decide +kernel, by decide +kernel⟩
theorem ok_law_known (c : He.SaysD fa fn K) (T : Tx K mg) (O_law_asked : OkF P w K mg base CX0 2 (He.fAd K ("_law_asked", none)) ["_law_row", "_law_kept", "_law_alike"] (sp_law_asked (enOf K))) (O_law_give : OkF P w K mg base CX0 1 (He.fAd K ("_law_give", none)) ["_law_source_here", "_law_kept", "_law_alike"] (sp_law_give (enOf K))) (O_law_worked : OkF P w K mg base CX0 4 (He.fAd K ("_law_worked", none)) ["_law_row", "_law_kept", "_law_alike"] (sp_law_worked (enOf K))) : OkF P w K mg base CX0 5 (He.fAd K ("_law_known", none)) ["_law_rows"] (sp_law_known (enOf K)) := by
  obtain ⟨fd, F⟩ := c.def_ 34 (d := dd_law_known) rfl
  refine ⟨fd, F.ok sc_law_known (fun vs H Q E h => ?_) (fun cdv A outer s H vs Q E hr h => ⟨t_law_known (enOf K), PSs.nox ?_, ?_⟩), F.bindsN (fun _ _ _ _ _ _ us hl => match us, hl with | [_], _ => rfl), F.kp⟩
  · obtain ⟨a0, rfl, _⟩ := h
    rfl
  · have hu := hr.units; have hu1 := hu_of hr
    exact pss_cons (ps_set (i := 1) sc_law_known.nd rfl (Or.inl rfl) (pe_dnewN))
      (pss_cons (ps_set (i := 2) sc_law_known.nd rfl (Or.inl rfl) (pe_dnewN))
      (pss_cons (ps_set (i := 3) sc_law_known.nd rfl (Or.inl rfl) (pe_lstN (pa_nil)))
      (pss_cons (ps_for PassesOwn.never rfl (pi_list (pv 0)) (pg_name (i := 4) sc_law_known.nd rfl (Or.inl rfl)) (pss_one (ps_if (pt_cmpR (op_EqA hu) (pe_ix (ix_A hu) (pv 4) (pe_int) (fun _ _ => rfl)) (pe_str) (nomark _)) (pss_one (ps_set (i := 3) sc_law_known.nd rfl (Or.inl rfl) (pe_op op_Add (pv 3) (pe_callO O_law_asked (hr.mono (by decide)) (by rfl) T.g_law_asked pass0 (pa_cons (pv 4) (pa_cons (pv 1) (pa_cons (pv 2) (pa_nil)))))))) (pss_one (ps_if (pt_cmpR (op_EqA hu) (pe_ix (ix_A hu) (pv 4) (pe_int) (fun _ _ => rfl)) (pe_str) (nomark _)) (pss_one (ps_expr (pe_bm PySem.F.plainAttrs_list PySem.F.slot_list_append PySem.F.type_list_append mt_appN (pv 3) (pa_cons (pe_tupN (pa_cons (pe_str) (pa_cons (pe_callO O_law_give (hr.mono (by decide)) (by rfl) T.g_law_give pass0 (pa_cons (pe_ix (ix_A hu) (pv 4) (pe_int) (fun _ _ => rfl)) (pa_cons (pv 1) (pa_cons (pv 2) (pa_nil))))) (pa_nil)))) pa_nil)))) (pss_one (ps_set (i := 3) sc_law_known.nd rfl (Or.inl rfl) (pe_op op_Add (pv 3) (pe_callO O_law_worked (hr.mono (by decide)) (by rfl) T.g_law_worked pass0 (pa_cons (pv 4) (pa_cons (pv 1) (pa_cons (pv 2) (pa_nil)))))))))))))
      (pss_one (ps_ret (pv 3))))))
  · obtain ⟨a0, rfl, h⟩ := h
    exact h
def n_law_fits_k06 : List Str := ["_law_found", "_law_trace_here", "_law_script", "_law_names_here", "_law_turn", "_law_values"]
theorem sc_law_fits_k06 : FnScope n_law_fits_k06 ["_law_found", "_law_trace_here", "_law_script", "_law_names_here"] (defScope s_law_fits_k06) := ⟨rfl, rfl, rfl, by decide +kernel, rfl, by decide +kernel, by decide +kernel⟩
theorem ok_law_fits_k06 (c : He.SaysD fa fn K) (T : Tx K mg) (O_law_drawn_values : OkF P w K mg base CX0 2 (He.fAd K ("_law_drawn_values", none)) ["_law_script", "_law_names_here", "_law_turn"] (sp_law_drawn_values (enOf K))) (O_law_known : OkF P w K mg base CX0 5 (He.fAd K ("_law_known", none)) ["_law_rows"] (sp_law_known (enOf K))) (O_law_round : OkF P w K mg base CX0 3 (He.fAd K ("_law_round", none)) ["_law_trace_here", "_law_names_here"] (sp_law_round (enOf K))) (O_law_trace : OkF P w K mg base CX0 4 (He.fAd K ("_law_trace", none)) ["_law_trace_here"] (sp_law_trace (enOf K))) : OkF P w K mg base CX0 6 (He.fAd K ("_law_fits", none)) ["_law_found", "_law_trace_here", "_law_script", "_law_names_here"] (sp_law_fits_k06 (enOf K)) := by
  obtain ⟨fd, F⟩ := c.def_ 35 (d := dd_law_fits_k06) rfl
  refine ⟨fd, F.ok sc_law_fits_k06 (fun vs H Q E h => ?_) (fun cdv A outer s H vs Q E hr h => ⟨t_law_fits_k06 (enOf K), PSs.nox ?_, ?_⟩), F.bindsN (fun _ _ _ _ _ _ us hl => match us, hl with | [_, _, _, _], _ => rfl), F.kp⟩
  · obtain ⟨a0, a1, a2, a3, rfl, _⟩ := h
    rfl
  · have hu := hr.units; have hu1 := hu_of hr
    exact pss_cons (ps_if (PW.pt (pw_or (pt_not (pt_val (pe_callO O_law_trace (hr.mono (by decide)) (by rfl) T.g_law_trace pass0 (pa_cons (pv 0) (pa_nil))))) (pw_or (pt_cmpR (op_NeA hu) (pe_ix (ix_A hu) (pv 0) (pe_int) (fun _ _ => rfl)) (pe_ix (ix_A hu) (pv 1) (pe_int) (fun _ _ => rfl)) (nomark _)) (pw_or (pt_cmpR (op_NeA hu) (pe_ix (ix_A hu) (pv 0) (pe_int) (fun _ _ => rfl)) (pe_ix (ix_A hu) (pv 1) (pe_int) (fun _ _ => rfl)) (nomark _)) (pw_or1 (pt_cmpR op_gt (pe_callB c_len (by rfl) T.n_len (by decide +kernel) (pa_cons (pe_ix (ix_A hu) (pv 0) (pe_int) (fun _ _ => rfl)) (pa_nil))) (pe_callB c_len (by rfl) T.n_len (by decide +kernel) (pa_cons (pe_ix (ix_A hu) (pv 1) (pe_int) (fun _ _ => rfl)) (pa_nil))) (nomark _))))))) (pss_one (ps_ret (pe_bl))) (pss_nil))
      (pss_cons (ps_for PassesOwn.never rfl (pi_range1 (by rfl) T.n_range (pa_cons (pe_int) (pa_nil))) (pg_name (i := 4) sc_law_fits_k06.nd rfl (Or.inl rfl)) (pss_cons (ps_set (i := 5) sc_law_fits_k06.nd rfl (Or.inl rfl) (pe_callO O_law_drawn_values (hr.mono (by decide)) (by rfl) T.g_law_drawn_values pass0 (pa_cons (pv 2) (pa_cons (pv 3) (pa_cons (pv 4) (pa_nil))))))
      (pss_one (ps_if (pt_cmpR (op_NeA hu) (pe_callO O_law_round (hr.mono (by decide)) (by rfl) T.g_law_round pass0 (pa_cons (pv 0) (pa_cons (pv 5) (pa_nil)))) (pe_callO O_law_round (hr.mono (by decide)) (by rfl) T.g_law_round pass0 (pa_cons (pv 1) (pa_cons (pv 5) (pa_nil)))) (nomark _)) (pss_one (ps_ret (pe_bl))) (pss_nil)))))
      (pss_one (ps_ret (pe_cmpR (op_EqA hu) (pe_ix (ix_A hu) (pv 0) (pe_int) (fun _ _ => rfl)) (pe_callO O_law_known (hr.mono (by decide)) (by rfl) T.g_law_known pass0 (pa_cons (pe_ix (ix_A hu) (pv 1) (pe_int) (fun _ _ => rfl)) (pa_nil))) (nomark _)))))
  · obtain ⟨a0, a1, a2, a3, rfl, h⟩ := h
    exact h
def n_law_k06 : List Str := ["_law_script", "_law_names_here", "_law_trace_here", "_law_kept", "_law_found", "_law_due"]
theorem sc_law_k06 : FnScope n_law_k06 ["_law_script"] (defScope s_law_k06) := ⟨rfl, rfl, rfl, by decide +kernel, rfl, by decide +kernel, by decide +kernel⟩
theorem ok_law_k06 {fd : FuncData} (T : Tx K mg) (F : FunD K dd_law_k06.name dd_law_k06.qual dd_law_k06.params dd_law_k06.body dd_law_k06.scope (dd_law_k06.dvs K) (dd_law_k06.kws K) (He.fAd K dd_law_k06.at_) fd) (O_known : OkF P w K mg base CX0 5 (He.fAd K ("known", none)) ["trace"] (sp_known (enOf K))) (O_law_cell_at : OkF P w K mg base CX0 1 (He.fAd K ("_law_cell_at", none)) ["_law_script", "_law_k"] (sp_law_cell_at (enOf K))) (O_law_drawn_trace : OkF P w K mg base CX0 4 (He.fAd K ("_law_drawn_trace", none)) ["_law_script", "_law_names_here"] (sp_law_drawn_trace (enOf K))) (O_law_fits_k06 : OkF P w K mg base CX0 6 (He.fAd K ("_law_fits", none)) ["_law_found", "_law_trace_here", "_law_script", "_law_names_here"] (sp_law_fits_k06 (enOf K))) (O_law_names : OkF P w K mg base CX0 1 (He.fAd K ("_law_names", none)) ["_law_cell"] (sp_law_names (enOf K))) : FnOk P w K mg base CX0 7 (He.fAd K ("law", none)) fd ["_law_script"] (sp_law_k06 (enOf K)) := by
  refine F.ok sc_law_k06 (fun vs H Q E h => ?_) (fun cdv A outer s H vs Q E hr h => ⟨t_law_k06 (enOf K), PSs.nox ?_, ?_⟩)
  · obtain ⟨a0, rfl, _⟩ := h
    rfl
  · have hu := hr.units; have hu1 := hu_of hr
    exact pss_cons (ps_set (i := 1) sc_law_k06.nd rfl (Or.inl rfl) (pe_callO O_law_names (hr.mono (by decide)) (by rfl) T.g_law_names pass0 (pa_cons (pe_callO O_law_cell_at (hr.mono (by decide)) (by rfl) T.g_law_cell_at pass0 (pa_cons (pv 0) (pa_cons (pe_int) (pa_nil)))) (pa_nil))))
      (pss_cons (ps_set (i := 2) sc_law_k06.nd rfl (Or.inl rfl) (pe_callO O_law_drawn_trace (hr.mono (by decide)) (by rfl) T.g_law_drawn_trace pass0 (pa_cons (pv 0) (pa_cons (pv 1) (pa_nil)))))
      (pss_cons (ps_set (i := 3) sc_law_k06.nd rfl (Or.inl rfl) (pe_tupN (pa_cons (pe_ix (ix_A hu) (pv 2) (pe_int) (fun _ _ => rfl)) (pa_cons (pe_callTy (c_list rfl) (by rfl) T.n_list (by decide +kernel) (pa_cons (pe_ix (ix_A hu) (pv 2) (pe_int) (fun _ _ => rfl)) (pa_nil))) (pa_cons (pe_ix (ix_A hu) (pv 2) (pe_int) (fun _ _ => rfl)) (pa_nil))))))
      (pss_cons (ps_set (i := 4) sc_law_k06.nd rfl (Or.inl rfl) (pe_callO O_known (hr.mono (by decide)) (by rfl) T.g_known pass0 (pa_cons (pv 3) (pa_nil))))
      (pss_cons (ps_if (PW.pt (pw_or (pt_not (pt_val (pe_callO O_law_fits_k06 (hr.mono (by decide)) (by rfl) T.g_law_fits_k06 pass0 (pa_cons (pv 4) (pa_cons (pv 2) (pa_cons (pv 0) (pa_cons (pv 1) (pa_nil)))))))) (pw_or1 (pt_cmpR (op_NeA hu) (pv 3) (pv 2) (nomark _))))) (pss_one (ps_ret (pe_bl))) (pss_nil))
      (pss_cons (ps_set (i := 5) sc_law_k06.nd rfl (Or.inl rfl) (pe_callTy (c_list rfl) (by rfl) T.n_list (by decide +kernel) (pa_cons (pe_ix (ix_A hu) (pv 4) (pe_int) (fun _ _ => rfl)) (pa_nil))))
      (pss_cons (ps_expr (pe_bm0 PySem.F.plainAttrs_list PySem.F.slot_list_clear PySem.F.type_list_clear mt_clearN (pe_ix (ix_A hu) (pv 4) (pe_int) (fun _ _ => rfl))))
      (pss_cons (ps_set (i := 4) sc_law_k06.nd rfl (Or.inl rfl) (pe_callO O_known (hr.mono (by decide)) (by rfl) T.g_known pass0 (pa_cons (pv 3) (pa_nil))))
      (pss_one (ps_ret (pe_and (pe_callO O_law_fits_k06 (hr.mono (by decide)) (by rfl) T.g_law_fits_k06 pass0 (pa_cons (pv 4) (pa_cons (pv 2) (pa_cons (pv 0) (pa_cons (pv 1) (pa_nil)))))) (pe_one (pe_cmpR (op_EqA hu) (pe_callB c_len (by rfl) T.n_len (by decide +kernel) (pa_cons (pe_ix (ix_A hu) (pv 4) (pe_int) (fun _ _ => rfl)) (pa_nil))) (pe_callB c_len (by rfl) T.n_len (by decide +kernel) (pa_cons (pv 5) (pa_nil))) (nomark _)))))))))))))
  · obtain ⟨a0, rfl, h⟩ := h
    exact h
theorem ok_all {fd : FuncData} (c : He.SaysD fa fn K) (T : Tx K mg) (F : FunD K dd_law_k06.name dd_law_k06.qual dd_law_k06.params dd_law_k06.body dd_law_k06.scope (dd_law_k06.dvs K) (dd_law_k06.kws K) (He.fAd K dd_law_k06.at_) fd) : FnOk P w K mg base CX0 7 (He.fAd K ("law", none)) fd ["_law_script"] (sp_law_k06 (enOf K)) := by
  have O_worked := ok_worked (P := P) (w := w) (base := base) c T 
  have O_Facts_init := ok_Facts_init (P := P) (w := w) (base := base) c T 
  have O_Facts_root := ok_Facts_root (P := P) (w := w) (base := base) c T 
  have O_Facts_forget := ok_Facts_forget (P := P) (w := w) (base := base) c T 
  have O_Facts_passed := ok_Facts_passed (P := P) (w := w) (base := base) c T 
  have O_Facts_holds := ok_Facts_holds (P := P) (w := w) (base := base) c T 
  have O_law_cell_at := ok_law_cell_at (P := P) (w := w) (base := base) c T 
  have O_law_whole := ok_law_whole (P := P) (w := w) (base := base) c T 
  have O_law_names := ok_law_names (P := P) (w := w) (base := base) c T 
  have O_law_number := ok_law_number (P := P) (w := w) (base := base) c T 
  have O_law_pattern := ok_law_pattern (P := P) (w := w) (base := base) c T 
  have O_law_value := ok_law_value (P := P) (w := w) (base := base) c T 
  have O_law_give := ok_law_give (P := P) (w := w) (base := base) c T 
  have O_law_put_anew := ok_law_put_anew (P := P) (w := w) (base := base) c T 
  have O_Facts_note := ok_Facts_note (P := P) (w := w) (base := base) c T O_Facts_forget
  have O_simple := ok_simple (P := P) (w := w) (base := base) c T O_worked
  have O_guard_row := ok_guard_row (P := P) (w := w) (base := base) c T O_Facts_holds O_Facts_passed O_Facts_root
  have O_law_mixed := ok_law_mixed (P := P) (w := w) (base := base) c T O_law_number
  have O_law_drawn_values := ok_law_drawn_values (P := P) (w := w) (base := base) c T O_law_cell_at O_law_number
  have O_law_done := ok_law_done (P := P) (w := w) (base := base) c T O_law_value
  have O_law_told := ok_law_told (P := P) (w := w) (base := base) c T O_law_value
  have O_law_source := ok_law_source (P := P) (w := w) (base := base) c T O_law_whole
  have O_law_set := ok_law_set (P := P) (w := w) (base := base) c T O_law_give O_law_put_anew
  have O_law_asked := ok_law_asked (P := P) (w := w) (base := base) c T O_law_give
  have O_set_row := ok_set_row (P := P) (w := w) (base := base) c T O_Facts_note O_Facts_root
  have O_law_drawn_row := ok_law_drawn_row (P := P) (w := w) (base := base) c T O_law_mixed O_law_number
  have O_law_round := ok_law_round (P := P) (w := w) (base := base) c T O_law_done O_law_told O_law_value
  have O_law_guard := ok_law_guard (P := P) (w := w) (base := base) c T O_law_source O_law_whole
  have O_law_easy := ok_law_easy (P := P) (w := w) (base := base) c T O_law_done
  have O_work_row := ok_work_row (P := P) (w := w) (base := base) c T O_Facts_forget O_Facts_root O_set_row O_simple
  have O_law_drawn_trace := ok_law_drawn_trace (P := P) (w := w) (base := base) c T O_law_cell_at O_law_drawn_row O_law_pattern
  have O_law_trace := ok_law_trace (P := P) (w := w) (base := base) c T O_law_guard O_law_source O_law_whole
  have O_law_worked := ok_law_worked (P := P) (w := w) (base := base) c T O_law_easy O_law_give O_law_put_anew O_law_set
  have O_known := ok_known (P := P) (w := w) (base := base) c T O_Facts_init O_Facts_root O_guard_row O_set_row O_work_row
  have O_law_known := ok_law_known (P := P) (w := w) (base := base) c T O_law_asked O_law_give O_law_worked
  have O_law_fits_k06 := ok_law_fits_k06 (P := P) (w := w) (base := base) c T O_law_drawn_values O_law_known O_law_round O_law_trace
  exact ok_law_k06 T F O_known O_law_cell_at O_law_drawn_trace O_law_fits_k06 O_law_names
end
theorem tx {K : PySem.W.Frag} {h : Heap} {mg : Str → Option Value} (X : K.In h) (G : h.Ns mainGlobals mg) (c0 : Hx.SaysX fa fn ex K) (c : He.SaysD fa fn K) : Tx K mg := ⟨He.int_ok X G (c.fact 32 (f := .int "BEYOND" 1000000) rfl),
  He.glo_ok X G (c.fact 0 (f := .glo "Facts") rfl),
  He.glo_ok X G (c.fact 1 (f := .glo "_law_asked") rfl),
  He.glo_ok X G (c.fact 2 (f := .glo "_law_cell_at") rfl),
  He.glo_ok X G (c.fact 3 (f := .glo "_law_done") rfl),
  He.glo_ok X G (c.fact 4 (f := .glo "_law_drawn_row") rfl),
  He.glo_ok X G (c.fact 5 (f := .glo "_law_drawn_trace") rfl),
  He.glo_ok X G (c.fact 6 (f := .glo "_law_drawn_values") rfl),
  He.glo_ok X G (c.fact 7 (f := .glo "_law_easy") rfl),
  He.glo_ok X G (c.fact 8 (f := .glo "_law_fits") rfl),
  He.glo_ok X G (c.fact 9 (f := .glo "_law_give") rfl),
  He.glo_ok X G (c.fact 10 (f := .glo "_law_guard") rfl),
  He.glo_ok X G (c.fact 11 (f := .glo "_law_known") rfl),
  He.glo_ok X G (c.fact 12 (f := .glo "_law_mixed") rfl),
  He.glo_ok X G (c.fact 13 (f := .glo "_law_names") rfl),
  He.glo_ok X G (c.fact 14 (f := .glo "_law_number") rfl),
  He.glo_ok X G (c.fact 15 (f := .glo "_law_pattern") rfl),
  He.glo_ok X G (c.fact 16 (f := .glo "_law_put_anew") rfl),
  He.glo_ok X G (c.fact 17 (f := .glo "_law_round") rfl),
  He.glo_ok X G (c.fact 18 (f := .glo "_law_set") rfl),
  He.glo_ok X G (c.fact 19 (f := .glo "_law_source") rfl),
  He.glo_ok X G (c.fact 20 (f := .glo "_law_told") rfl),
  He.glo_ok X G (c.fact 21 (f := .glo "_law_trace") rfl),
  He.glo_ok X G (c.fact 22 (f := .glo "_law_value") rfl),
  He.glo_ok X G (c.fact 23 (f := .glo "_law_whole") rfl),
  He.glo_ok X G (c.fact 24 (f := .glo "_law_worked") rfl),
  He.glo_ok X G (c.fact 25 (f := .glo "guard_row") rfl),
  He.glo_ok X G (c.fact 26 (f := .glo "known") rfl),
  He.glo_ok X G (c.fact 27 (f := .glo "set_row") rfl),
  He.glo_ok X G (c.fact 28 (f := .glo "simple") rfl),
  He.glo_ok X G (c.fact 29 (f := .glo "work_row") rfl),
  He.glo_ok X G (c.fact 30 (f := .glo "worked") rfl),
  He.free_ok X G (c.fact 33 (f := .free "all") rfl),
  He.free_ok X G (c.fact 34 (f := .free "bool") rfl),
  He.free_ok X G (c.fact 35 (f := .free "dict") rfl),
  He.free_ok X G (c.fact 36 (f := .free "int") rfl),
  He.free_ok X G (c.fact 37 (f := .free "isinstance") rfl),
  He.free_ok X G (c.fact 38 (f := .free "len") rfl),
  He.free_ok X G (c.fact 39 (f := .free "list") rfl),
  He.free_ok X G (c.fact 40 (f := .free "max") rfl),
  He.free_ok X G (c.fact 41 (f := .free "range") rfl),
  He.free_ok X G (c.fact 42 (f := .free "str") rfl),
  He.free_ok X G (c.fact 43 (f := .free "tuple") rfl),
  He.cls_ok (c.fact 44 (f := .cls "Facts") rfl),
  He.mkr_ok (c.fact 45 (f := .mkr "Facts") rfl),
  He.meth_ok (c.fact 46 (f := .meth "Facts" "root") rfl),
  He.meth_ok (c.fact 47 (f := .meth "Facts" "forget") rfl),
  He.meth_ok (c.fact 48 (f := .meth "Facts" "note") rfl),
  He.meth_ok (c.fact 49 (f := .meth "Facts" "passed") rfl),
  He.meth_ok (c.fact 50 (f := .meth "Facts" "holds") rfl),
  He.noat_ok (c.fact 51 (f := .noat "Facts" "alike") rfl),
  He.noat_ok (c.fact 52 (f := .noat "Facts" "some") rfl)⟩
end H_k06

open PySem PySem.W PySem.Calls PyProof.Rows
theorem PySem.Challenge.cw_tracefold_k06_what_is_known_holds : PySem.Challenge.rw_tracefold_k06_what_is_known.Holds := by
  w_on; o_law
  refine HandSHeadRun.head_any (r := OpenLaw.row PySem.Challenge.rw_tracefold_k06_what_is_known) (q := view (OpenLaw.row PySem.Challenge.rw_tracefold_k06_what_is_known).prog [35]) (H := H_k06.hk) (ob := H_k06.ob) (M := 9000) (loose := H_k06.loose) (d := HandSHeadRun.topDef (OpenLaw.row PySem.Challenge.rw_tracefold_k06_what_is_known).prog 35) (kwd := []) H_k06.ob_eq
    (by kernel_rfl) (fun s => by kernel_rfl) H_k06.run (by kernel_rfl) (by kernel_rfl) (by kernel_rfl) (by rfl) (by first | assumption | decide +kernel) (by decide +kernel) ⟨rfl, rfl, rfl, rfl, rfl, by decide +kernel⟩ ?hw ?hc
  case hw => w_witness2
  case hc =>
    refine L2.walk_ofE (l := PySem.Challenge.rw_tracefold_k06_what_is_known) (n := 63) (k := 7) (x := "_law_script") (CX := L2.CX0) rfl (by decide) (by kernel_rfl) ⟨rfl, by decide, by decide⟩ ?F (fun _ _ _ _ z => z)
    intro w mg fa h Y G hmg0
    obtain ⟨K, KX, c⟩ := Y
    have hmg : mg ("law" : PySem.Str) = some (.ref fa) := by
      have e : (HandSHeadRun.topDef (OpenLaw.row PySem.Challenge.rw_tracefold_k06_what_is_known).prog 35).name = ("law" : PySem.Str) := by kernel_rfl
      rw [← e]
      exact hmg0
    have T := H_k06.tx KX G c c.d
    have e := hmg.symm.trans (He.glo_ok KX G (c.d.fact 31 (f := .glo "law") rfl))
    cases e
    obtain ⟨fd, F⟩ := c.d.def_ 36 (d := H_k06.dd_law_k06) rfl
    have lkB := L2.FunD.bindsA (ps := ["_law_script"]) F fun _ _ _ _ _ _ us hl => match us, hl with | [_], _ => rfl
    refine ⟨K, fd, Tf.sp_law_k06 (Tf.enOf K), KX, fun s v => lkB s [v] rfl, fun H a ns hl hO hS => ?_, fun base hk hb => ?_⟩
    · exact Tf.true_k06 ⟨T.cl_Facts, T.a_Facts_alike, T.a_Facts_some⟩ hl hS
    · exact H_k06.ok_all (P := (PySem.Challenge.rw_tracefold_k06_what_is_known).prog) (w := w) (base := base) c.d T F
